import PyProof.Rows.All
import Wide.All
import OpenK.AllK
import Wide.FinOn
import HandS.ForMost
import HandS.Exc
import HandS.ExcOwn
import HandS.ExcInit
import HandS.ExcField
import HandS.TryOnly
import HandS.TryMany
import HandS.CallSlots
import HandS.WordsExc
import HandS.IsInst
import HandS.Walk
import HandS.TupAny
import HandS.StrMore
import HandS.Zip
import HandS.Conv
import HandS.DictComp
import HandS.Defaults
import KE.KExcIs
import HandS.Iter
import HandS.Rev
import HandS.Style
import HandS.Sort
import HandS.Strs
import KE.KDictSum
import KE.KDictList
import KE.GoesEnum
import KE.GoesNew
import PySem.Challenge.RW_proseknot_k25_edits_and_papers
set_option Elab.async false
set_option linter.all false
set_option maxRecDepth 100000
set_option maxHeartbeats 8000000
/-! DA: plain data over the abstract heap -/
namespace DL
open PySem PySem.Spec PyProof.Rows L2

/-- plain data: what a value stands for, the heap left out -/
inductive D where
  | non | bl (b : Bool) | int (i : Int) | str (x : Str) | tup (l : List D) | lst (l : List D) | dct (l : List (Key × D)) | opq (φ : PySem.W.Frag → V → Hp → Prop)

/-- every read of H is one of H' -/
def Sim (H H' : Hp) : Prop := ∀ b u, (∀ o w, u ≠ .frz o w) → Rd H b u → Rd H' b u
theorem Sim.refl (H : Hp) : Sim H H := fun _ _ _ h => h
theorem Sim.trans {H H1 H2 : Hp} (a : Sim H H1) (b : Sim H1 H2) : Sim H H2 := fun c u n h => b c u n (a c u n h)
theorem Sim.of {H H' : Hp} (e : Same H H') : Sim H H' := fun b u _ h => by
  rcases h with h | ⟨o, h⟩
  · exact .inl (e _ _ h)
  · exact .inr ⟨o, e _ _ h⟩
theorem Sim.seqL {K : PySem.W.Frag} {H H' : Hp} {a : Addr} {xs : List V} (e : Sim H H') (h : SqL K H a xs) : SqL K H' a xs := by
  rcases h with h | h
  · exact .inl (e _ _ (fun _ _ z => nomatch z) h)
  · exact .inr h
theorem Sim.seqT {K : PySem.W.Frag} {H H' : Hp} {a : Addr} {xs : List V} (e : Sim H H') (h : SqT K H a xs) : SqT K H' a xs := by
  rcases h with h | h
  · exact .inl (e _ _ (fun _ _ z => nomatch z) h)
  · exact .inr h

theorem Sim.dk {H H' : Hp} {a : Addr} {xs : List (Key × V)} (e : Sim H H') (h : Rd H a (.dK xs)) : Rd H' a (.dK xs) := e a (.dK xs) (fun _ _ z => nomatch z) h

mutual
/-- the value v stands for d in the heap H -/
inductive Rep (K : PySem.W.Frag) (H : Hp) : D → V → Prop
  | non : Rep K H .non .non
  | bl (b : Bool) : Rep K H (.bl b) (.bl b)
  | int (i : Int) : Rep K H (.int i) (.int i)
  | str (x : Str) : Rep K H (.str x) (.str x)
  | tup {a : Addr} {xs : List V} {l : List D} : SqT K H a xs → Reps K H l xs → Rep K H (.tup l) (.ref a)
  | lst {a : Addr} {xs : List V} {l : List D} : SqL K H a xs → Reps K H l xs → Rep K H (.lst l) (.ref a)
  | dct {a : Addr} {xs : List (Key × V)} {l : List (Key × D)} : Rd H a (.dK xs) → RepK K H l xs → Rep K H (.dct l) (.ref a)
  | opq {φ : PySem.W.Frag → V → Hp → Prop} {v : V} {H0 : Hp} : Same H0 H → φ K v H0 → Rep K H (.opq φ) v
inductive Reps (K : PySem.W.Frag) (H : Hp) : List D → List V → Prop
  | nil : Reps K H [] []
  | cons {d : D} {v : V} {l : List D} {xs : List V} : Rep K H d v → Reps K H l xs → Reps K H (d :: l) (v :: xs)
inductive RepK (K : PySem.W.Frag) (H : Hp) : List (Key × D) → List (Key × V) → Prop
  | nil : RepK K H [] []
  | cons {k : Key} {d : D} {v : V} {l : List (Key × D)} {xs : List (Key × V)} : Rep K H d v → RepK K H l xs → RepK K H ((k, d) :: l) ((k, v) :: xs)
end

section
variable {K : PySem.W.Frag} {H H' : Hp}
theorem Rep.same (f : Same H H') {d : D} {v : V} (h : Rep K H d v) : Rep K H' d v :=
  have e := Sim.of f
  Rep.rec (motive_1 := fun d v _ => Rep K H' d v) (motive_2 := fun l xs _ => Reps K H' l xs) (motive_3 := fun l xs _ => RepK K H' l xs)
    .non .bl .int .str (fun h _ r => .tup (e.seqT h) r) (fun h _ r => .lst (e.seqL h) r) (fun h _ r => .dct (e.dk h) r) (fun h p => .opq (h.trans f) p)
    .nil (fun _ _ r t => .cons r t) .nil (fun _ _ r t => .cons r t) h
theorem Reps.same (f : Same H H') {l : List D} {xs : List V} (h : Reps K H l xs) : Reps K H' l xs :=
  have e := Sim.of f
  Reps.rec (motive_1 := fun d v _ => Rep K H' d v) (motive_2 := fun l xs _ => Reps K H' l xs) (motive_3 := fun l xs _ => RepK K H' l xs)
    .non .bl .int .str (fun h _ r => .tup (e.seqT h) r) (fun h _ r => .lst (e.seqL h) r) (fun h _ r => .dct (e.dk h) r) (fun h p => .opq (h.trans f) p)
    .nil (fun _ _ r t => .cons r t) .nil (fun _ _ r t => .cons r t) h
theorem RepK.same (f : Same H H') {l : List (Key × D)} {xs : List (Key × V)} (h : RepK K H l xs) : RepK K H' l xs :=
  have e := Sim.of f
  RepK.rec (motive_1 := fun d v _ => Rep K H' d v) (motive_2 := fun l xs _ => Reps K H' l xs) (motive_3 := fun l xs _ => RepK K H' l xs)
    .non .bl .int .str (fun h _ r => .tup (e.seqT h) r) (fun h _ r => .lst (e.seqL h) r) (fun h _ r => .dct (e.dk h) r) (fun h p => .opq (h.trans f) p)
    .nil (fun _ _ r t => .cons r t) .nil (fun _ _ r t => .cons r t) h
theorem Reps.length : ∀ {l : List D} {xs : List V}, Reps K H l xs → l.length = xs.length
  | _, _, .nil => rfl
  | _, _, .cons _ t => congrArg (· + 1) (Reps.length t)
theorem RepK.length : ∀ {l : List (Key × D)} {xs : List (Key × V)}, RepK K H l xs → l.length = xs.length
  | _, _, .nil => rfl
  | _, _, .cons _ t => congrArg (· + 1) (RepK.length t)
theorem Reps.get : ∀ {l : List D} {xs : List V} {i : Nat} {d : D}, Reps K H l xs → l[i]? = some d → ∃ v, xs[i]? = some v ∧ Rep K H d v
  | _, _, _, _, .nil, e => by simp at e
  | _, _, 0, _, .cons r _, e => by simp at e; subst e; exact ⟨_, rfl, r⟩
  | _, _, i + 1, d, .cons _ t, e => by
    obtain ⟨u, h1, h2⟩ := Reps.get (i := i) (d := d) t (by simpa using e)
    exact ⟨u, by simpa using h1, h2⟩
theorem Reps.get' : ∀ {l : List D} {xs : List V} {i : Nat} {v : V}, Reps K H l xs → xs[i]? = some v → ∃ d, l[i]? = some d ∧ Rep K H d v
  | _, _, _, _, .nil, e => by simp at e
  | _, _, 0, _, .cons r _, e => by simp at e; subst e; exact ⟨_, rfl, r⟩
  | _, _, i + 1, d, .cons _ t, e => by
    obtain ⟨u, h1, h2⟩ := Reps.get' (i := i) (v := d) t (by simpa using e)
    exact ⟨u, by simpa using h1, h2⟩
theorem Reps.append : ∀ {l m : List D} {xs ys : List V}, Reps K H l xs → Reps K H m ys → Reps K H (l ++ m) (xs ++ ys)
  | _, _, _, _, .nil, s => s
  | _, _, _, _, .cons r t, s => .cons r (Reps.append t s)
theorem Reps.one {d : D} {v : V} (r : Rep K H d v) : Reps K H [d] [v] := .cons r .nil
theorem Reps.take : ∀ {l : List D} {xs : List V} (n : Nat), Reps K H l xs → Reps K H (l.take n) (xs.take n)
  | _, _, 0, _ => .nil
  | _, _, _ + 1, .nil => .nil
  | _, _, n + 1, .cons r t => .cons r (Reps.take n t)
theorem Reps.drop : ∀ {l : List D} {xs : List V} (n : Nat), Reps K H l xs → Reps K H (l.drop n) (xs.drop n)
  | _, _, 0, r => r
  | _, _, _ + 1, .nil => .nil
  | _, _, n + 1, .cons _ t => Reps.drop n t
theorem Reps.reverse {l : List D} {xs : List V} (h : Reps K H l xs) : Reps K H l.reverse xs.reverse := by
  induction h using Reps.rec (motive_1 := fun _ _ _ => True) (motive_3 := fun _ _ _ => True) with
  | nil => exact .nil
  | cons r _ _ ih => rw [List.reverse_cons, List.reverse_cons]; exact ih.append (.one r)
  | _ => trivial
theorem Reps.rep {l : List D} {xs : List V} (h : Reps K H l xs) : ∀ n : Nat, Reps K H (List.replicate n l).flatten (List.replicate n xs).flatten
  | 0 => .nil
  | n + 1 => by
    rw [List.replicate_succ, List.replicate_succ, List.flatten_cons, List.flatten_cons]
    exact h.append (Reps.rep h n)
theorem Reps.set {d : D} {v : V} (r : Rep K H d v) : ∀ {l : List D} {xs : List V} (i : Nat), Reps K H l xs → Reps K H (l.set i d) (xs.set i v)
  | _, _, _, .nil => .nil
  | _, _, 0, .cons _ t => .cons r t
  | _, _, i + 1, .cons q t => .cons q (Reps.set r i t)
theorem Reps.erase : ∀ {l : List D} {xs : List V} (i : Nat), Reps K H l xs → Reps K H (l.eraseIdx i) (xs.eraseIdx i)
  | _, _, _, .nil => .nil
  | _, _, 0, .cons _ t => t
  | _, _, i + 1, .cons q t => .cons q (Reps.erase i t)
theorem Reps.dropLast {l : List D} {xs : List V} (h : Reps K H l xs) : Reps K H l.dropLast xs.dropLast := by
  rw [List.dropLast_eq_take, List.dropLast_eq_take, h.length]; exact h.take _
theorem Reps.ints {xs : List V} : ∀ {ns : List Int}, Reps K H (ns.map D.int) xs → xs = ns.map V.int
  | [], .nil => rfl
  | _ :: r, .cons (.int _) t => by rw [Reps.ints t]; rfl
theorem Reps.strs {xs : List V} : ∀ {ns : List Str}, Reps K H (ns.map D.str) xs → xs = ns.map V.str
  | [], .nil => rfl
  | _ :: r, .cons (.str _) t => by rw [Reps.strs t]; rfl
theorem Reps.bls {xs : List V} : ∀ {ns : List Bool}, Reps K H (ns.map D.bl) xs → xs = ns.map V.bl
  | [], .nil => rfl
  | _ :: r, .cons (.bl _) t => by rw [Reps.bls t]; rfl
theorem Reps.of_ints : ∀ {ns : List Int}, Reps K H (ns.map D.int) (ns.map V.int)
  | [] => .nil
  | _ :: _ => .cons (.int _) Reps.of_ints
theorem Reps.of_strs : ∀ {ns : List Str}, Reps K H (ns.map D.str) (ns.map V.str)
  | [] => .nil
  | _ :: _ => .cons (.str _) Reps.of_strs
end

/-! ### heaps -/
theorem same_new {H : Hp} {p : Addr} (h : H p = none) (o : HO) : Same H (upd H p o) := fun b u q => by rw [upd_ne (ne_of_none q h)]; exact q
theorem same_upd {H H' : Hp} {p : Addr} {o : HO} (e : Same H H') (h : H' p = none) : Same (upd H p o) (upd H' p o) := fun b u q => by
  by_cases hb : b = p
  · subst hb; rw [upd_same] at q ⊢; exact q
  · rw [upd_ne hb] at q ⊢; exact e b u q
theorem same_updR {H H' : Hp} {p : Addr} {o : HO} (e : Same H H') (h : H p = none) : Same H (upd H' p o) := fun b u q => by
  rw [upd_ne (ne_of_none q h)]; exact e b u q

/-- a slot of a frame, by data: no value; a value that is never written again; a list, a dict of this frame's alone -/
inductive Sl where
  | un | sh (d : D) | own (p : Option Addr) (l : List D) | ownK (p : Option Addr) (l : List (Key × D)) | exc (c : Nat) (l : List (Str × D))
abbrev DEnv := List Sl
def Sl.isOwn : Sl → Bool
  | .own _ _ => true
  | .ownK _ _ => true
  | _ => false

/-- the value v at H stands for d: of the frozen part, or the head of a frame's own list or dict -/
inductive RepB (K : PySem.W.Frag) (Hf H : Hp) : D → V → Prop
  | sh {d : D} {v : V} : Rep K Hf d v → RepB K Hf H d v
  | own {a : Addr} {l : List D} {xs : List V} : H a = some (HO.lst xs) → Reps K Hf l xs → RepB K Hf H (D.lst l) (V.ref a)
  | ownK {a : Addr} {l : List (Key × D)} {xs : List (Key × V)} : H a = some (HO.dK xs) → RepK K Hf l xs → RepB K Hf H (D.dct l) (V.ref a)
theorem RepB.rep {K : PySem.W.Frag} {Hf H : Hp} {d : D} {v : V} (r : RepB K Hf H d v) (s : Same Hf H) : Rep K H d v := by
  cases r with
  | sh r => exact r.same s
  | own h r => exact .lst (.of h) (r.same s)
  | ownK h r => exact .dct (.inl h) (r.same s)
theorem RepB.mono {K : PySem.W.Frag} {Hf H Hf' H' : Hp} {d : D} {v : V} (r : RepB K Hf H d v) (s : Same Hf Hf') (t : Same H H') : RepB K Hf' H' d v := by
  cases r with
  | sh r => exact .sh (r.same s)
  | own h r => exact .own (t _ _ h) (r.same s)
  | ownK h r => exact .ownK (t _ _ h) (r.same s)

/-- a frame's entry: what was frozen, all that was tracked -/
structure Ent where
  f : Hp
  h : Hp
/-- what an exception slot means -/
abbrev EXT := V → Nat → List (Str × D) → Hp → Prop
/-- the frame's slots stand for ρ -/
structure SR (K : PySem.W.Frag) (EX : EXT) (H0 : Ent) (ρ : DEnv) (σ : L2.St) (Hf H : Hp) : Prop where
  base : Same H0.f Hf
  ent : Same H0.h H
  nof : ∀ a : Addr, H0.h a ≠ none → H0.f a = none → Hf a = none
  sub : Same Hf H
  len : ρ.length = σ.length
  sh : ∀ (i : Nat) (d : D), ρ[i]? = some (Sl.sh d) → ∃ v, σ[i]? = some (some v) ∧ Rep K Hf d v
  own : ∀ (i : Nat) (p : Option Addr) (l : List D), ρ[i]? = some (Sl.own p l) → ∃ a xs, σ[i]? = some (some (V.ref a)) ∧ Hf a = none ∧ H a = some (HO.lst xs) ∧ Reps K Hf l xs ∧ H0.h a = none ∧ ∀ b, p = some b → b = a
  ownK : ∀ (i : Nat) (p : Option Addr) (l : List (Key × D)), ρ[i]? = some (Sl.ownK p l) → ∃ a xs, σ[i]? = some (some (V.ref a)) ∧ Hf a = none ∧ H a = some (HO.dK xs) ∧ RepK K Hf l xs ∧ H0.h a = none ∧ ∀ b, p = some b → b = a
  exc : ∀ (i c : Nat) (l : List (Str × D)), ρ[i]? = some (Sl.exc c l) → ∃ v, σ[i]? = some (some v) ∧ EX v c l Hf
  apart : ∀ (i j : Nat) (s t : Sl) (a : Addr), i ≠ j → ρ[i]? = some s → ρ[j]? = some t → s.isOwn = true → t.isOwn = true → σ[i]? = some (some (V.ref a)) → σ[j]? = some (some (V.ref a)) → False

/-- exception slots do not hang on what comes later -/
def EXok (EX : EXT) : Prop := ∀ v c l H H', Same H H' → EX v c l H → EX v c l H'

section
variable {K : PySem.W.Frag} {EX : EXT} {H0 : Ent} {ρ : DEnv} {σ : L2.St} {Hf H : Hp}
/-- the heaps grow -/
theorem SR.grow (R : SR K EX H0 ρ σ Hf H) (ek : EXok EX) {Hf' H' : Hp} (s : Same Hf Hf') (t : Same H H') (u : Same Hf' H') (n : ∀ a, H a ≠ none → Hf a = none → Hf' a = none) : SR K EX H0 ρ σ Hf' H' where
  base := R.base.trans s
  ent := R.ent.trans t
  nof := fun a h1 h2 => n a (fun z => h1 (R.ent.free z)) (R.nof a h1 h2)
  sub := u
  len := R.len
  sh := fun i d e => let ⟨v, h, r⟩ := R.sh i d e; ⟨v, h, r.same s⟩
  own := fun i p l e => let ⟨a, xs, h1, h2, h3, r, z⟩ := R.own i p l e; ⟨a, xs, h1, n a (by rw [h3]; exact nofun) h2, t _ _ h3, r.same s, z⟩
  ownK := fun i p l e => let ⟨a, xs, h1, h2, h3, r, z⟩ := R.ownK i p l e; ⟨a, xs, h1, n a (by rw [h3]; exact nofun) h2, t _ _ h3, r.same s, z⟩
  exc := fun i c l e => let ⟨v, h, r⟩ := R.exc i c l e; ⟨v, h, ek _ _ _ _ _ s r⟩
  apart := R.apart
theorem SR.fresh (R : SR K EX H0 ρ σ Hf H) {p : Addr} (h : H p = none) : Hf p = none := R.sub.free h
/-- a new frozen object -/
theorem SR.newF (R : SR K EX H0 ρ σ Hf H) (ek : EXok EX) {p : Addr} (h : H p = none) (o : HO) : SR K EX H0 ρ σ (upd Hf p o) (upd H p o) :=
  R.grow ek (same_new (R.fresh h) o) (same_new h o) (same_upd R.sub h) fun a q z => by
    rw [upd_ne (fun e => q (by rw [e]; exact h))]; exact z
/-- a new object that is not frozen -/
theorem SR.newO (R : SR K EX H0 ρ σ Hf H) (ek : EXok EX) {p : Addr} (h : H p = none) (o : HO) : SR K EX H0 ρ σ Hf (upd H p o) :=
  R.grow ek (Same.refl _) (same_new h o) (same_updR R.sub (R.fresh h)) fun a q z => z
theorem SR.get (R : SR K EX H0 ρ σ Hf H) {i : Nat} {d : D} (e : ρ[i]? = some (Sl.sh d)) : ∃ v, σ[i]? = some (some v) ∧ Rep K Hf d v := R.sh i d e
end
end DL
/-! DZ1: a tuple of a dict's keys; the number of different texts -/
namespace DL
open PySem PySem.Spec PyProof.Rows L2
section
variable {prog : Program} {w : World} {A : Around} {E : Value → Shared → Prop} {s : Shared} {T : String} {r d : Addr} {n : Nat} {P : Nat → Value → Prop} {OK : Heap → Prop}
/-- what tuple(..) of such a source gives: all that it walks -/
theorem tup_src {Q : Value → Shared → Prop} (K : PySem.W.KdlSrc prog w T r d n P OK) (ht : T ≠ "tuple") (hh : A.handled = none) (hok : OK s.heap) (hn : n ≤ sizeLine) (hty : (Value.type T == Value.type "tuple") = false)
    (q : ∀ (h' : Heap) (tk : Nat) (acc : Array Value), (∀ b o, s.heap.get? b = some o → h'.get? b = some o) → ItemsOf P acc n → Q (.ref h'.objs.size) { s with heap := h'.push { cls := .type "tuple", data := .seq acc }, toks := tk }) :
    wpAny (model prog w) A (call (.type "tuple") [.ref r]) Q E s := by
  have code : codeAny (model prog w) A.in1 (.call (.builtin "tuple.__new__") ⟨[.type "tuple", .ref r], []⟩) (wants (fun obj s₁ => s₁.TypeIs obj "tuple" ∧ Q obj s₁) E) s := by
    refine codeAny_of_tree ?_
    show wpAny _ A.in1.in1 (checkBuiltinCall "tuple.__new__" ⟨[.type "tuple", .ref r], []⟩ >>= fun _ => again (.builtin "tuple.__new__" ⟨[.type "tuple", .ref r], []⟩)) _ _ s
    refine wpAny_bind (wpAny_of_eq (PySem.F.newCall_tuple_1 _) (wpAny_pure ⟨plainId_quiet PySem.F.plain_tuple_new _, codeAny_builtin PySem.F.entry_tuple_new ?_⟩)); rw [Around.under_plainId PySem.F.plain_tuple_new _]
    have a1 := sub_tuple_self
    have a2 := init_tuple_lookup
    have a3 := madeHere_tuple
    have a4 := K.type s hok
    wp_walk using wpAny_typeOf a4, PySem.W.kdu_collect K (A := A.in1.in1) hh hok hn
    intro h' tk acc hk hacc
    show wpAny _ _ (Builtin.Tuple.tupleExact acc.toList.toArray >>= fun v => ret v) _ _ _
    unfold Builtin.Tuple.tupleExact
    have ez : acc.toList.toArray = acc := by simp
    refine wpAny_bind (wpAny_newObj_type ?_ (by rw [ez]; show acc.size ≤ sizeLine; rw [hacc.1]; exact hn))
    rw [ez]
    exact wpAny_pure ⟨⟨_, Heap.get?_push_size _ rfl, rfl⟩, q h' tk acc hk hacc⟩
  refine callType_codes (Q₁ := fun obj s₁ => s₁.TypeIs obj "tuple" ∧ Q obj s₁) PySem.F.called_tuple (PySem.F.typeCall_tuple_1 _) PySem.F.entry_object_init code fun obj s₁ h₁ => ?_
  exact ⟨h₁.1, PySem.F.args_object_init_2 obj _, object_init_meets PySem.F.called_tuple.init.lookup PySem.F.called_tuple.made (by decide) prog w A.in1 _ s₁ ⟨h₁.1, rfl, h₁.2⟩⟩
end
theorem dict_obj {X : Cx} {pins : List (Addr × Obj)} {σ : L2.St} {H : Hp} {s : Shared} {p : Addr} {kvs : List (Key × V)} (I : Inv X pins σ H s) (h : Rd H p (.dK kvs)) : ObjOk X.prog X.w H s.heap p (.dK kvs) := by
  rcases h with h | ⟨o, h⟩
  · exact I.hok p _ h
  · obtain ⟨_, x⟩ := I.hok p _ h
    exact x
theorem call_tup_dK {X : Cx} (hc : X.calm = true) : CallR X (.type "tuple") (fun xs H Q => ∃ p kvs, xs = [.ref p] ∧ Rd H p (.dK kvs) ∧ ∀ q, H q = none → Q (.ref q) (upd H q (.tup (kvs.map fun kv => kV kv.1)))) := by
  intro pins s σ H xs us Q I r ⟨p, kvs, e, hk, q⟩
  subst e
  obtain ⟨u, eu, rx⟩ := vals1 r
  subst eu
  obtain rfl : u = Value.ref p := rx
  obtain ⟨z, lo, vs, rk, hd⟩ := dict_obj I hk
  obtain ⟨ep, hat⟩ := hd.dictAt
  have hl : kvs.length = vs.length := Paired.length rk
  refine tup_src (PySem.W.kdl_dict (knd := mixKind X.prog X.w) (kvs := vs) (ep := ep) lo) (by decide) (I.ok.hd hc) hat (by rw [← hl]; exact z) (by decide) fun h' tk acc hkeep hacc => ?_
  have I2 : Inv X pins σ H { s with heap := h', toks := tk } := I.kept (t' := tk) hkeep
  refine ⟨.ref h'.objs.size, upd H h'.objs.size (.tup (kvs.map fun kv => kV kv.1)), I2.laid (t' := tk) (fun c o e => Heap.get?_push_of_some _ e) (Nat.le_refl _) (show ObjOk X.prog X.w _ _ _ (.tup (kvs.map fun kv => kV kv.1)) from ⟨by rw [List.length_map]; exact z, acc.toList, ?_, ?_⟩), rfl, q _ (I2.hok.fresh (Nat.le_refl _))⟩
  · have el : acc.toList.length = acc.size := by simp
    refine vals_of_at (by rw [List.length_map, el, hacc.1, hl]) fun j x v h1 h2 => ?_
    obtain ⟨k, y, hky, hi⟩ := hacc.2 j v (by rw [← Array.getElem?_toList]; exact h2)
    have e1 : (kvs.map (·.1))[j]? = some k := by rw [KV.keys rk, List.getElem?_map, hky]; rfl
    have e3 : (kvs.map fun kv => kV kv.1) = (kvs.map (·.1)).map kV := by rw [List.map_map]; rfl
    rw [e3, List.getElem?_map, e1] at h1
    cases h1
    exact keyIs_rel hi
  · rw [Array.toArray_toList]; exact IsTup.new _ _
end DL
/-! DB: the small language, how it is held against the text, and what it asks -/
namespace DL
open PySem PySem.Spec PyProof.Rows L2

inductive BOp where
  | add | sub | mul | mod | fdiv | pow
inductive COp where
  | lt | le | gt | ge | eq | ne | is | isn | inn | nin
/-- built-in functions and classes that are called by their names -/
inductive Bi where
  | len | int | tuple | list | any | all | ord | min2 | max2 | abs | sum | str
/-- methods of texts -/
inductive Me where
  | starts | starts2 | join | strip1 | split1
/-- what is walked -/
inductive ItK where
  | seq | str | rng1 | rng2 | en | zip | rng3 | rev
inductive Tg where
  | nm (i : Nat) | tup (l : List Tg)
mutual
inductive Ex where
  | v (i : Nat) | b (i : Nat) | fr (i : Nat) (e : Ex) | tr (e : Ex) | wk (e : Ex)
  | int (n : Int) | str (x : Str) | bl (k : Bool) | non
  | gi (x : Str) (n : Int) | gs (x : Str) (z : Str)
  | bin (o : BOp) (a b : Ex) | neg (a : Ex) | not (a : Ex)
  | cmp (o : COp) (a b : Ex) | cmp2 (o p : COp) (a b c : Ex)
  | and (a : Ex) (l : Exs) | or (a : Ex) (l : Exs)
  | ite (c a b : Ex)
  | tup (l : Exs) | lst (l : Exs)
  | ix (a b : Ex) | sl (a : Ex) (lo hi : Exs)
  | call (f : Nat) (l : Exs) | callB (f : Nat) (l : Exs) | callK (f : Nat) (ks : List Str) (pm : List Nat) (l : Exs)
  | dnew | dsp (ks : List Str) (l : Exs)
  | bi (f : Bi) (l : Exs) | isT (ts : List String) (a : Ex)
  | me (m : Me) (o : Ex) (l : Exs)
  | lc (g : Tg) (k : ItK) (l : Exs) (t : Exs) (e : Ex)
  | dget (d k : Ex) | din (k d : Ex) | dnin (k d : Ex) | dg2 (d k x : Ex)
  | fld (i : Nat) (f : Str) | isE (i : Nat) (x : Str)
  | mv (i : Nat)
  | rv (a : Ex)
  | ns (a : Ex)
  | trv (a : Ex)
  | lcK (g : Tg) (i : Nat) (m : List Bool) (t : Exs) (e : Ex)
inductive Exs where
  | nil | cons (e : Ex) (l : Exs)
end
mutual
inductive Sx where
  | asg (g : Tg) (e : Ex) | own (i : Nat) (e : Ex) | lcs (fz : Bool) (i : Nat) (g : Tg) (k : ItK) (l : Exs) (t : Exs) (e : Ex)
  | aug (i : Nat) (o : BOp) (e : Ex)
  | ret (e : Ex) | retN | expr (e : Ex)
  | exO (f i : Nat) (l : Exs)
  | app (i : Nat) (e : Ex) | ext (i : Nat) (e : Ex) | put (i : Nat) (k e : Ex) | seti (i : Nat) (k e : Ex)
  | ife (c : Ex) (a b : Sxs) | whl (c : Ex) (b : Sxs) | for_ (g : Tg) (k : ItK) (l : Exs) (b : Sxs)
  | brk | cont | pass
  | rse (c : Nat) (l : Exs) | tryA (b : Sxs) (h : Hds)
  | ins (i : Nat) (k e : Ex) | par2 (i j : Nat) (a b : Ex)
inductive Sxs where
  | nil | cons (s : Sx) (l : Sxs)
/-- the clauses of a try: the class's name, the slot of the name, the suite -/
inductive Hds where
  | nil | cons (x : Str) (o : Option Nat) (s : Sxs) (l : Hds)
end

/-- how an expression hands its value on: never to be written again; borrowed of a slot; a list or dict of its own, new -/
inductive Md where
  | sh | bo | fr
  deriving DecidableEq
def md : Ex → Md
  | .b _ => .bo
  | .fr _ e => md e
  | .tr e => md e
  | .bin _ _ _ => .fr
  | .lst _ => .fr
  | .sl _ _ _ => .fr
  | .bi _ _ => .fr
  | .me _ _ _ => .fr
  | .lc _ _ _ _ _ => .fr
  | .dnew => .fr
  | .dsp _ _ => .fr
  | .mv _ => .fr
  | .rv _ => .fr
  | .trv _ => .fr
  | .lcK _ _ _ _ _ => .fr
  | _ => .sh
def nb (x : Ex) : Bool := match md x with
  | .bo => false
  | _ => true
def nbA : Exs → Bool
  | .nil => true
  | .cons x l => nb x && nbA l
/-! ### against the text -/
/-- what is fixed of a def: the names by slot, its scope -/
structure Cn where
  N : List Str
  nm : Nat → Str
  lv : Nat → Nat
  k : Nat
  dep : List Nat
  kw : List (Nat × List Str × List Nat) := []
  depO : List Nat := []
  calm : Bool := true
  gi : List (Str × Int) := []
  gs : List (Str × Str) := []
  ex : List (Nat × Str) := []
  hx : List Str := []
def visB (sc : Scope) (x : Str) : Bool := match sc.names.lookup x with
  | some .local => true
  | some .cell => true
  | some .free => true
  | _ => false
def locB (sc : Scope) (x : Str) : Bool := match sc.names.lookup x with
  | some .local => true
  | some .cell => true
  | _ => false
def gloB (sc : Scope) (x : Str) : Bool := match sc.names.lookup x with
  | some .globalImplicit => true
  | _ => false
def nmB (N : List Str) (sc : Scope) (i : Nat) (x : Str) : Bool := decide (N[i]? = some x) && visB sc x && !(x == ("__debug__" : Str)) && !(x == ("__classdict__" : Str))
def nst : Expr → Bool
  | .Starred .. => false
  | _ => true
def nsup : Expr → Bool
  | .Call (.Name id _) [] [] _ => !(id == ("super" : Str))
  | _ => true
def ncomp : Expr → Bool
  | .ListComp .. => false
  | .SetComp .. => false
  | .DictComp .. => false
  | _ => true
def plainT : Expr → Bool
  | .UnaryOp .Not _ _ => false
  | .BoolOp .. => false
  | .IfExp .. => false
  | .Compare .. => false
  | _ => true
def nset : Expr → Bool
  | .Set .. => false
  | _ => true
def nslice : Expr → Bool
  | .Slice .. => false
  | _ => true
def BOp.like (o : BOp) (p : Operator) : Bool := match o, p with
  | .add, .Add => true | .sub, .Sub => true | .mul, .Mult => true | .mod, .Mod => true | .fdiv, .FloorDiv => true | .pow, .Pow => true | _, _ => false
def COp.like (o : COp) (p : CmpOp) : Bool := match o, p with
  | .lt, .Lt => true | .le, .LtE => true | .gt, .Gt => true | .ge, .GtE => true | .eq, .Eq => true | .ne, .NotEq => true | .is, .Is => true | .isn, .IsNot => true | .inn, .In => true | .nin, .NotIn => true | _, _ => false
def Bi.nm : Bi → Str
  | .len => "len" | .int => "int" | .tuple => "tuple" | .list => "list" | .any => "any" | .all => "all" | .ord => "ord" | .min2 => "min" | .max2 => "max" | .abs => "abs" | .sum => "sum" | .str => "str"
def Bi.isB : Bi → Bool := fun _ => true
def Me.nm : Me → Str
  | .starts => "startswith" | .starts2 => "startswith" | .join => "join" | .strip1 => "strip" | .split1 => "split"
mutual
def Tg.slots : Tg → List Nat
  | .nm i => [i]
  | .tup l => slotsL l
def slotsL : List Tg → List Nat
  | [] => []
  | t :: r => t.slots ++ slotsL r
end
/-- may a target be stored: in a def's body always; in a comprehension's block its own names -/
def fnB (bs : Option Scope) (sc : Scope) (x : Str) : Bool := match bs with
  | none => true
  | some b => decide (b.names.lookup x = some .cell) || decide (sc.names.lookup x = some .local)
mutual
def ckG (N : List Str) (bs : Option Scope) (sc : Scope) : Tg → Expr → Bool
  | .nm i, .Name x _ => decide (N[i]? = some x) && locB sc x && fnB bs sc x
  | .tup l, .Tuple es _ _ => ckGs N bs sc l es
  | _, _ => false
def ckGs (N : List Str) (bs : Option Scope) (sc : Scope) : List Tg → List Expr → Bool
  | [], [] => true
  | t :: l, e :: es => ckG N bs sc t e && ckGs N bs sc l es
  | _, _ => false
end
/-- at most one test -/
def nset2 : List Expr → Bool
  | [] => true
  | [_] => true
  | _ => false
def ownOf (N : List Str) (l : List Nat) : List (Str × Nat) := l.filterMap fun i => (N[i]?).map fun x => (x, i)
def tyNames : List String := ["int", "str", "tuple", "list", "dict", "bool"]
/-- the class names of an isinstance test -/
def clsNames (sc : Scope) : Expr → List String → Bool
  | .Name x _, [t] => decide (x = Str.ofString t) && gloB sc x
  | .Tuple es _ _, ts => decide (es.length = ts.length) && (es.zip ts).all fun p => match p.1 with
    | .Name x _ => decide (x = Str.ofString p.2) && gloB sc x
    | _ => false
  | _, _ => false
mutual
def ck (C : Cn) (sc : Scope) : Ex → Expr → Bool
  | .v i, e => match e with
    | .Name x _ => nmB C.N sc i x
    | _ => false
  | .b i, e => match e with
    | .Name x _ => nmB C.N sc i x
    | _ => false
  | .fr i x, e => ck C sc x e
  | .tr x, e => ck C sc x e && plainT e
  | .wk x, e => ck C sc x e && decide (md x = .sh)
  | .int n, e => match e with
    | .Constant (.int m) _ _ => decide (n = m)
    | _ => false
  | .gi x n, e => match e with
    | .Name y _ => decide (x = y) && gloB sc y && !(y == ("__debug__" : Str)) && decide ((x, n) ∈ C.gi)
    | _ => false
  | .gs x z, e => match e with
    | .Name y _ => decide (x = y) && gloB sc y && !(y == ("__debug__" : Str)) && decide ((x, z) ∈ C.gs)
    | _ => false
  | .str x, e => match e with
    | .Constant (.str y) _ _ => decide (x = y)
    | _ => false
  | .bl k, e => match e with
    | .Constant (.bool j) _ _ => decide (k = j)
    | _ => false
  | .non, e => match e with
    | .Constant .none _ _ => true
    | _ => false
  | .bin o a b, e => match e with
    | .BinOp l p r _ => o.like p && ck C sc a l && ck C sc b r
    | _ => false
  | .neg a, e => match e with
    | .UnaryOp .USub e _ => ck C sc a e
    | _ => false
  | .not a, e => match e with
    | .UnaryOp .Not e _ => ck C sc a e
    | _ => false
  | .cmp o a b, e => match e with
    | .Compare l [p] [r] _ => o.like p && ck C sc a l && ck C sc b r && !behindInMarks p r
    | _ => false
  | .cmp2 o q a b c, e => match e with
    | .Compare l [p, p'] [r, r'] _ => o.like p && q.like p' && ck C sc a l && ck C sc b r && ck C sc c r' && !behindInMarks p' r'
    | _ => false
  | .and a l, e => match e with
    | .BoolOp .And (e :: es) _ => ck C sc a e && ckA C sc l es && nb a && nbA l
    | _ => false
  | .or a l, e => match e with
    | .BoolOp .Or (e :: es) _ => ck C sc a e && ckA C sc l es && nb a && nbA l
    | _ => false
  | .ite c a b, e => match e with
    | .IfExp t e f _ => ck C sc c t && ck C sc a e && ck C sc b f && nb a && nb b
    | _ => false
  | .tup l, e => match e with
    | .Tuple es _ _ => ckA C sc l es && nbA l
    | _ => false
  | .lst l, e => match e with
    | .List es _ => ckA C sc l es && nbA l
    | _ => false
  | .ix a b, e => match e with
    | .Subscript e i _ => ck C sc a e && ck C sc b i && nslice i
    | _ => false
  | .sl a lo hi, e => match e with
    | .Subscript e (.Slice l u none _) _ => ck C sc a e && ckO C sc lo l && ckO C sc hi u
    | _ => false
  | .call f l, e => match e with
    | .Call (.Name x _) es [] _ => decide (x = C.nm f) && gloB sc x && !(x == ("__debug__" : Str)) && decide (C.lv f ≤ C.k) && C.dep.contains f && ckA C sc l es && nbA l && C.calm
    | _ => false
  | .callB f l, e => match e with
    | .Call (.Name x _) es [] _ => decide (x = C.nm f) && gloB sc x && !(x == ("__debug__" : Str)) && decide (C.lv f ≤ C.k) && C.dep.contains f && ckA C sc l es && C.calm
    | _ => false
  | .callK f ks pm l, e => match e with
    | .Call (.Name x _) [] kws _ => decide (x = C.nm f) && gloB sc x && !(x == ("__debug__" : Str)) && decide (C.lv f ≤ C.k) && decide ((f, ks, pm) ∈ C.kw) && ckK C sc l kws && nbA l && decide (kws.map (·.arg) = ks.map some) && C.calm
    | _ => false
  | .dnew, e => match e with
    | .Dict [] [] _ => true
    | _ => false
  | .dsp ks l, e => match e with
    | .Dict keys es _ => decide (keys.length = es.length) && decide (ks.length = keys.length) && ckA C sc l es && nbA l && decide ks.Nodup && decide (keys.length ≤ 15) && !keys.isEmpty && (keys.zip ks).all fun p => match p.1 with
      | some (.Constant (.str x) _ _) => decide (x = p.2)
      | _ => false
    | _ => false
  | .bi f l, e => match e with
    | .Call (.Name x _) (e :: es) [] _ => ckA C sc l (e :: es) && decide (x = f.nm) && gloB sc x && C.calm
    | _ => false
  | .isT ts a, e => match e with
    | .Call (.Name x _) [e, t] [] _ => decide (x = Str.ofString "isinstance") && gloB sc x && ck C sc a e && nst e && nst t && clsNames sc t ts && (ts.all fun u => tyNames.contains u) && decide (ts.length ≤ 100)
    | _ => false
  | .me m o l, e => match e with
    | .Call (.Attribute e a ap) (e1 :: es) [] p => decide (a = m.nm) && ck C sc o e && nsup e && ckA C sc l (e1 :: es) && (ap.endLine == p.line) && decide (es.length < 20)
    | _ => false
  | .lc g k l t x, e => match e with
    | .ListComp elt [⟨tg, iter, ifs, 0⟩] scope _ => ckI C sc k l tg iter && nset iter && blkC C.N sc scope (ownOf C.N g.slots) && ckG C.N (some scope) (relS scope sc) g tg && ckT C (relS scope sc) t ifs && ck C (relS scope sc) x elt && nb x && decide ((ownOf C.N g.slots).map (·.2) = g.slots) && C.calm
    | _ => false
  | .dget d k, e => match e with
    | .Subscript e i _ => ck C sc d e && ck C sc k i && nslice i
    | _ => false
  | .din k d, e => match e with
    | .Compare l [.In] [r] _ => ck C sc k l && ck C sc d r && !behindInMarks .In r
    | _ => false
  | .dnin k d, e => match e with
    | .Compare l [.NotIn] [r] _ => ck C sc k l && ck C sc d r && !behindInMarks .NotIn r
    | _ => false
  | .dg2 _ _ _, _ => false
  | .rv a, e => match e with
    | .Subscript e (.Slice none none (some (.UnaryOp .USub (.Constant (.int 1) _ _) _)) _) _ => ck C sc a e
    | _ => false
  | .mv i, e => match e with
    | .Name x _ => nmB C.N sc i x
    | _ => false
  | .ns a, e => match e with
    | .Call (.Name x _) [.Call (.Name y _) [e] [] _] [] _ => decide (x = Str.ofString "len") && gloB sc x && decide (y = Str.ofString "set") && gloB sc y && ck C sc a e && nst e && C.calm
    | _ => false
  | .trv a, e => match e with
    | .Call (.Name x _) [.Call (.Name y _) [e] [] _] [] _ => decide (x = Str.ofString "tuple") && gloB sc x && decide (y = Str.ofString "reversed") && gloB sc y && ck C sc a e && nst e && C.calm
    | _ => false
  | .lcK g i m t x, e => match e with
    | .ListComp elt [⟨tg, .Name n p, ifs, 0⟩] scope _ => nmB C.N sc i n && blkC C.N sc scope (ownOf C.N g.slots) && ckG C.N (some scope) (relS scope sc) g tg && ckT C (relS scope sc) t ifs && ck C (relS scope sc) x elt && nb x && decide ((ownOf C.N g.slots).map (·.2) = g.slots) && C.calm
    | _ => false
  | .fld i f, e => match e with
    | .Attribute (.Name x _) a _ => decide (a = f) && nmB C.N sc i x && !C.calm
    | _ => false
  | .isE i y, e => match e with
    | .Call (.Name z _) [.Name x _, .Name u _] [] _ => decide (z = Str.ofString "isinstance") && gloB sc z && nmB C.N sc i x && decide (u = y) && gloB sc u && !(u == ("__debug__" : Str)) && !C.calm
    | _ => false
def ckA (C : Cn) (sc : Scope) : Exs → List Expr → Bool
  | .nil, es => match es with
    | [] => true
    | _ => false
  | .cons x l, es => match es with
    | e :: es => ck C sc x e && nst e && ckA C sc l es
    | _ => false
def ckK (C : Cn) (sc : Scope) : Exs → List Keyword → Bool
  | .nil, es => match es with
    | [] => true
    | _ => false
  | .cons x l, es => match es with
    | e :: es => ck C sc x e.value && ckK C sc l es
    | _ => false
def ckT (C : Cn) (sc : Scope) : Exs → List Expr → Bool
  | .nil, es => match es with
    | [] => true
    | _ => false
  | .cons x .nil, es => match es with
    | [e] => ck C sc x e
    | _ => false
  | _, _ => false
def ckO (C : Cn) (sc : Scope) : Exs → Option Expr → Bool
  | .nil, o => match o with
    | none => true
    | _ => false
  | .cons x .nil, o => match o with
    | some e => ck C sc x e
    | _ => false
  | _, _ => false
def ckI (C : Cn) (sc : Scope) : ItK → Exs → Expr → Expr → Bool
  | .seq, .cons x .nil, _, e => ck C sc x e
  | .str, .cons x .nil, _, e => ck C sc x e
  | .rng1, .cons x .nil, _, e => match e with
    | .Call (.Name n _) [e] [] _ => decide (n = Str.ofString "range") && gloB sc n && ck C sc x e && nst e
    | _ => false
  | .rng2, .cons x (.cons y .nil), _, e => match e with
    | .Call (.Name n _) [e, f] [] _ => decide (n = Str.ofString "range") && gloB sc n && ck C sc x e && nst e && ck C sc y f && nst f
    | _ => false
  | .rng3, .cons x (.cons y (.cons z .nil)), _, e => match e with
    | .Call (.Name n _) [e, f, g] [] _ => decide (n = Str.ofString "range") && gloB sc n && ck C sc x e && nst e && ck C sc y f && nst f && ck C sc z g && nst g
    | _ => false
  | .rev, .cons x .nil, _, e => match e with
    | .Call (.Name n _) [e] [] _ => decide (n = Str.ofString "reversed") && gloB sc n && ck C sc x e && nst e
    | _ => false
  | .en, .cons x .nil, t, e => match t, e with
    | .Tuple _ _ _, .Call (.Name n _) [e] [] _ => decide (n = Str.ofString "enumerate") && gloB sc n && ck C sc x e && nst e
    | _, _ => false
  | _, _, _, _ => false
end
/-! ### what it asks -/
/-- an exception: its class by number, its fields -/
abbrev DX := Nat × List (Str × D)
/-- what a def asks and gives, by data -/
abbrev FSp := List D → (D → Prop) → (DX → Prop) → Prop
/-- .. of a def whose first argument may be changed: what it is, the others, the answer and what it is then -/
abbrev OSp := D → List D → (D → D → Prop) → Prop
/-- the promises of all defs -/
structure Gm where
  f : Nat → FSp
  o : Nat → OSp := fun _ _ _ _ => False
  /-- is an exception of class c one of the class named x -/
  sub : Nat → Str → Option Bool := fun _ _ => none
  /-- the fields of class c -/
  cls : Nat → Option (List Str) := fun _ => none
instance : CoeFun Gm (fun _ => Nat → FSp) := ⟨Gm.f⟩
mutual
def toPy : D → PyData
  | .non => .none
  | .bl b => .bool b
  | .int i => .int i
  | .str x => .str x
  | .tup l => .tuple (toPys l)
  | .lst l => .list (toPys l)
  | .dct _ => .dict []
  | .opq _ => .dict []
def toPys : List D → List PyData
  | [] => []
  | d :: l => toPy d :: toPys l
end
def scalD : D → D → Bool
  | .non, .non => true | .non, .int _ => true | .int _, .non => true | .non, .bl _ => true | .bl _, .non => true | .non, .str _ => true | .str _, .non => true
  | .int _, .int _ => true | .bl _, .bl _ => true | .str _, .str _ => true
  | .int _, .str _ => true | .str _, .int _ => true | .bl _, .str _ => true | .str _, .bl _ => true
  | _, _ => false
/-- comparisons of numbers and texts, by names of their own: what stands in them may be rewritten -/
def ltB (i j : Int) : Bool := decide (i < j)
def leB (i j : Int) : Bool := decide (i ≤ j)
def eqI (i j : Int) : Bool := decide (i = j)
def eqS (x y : Str) : Bool := decide (x = y)
def eqBl (x y : Bool) : Bool := decide (x = y)
theorem ltB_true {i j : Int} : (ltB i j = true) = (i < j) := decide_eq_true_eq
theorem leB_true {i j : Int} : (leB i j = true) = (i ≤ j) := decide_eq_true_eq
theorem eqI_true {i j : Int} : (eqI i j = true) = (i = j) := decide_eq_true_eq
theorem eqS_true {i j : Str} : (eqS i j = true) = (i = j) := decide_eq_true_eq
theorem eqBl_true {i j : Bool} : (eqBl i j = true) = (i = j) := decide_eq_true_eq
theorem ltB_false {i j : Int} : (ltB i j = false) = (j ≤ i) := by rw [ltB, decide_eq_false_iff_not, Int.not_lt]
theorem leB_false {i j : Int} : (leB i j = false) = (j < i) := by rw [leB, decide_eq_false_iff_not, Int.not_le]
theorem eqI_false {i j : Int} : (eqI i j = false) = ¬ (i = j) := by rw [eqI, decide_eq_false_iff_not]
theorem eqS_false {i j : Str} : (eqS i j = false) = ¬ (i = j) := by rw [eqS, decide_eq_false_iff_not]
theorem eqBl_false {i j : Bool} : (eqBl i j = false) = ¬ (i = j) := by rw [eqBl, decide_eq_false_iff_not]
/-- a == b of other things than two of one plain kind -/
def eqDW (a b : D) (Q : Bool → Prop) : Prop := if scalD a b = true then Q false else SeqAt.shaped (toPy a) = true ∧ SeqAt.shaped (toPy b) = true ∧ Q (PyData.eqv (toPy a) (toPy b))
/-- a == b -/
def eqW (a b : D) (Q : Bool → Prop) : Prop := match a, b with
  | .int i, .int j => Q (eqI i j)
  | .str x, .str y => Q (eqS x y)
  | .bl x, .bl y => Q (eqBl x y)
  | .non, .non => Q true
  | a, b => eqDW a b Q
def flatD : D → Bool
  | .non => true | .bl _ => true | .int _ => true | .str _ => true | _ => false
def eqF : D → D → Bool
  | .non, .non => true
  | .bl a, .bl b => a == b
  | .bl a, .int b => (if a then 1 else 0) == b
  | .int a, .bl b => a == (if b then 1 else 0)
  | .int a, .int b => a == b
  | .str a, .str b => a == b
  | _, _ => false
def inW (x : D) (l : List D) (Q : Bool → Prop) : Prop := flatD x = true ∧ l.all flatD = true ∧ Q (l.any fun y => eqF y x)
/-- a list times an int -/
def repL (n : Int) (l : List D) : List D := (List.replicate n.toNat l).flatten
def binW (o : BOp) (a b : D) (Q : D → Prop) : Prop := match o, a, b with
  | .add, .int i, .int j => Q (.int (i + j))
  | .add, .str x, .str y => x.length + y.length ≤ sizeLine ∧ Q (.str (x ++ y))
  | .add, .lst l, .lst m => l.length + m.length ≤ sizeLine ∧ Q (.lst (l ++ m))
  | .add, .tup l, .tup m => l.length + m.length ≤ sizeLine ∧ Q (.tup (l ++ m))
  | .sub, .int i, .int j => Q (.int (i - j))
  | .mul, .int i, .int j => CMul i j ∧ Q (.int (i * j))
  | .mul, .str x, .int n => MulOk x n ∧ Q (.str (Txt.mul x n))
  | .mul, .lst l, .int n => (-(2 ^ 63) ≤ n ∧ n < 2 ^ 63 ∧ l.length * n.toNat ≤ sizeLine) ∧ Q (.lst (repL n l))
  | .mod, .int i, .int j => 0 < j ∧ Q (.int (i % j))
  | .fdiv, .int i, .int j => CDiv i j ∧ Q (.int (i / j))
  | .pow, .int i, .int j => CPow i j ∧ Q (.int (i ^ j.toNat))
  | _, _, _ => False
def cmpW (o : COp) (a b : D) (Q : Bool → Prop) : Prop := match o, a, b with
  | .lt, .int i, .int j => Q (ltB i j)
  | .le, .int i, .int j => Q (leB i j)
  | .gt, .int i, .int j => Q (ltB j i)
  | .ge, .int i, .int j => Q (leB j i)
  | .lt, .str x, .str y => Q (decide (x.cps.toList < y.cps.toList))
  | .le, .str x, .str y => Q (!decide (y.cps.toList < x.cps.toList))
  | .gt, .str x, .str y => Q (decide (y.cps.toList < x.cps.toList))
  | .ge, .str x, .str y => Q (!decide (x.cps.toList < y.cps.toList))
  | .eq, a, b => eqW a b Q
  | .ne, a, b => eqW a b fun k => Q (!k)
  | .is, .opq _, .non => False
  | .isn, .opq _, .non => False
  | .is, .non, .non => Q true
  | .is, _, .non => Q false
  | .isn, .non, .non => Q false
  | .isn, _, .non => Q true
  | .inn, .str ⟨⟨[c]⟩⟩, .str z => Q (decide (c ∈ z.cps.toList))
  | .nin, .str ⟨⟨[c]⟩⟩, .str z => Q (!decide (c ∈ z.cps.toList))
  | .inn, x, .lst l => inW x l Q
  | .inn, x, .tup l => inW x l Q
  | .nin, x, .lst l => inW x l fun k => Q (!k)
  | .nin, x, .tup l => inW x l fun k => Q (!k)
  | _, _, _ => False
def cutD (l : List D) (lo hi : Option Int) : List D := (l.drop (HT.sIx l.length 0 lo)).take (HT.sIx l.length l.length hi - HT.sIx l.length 0 lo)
def ixW (a b : D) (Q : D → Prop) : Prop := match a, b with
  | .tup l, .int i => ∃ d, atI l i = some d ∧ Q d
  | .lst l, .int i => ∃ d, atI l i = some d ∧ Q d
  | .str z, .int i => z.length ≤ sizeLine ∧ ∃ c, atI z.cps.toList i = some c ∧ Q (.str ⟨#[c]⟩)
  | _, _ => False
def slW (a : D) (lo hi : Option Int) (Q : D → Prop) : Prop := match a with
  | .tup l => Q (.tup (cutD l lo hi))
  | .lst l => Q (.lst (cutD l lo hi))
  | .str z => z.length ≤ sizeLine ∧ Q (.str (cutS z lo hi))
  | _ => False
/-- a[::-1] -/
def rvW (a : D) (Q : D → Prop) : Prop := match a with
  | .tup l => Q (.tup l.reverse)
  | .lst l => Q (.lst l.reverse)
  | _ => False
def truW (a : D) (Q : Bool → Prop) : Prop := match a with
  | .non => Q false
  | .bl b => Q b
  | .int i => Q (i != 0)
  | .str y => y.length ≤ sizeLine ∧ Q ((y.length : Int) != 0)
  | .lst l => Q (!l.isEmpty)
  | .tup l => Q (!l.isEmpty)
  | _ => False
def tyD : D → Option String
  | .non => some "NoneType" | .bl _ => some "bool" | .int _ => some "int" | .str _ => some "str" | .tup _ => some "tuple" | .lst _ => some "list" | .dct _ => some "dict" | .opq _ => none
def subTy (t u : String) : Bool := t == u || (t == "bool" && u == "int")
def keyD : D → Option Key
  | .int i => some (.inl i)
  | .str x => some (.inr x)
  | _ => none
def dK : Key → D
  | .inl i => .int i
  | .inr x => .str x
def getK (l : List (Key × D)) (k : Key) : Option D := (l.find? fun kv => decide (kv.1 = k)).map (·.2)
def putD (l : List (Key × D)) (k : Key) (d : D) : List (Key × D) :=
  if (l.any fun kv => decide (kv.1 = k)) = true then l.map fun kv => if kv.1 = k then (kv.1, d) else kv else l ++ [(k, d)]
def lenW (a : List D) (Q : D → Prop) : Prop := match a with
  | [.str y] => y.length ≤ sizeLine ∧ Q (.int y.length)
  | [.tup l] => Q (.int l.length)
  | [.lst l] => Q (.int l.length)
  | _ => False
def intW (a : List D) (Q : D → Prop) : Prop := match a with
  | [.int i] => Q (.int i)
  | [.bl k] => Q (.int (if k then 1 else 0))
  | _ => False
def tupleW (a : List D) (Q : D → Prop) : Prop := match a with
  | [.tup l] => Q (.tup l)
  | [.lst l] => Q (.tup l)
  | [.dct l] => Q (.tup (l.map fun kv => dK kv.1))
  | _ => False
def listW (a : List D) (Q : D → Prop) : Prop := match a with
  | [.tup l] => Q (.lst l)
  | [.lst l] => Q (.lst l)
  | _ => False
def anyW (a : List D) (Q : D → Prop) : Prop := match a with
  | [.lst l] => ∃ bs : List Bool, l = bs.map D.bl ∧ Q (.bl (bs.any id))
  | _ => False
def allW (a : List D) (Q : D → Prop) : Prop := match a with
  | [.lst l] => ∃ bs : List Bool, l = bs.map D.bl ∧ Q (.bl (bs.all id))
  | _ => False
def ordW (a : List D) (Q : D → Prop) : Prop := match a with
  | [.str x] => x.length = 1 ∧ Q (.int (x.cps.getD 0 0 : Nat))
  | _ => False
def min2W (a : List D) (Q : D → Prop) : Prop := match a with
  | [.int i, .int j] => Q (.int (if j < i then j else i))
  | _ => False
def max2W (a : List D) (Q : D → Prop) : Prop := match a with
  | [.int i, .int j] => Q (.int (if j > i then j else i))
  | _ => False
def absW (a : List D) (Q : D → Prop) : Prop := match a with
  | [.int i] => Q (.int (if i < 0 then -i else i))
  | _ => False
def sumW (a : List D) (Q : D → Prop) : Prop := match a with
  | [.lst l] => ∃ ns : List Int, l = ns.map D.int ∧ Q (.int ns.sum)
  | _ => False
def strW (a : List D) (Q : D → Prop) : Prop := match a with
  | [.int i] => i.natAbs.log2 < 1920 ∧ Q (.str (Str.ofString (toString i)))
  | _ => False
def biW (f : Bi) (a : List D) (Q : D → Prop) : Prop := match f with
  | .len => lenW a Q
  | .int => intW a Q
  | .tuple => tupleW a Q
  | .list => listW a Q
  | .any => anyW a Q
  | .all => allW a Q
  | .ord => ordW a Q
  | .min2 => min2W a Q
  | .max2 => max2W a Q
  | .abs => absW a Q
  | .sum => sumW a Q
  | .str => strW a Q
def strsD : D → Option (List D)
  | .tup l => some l
  | .lst l => some l
  | _ => none
def meW (m : Me) (o : D) (a : List D) (Q : D → Prop) : Prop := match m, o, a with
  | .starts, .str x, [.str y] => Q (.bl (Txt.startswith x y))
  | .starts2, .str x, [.str y, .int i] => Q (.bl (Txt.startswith3 x y i))
  | .join, .str x, [d] => ∃ l ys, strsD d = some l ∧ l = ys.map D.str ∧ (ys.map (·.length)).sum + ys.length * x.length ≤ 16777216 ∧ Q (.str (Txt.join x ys))
  | .strip1, .str x, [.str y] => x.length ≤ sizeLine ∧ Q (.str (Txt.stripChars x y))
  | .split1, .str x, [.str y] => (y.length == 0) = false ∧ x.length + 2 ≤ sizeLine ∧ Q (.lst ((Txt.split x y).map D.str))
  | _, _, _ => False
def enD : Nat → List D → List D
  | _, [] => []
  | n, d :: l => .tup [.int n, d] :: enD (n + 1) l
def itW (k : ItK) (a : List D) (R : List D → Prop) : Prop := match k, a with
  | .seq, [.tup l] => R l
  | .seq, [.lst l] => R l
  | .str, [.str z] => R (z.cps.toList.map fun c => .str ⟨#[c]⟩)
  | .rng1, [.int n] => -(2 ^ 62) ≤ n ∧ n < 2 ^ 62 ∧ R ((List.range n.toNat).map fun (i : Nat) => .int (i : Int))
  | .rng2, [.int a, .int b] => (-(2 ^ 62) ≤ a ∧ a < 2 ^ 62 ∧ -(2 ^ 62) ≤ b ∧ b < 2 ^ 62) ∧ R ((List.range (b - a).toNat).map fun (i : Nat) => .int (a + (i : Int)))
  | .en, [d] => ∃ l, strsD d = some l ∧ R (enD 0 l)
  | .zip, [d, e] => ∃ l m, strsD d = some l ∧ strsD e = some m ∧ R (List.zipWith (fun x y => .tup [x, y]) l m)
  | .rng3, [.int a, .int b, .int c] => ∃ n, RgC a b c n ∧ R ((List.range n).map fun (i : Nat) => .int (a + (i : Int) * c))
  | .rev, [d] => ∃ l, strsD d = some l ∧ R l.reverse
  | _, _ => False
mutual
def wG : Tg → D → DEnv → (DEnv → Prop) → Prop
  | .nm i, d, ρ, Q => Q (ρ.set i (.sh d))
  | .tup ts, d, ρ, Q => match d with
    | .tup l => l.length = ts.length ∧ wGs ts l ρ Q
    | _ => False
def wGs : List Tg → List D → DEnv → (DEnv → Prop) → Prop
  | [], [], ρ, Q => Q ρ
  | t :: ts, d :: l, ρ, Q => wG t d ρ fun ρ1 => wGs ts l ρ1 Q
  | _, _, _, _ => False
end
/-- one text more, if it is new -/
def addS (l : List Str) (x : Str) : List Str := if l.any (· == x) then l else l ++ [x]
def dedS (l : List Str) : List Str := l.foldl addS []
/-- len(set(a)) -/
def nsW (a : D) (Q : D → Prop) : Prop := match a with
  | .tup l => ∃ xs : List Str, l = xs.map D.str ∧ xs.length ≤ 100 ∧ Q (.int (dedS xs).length)
  | _ => False
/-- data that hangs on what may be read alone -/
def Pl (d : D) : Prop := ∀ (K : PySem.W.Frag) (H H' : Hp) (v : V), Sim H H' → Rep K H d v → Rep K H' d v
/-- the slots that a comprehension over a dict looks at -/
def keepD : List Bool → DEnv → DEnv
  | _, [] => []
  | true :: m, s :: r => s :: keepD m r
  | false :: m, _ :: r => .un :: keepD m r
  | [], _ :: r => .un :: keepD [] r
def PlM : List Bool → DEnv → Prop
  | true :: m, s :: r => (∃ d, s = .sh d ∧ Pl d) ∧ PlM m r
  | false :: m, _ :: r => PlM m r
  | _, _ => True
def wipeD (ρ : DEnv) : List Nat → DEnv
  | [] => ρ
  | i :: l => (wipeD ρ l).set i .un
/-- a comprehension's loop -/
def lcL (G : D → DEnv → (DEnv → Prop) → Prop) (T : DEnv → (Bool → DEnv → Prop) → Prop) (E : DEnv → (D → DEnv → Prop) → Prop) (ρ : DEnv) (Q : List D → Prop) : List D → List D → Prop
  | [], acc => Q acc
  | d :: ds, acc => G d ρ fun ρ2 => T ρ2 fun b ρ3 => ρ3 = ρ2 ∧ if b = true then E ρ3 fun y ρ4 => ρ4 = ρ3 ∧ acc.length < sizeLine ∧ lcL G T E ρ Q ds (acc ++ [y]) else lcL G T E ρ Q ds acc
mutual
def wE (Γ : Gm) (E : DX → DEnv → Prop) : Ex → DEnv → (D → DEnv → Prop) → Prop
  | .v i, ρ, Q => match ρ[i]? with
    | some (.sh d) => Q d ρ
    | some (.own _ l) => Q (.lst l) (ρ.set i (.sh (.lst l)))
    | some (.ownK _ l) => Q (.dct l) (ρ.set i (.sh (.dct l)))
    | _ => False
  | .b i, ρ, Q => match ρ[i]? with
    | some (.sh d) => Q d ρ
    | some (.own _ l) => Q (.lst l) ρ
    | some (.ownK _ l) => Q (.dct l) ρ
    | _ => False
  | .fr i e, ρ, Q => match ρ[i]? with
    | some (.own _ l) => wE Γ E e (ρ.set i (.sh (.lst l))) Q
    | some (.ownK _ l) => wE Γ E e (ρ.set i (.sh (.dct l))) Q
    | _ => wE Γ E e ρ Q
  | .tr e, ρ, Q => wE Γ E e ρ Q
  | .wk e, ρ, Q => wE Γ E e ρ fun d ρ1 => ∃ d', (∀ K H v, Rep K H d v → Rep K H d' v) ∧ Q d' ρ1
  | .int n, ρ, Q => Q (.int n) ρ
  | .gi _ n, ρ, Q => Q (.int n) ρ
  | .gs _ z, ρ, Q => Q (.str z) ρ
  | .str x, ρ, Q => Q (.str x) ρ
  | .bl k, ρ, Q => Q (.bl k) ρ
  | .non, ρ, Q => Q .non ρ
  | .bin o a b, ρ, Q => wE Γ E a ρ fun x ρ1 => wE Γ E b ρ1 fun y ρ2 => binW o x y fun d => Q d ρ2
  | .neg a, ρ, Q => wE Γ E a ρ fun x ρ1 => match x with
    | .int i => Q (.int (-i)) ρ1
    | _ => False
  | .not a, ρ, Q => wE Γ E a ρ fun x ρ1 => match x with
    | .bl k => Q (.bl (!k)) ρ1
    | _ => False
  | .cmp o a b, ρ, Q => wE Γ E a ρ fun x ρ1 => wE Γ E b ρ1 fun y ρ2 => cmpW o x y fun k => Q (.bl k) ρ2
  | .cmp2 o p a b c, ρ, Q => wE Γ E a ρ fun x ρ1 => wE Γ E b ρ1 fun y ρ2 => cmpW o x y fun k => if k = true then wE Γ E c ρ2 fun z ρ3 => cmpW p y z fun j => Q (.bl j) ρ3 else Q (.bl false) ρ2
  | .and a l, ρ, Q => wE Γ E a ρ fun x ρ1 => wAnd Γ E x l ρ1 Q
  | .or a l, ρ, Q => wE Γ E a ρ fun x ρ1 => wOr Γ E x l ρ1 Q
  | .ite c a b, ρ, Q => wT Γ E c ρ fun k ρ1 => if k = true then wE Γ E a ρ1 Q else wE Γ E b ρ1 Q
  | .tup l, ρ, Q => wA Γ E l ρ fun ds ρ1 => ds.length ≤ sizeLine ∧ Q (.tup ds) ρ1
  | .lst l, ρ, Q => wA Γ E l ρ fun ds ρ1 => ds.length ≤ sizeLine ∧ Q (.lst ds) ρ1
  | .ix a b, ρ, Q => wE Γ E a ρ fun x ρ1 => wE Γ E b ρ1 fun y ρ2 => ixW x y fun d => Q d ρ2
  | .sl a lo hi, ρ, Q => wE Γ E a ρ fun x ρ1 => wO Γ E lo ρ1 fun i ρ2 => wO Γ E hi ρ2 fun j ρ3 => slW x i j fun d => Q d ρ3
  | .call f l, ρ, Q => wA Γ E l ρ fun ds ρ1 => Γ f ds (fun d => Q d ρ1) fun dx => E dx ρ1
  | .callB f l, ρ, Q => wA Γ E l ρ fun ds ρ1 => Γ f ds (fun d => flatD d = true ∧ Q d ρ1) fun dx => (∀ p ∈ dx.2, flatD p.2 = true) ∧ E dx ρ1
  | .callK f ks pm l, ρ, Q => wA Γ E l ρ fun ds ρ1 => ds.length = ks.length ∧ Γ f (pm.filterMap fun j => ds[j]?) (fun d => Q d ρ1) fun dx => E dx ρ1
  | .dnew, ρ, Q => Q (.dct []) ρ
  | .dsp ks l, ρ, Q => wA Γ (fun _ _ => False) l ρ fun ds ρ1 => ρ1 = ρ ∧ Q (.dct (List.zipWith (fun k d => (Sum.inr k, d)) ks ds)) ρ
  | .bi f l, ρ, Q => wA Γ E l ρ fun ds ρ1 => biW f ds fun d => Q d ρ1
  | .isT ts a, ρ, Q => wE Γ E a ρ fun d ρ1 => ∃ t, tyD d = some t ∧ Q (.bl (ts.any (subTy t))) ρ1
  | .me m o l, ρ, Q => wE Γ E o ρ fun x ρ1 => match x with
    | .str z => wA Γ E l ρ1 fun ds ρ2 => meW m (.str z) ds fun d => Q d ρ2
    | _ => False
  | .lc g k l t e, ρ, Q => wA Γ E l ρ fun ds ρ1 => itW k ds fun items => lcL (wG g) (wTs Γ (fun _ _ => False) t) (wE Γ (fun _ _ => False) e) (wipeD ρ1 g.slots) (fun acc => Q (.lst acc) ρ1) items []
  | .dget d k, ρ, Q => wE Γ E d ρ fun x ρ1 => wE Γ E k ρ1 fun y ρ2 => match x with
    | .dct l => ∃ j z, keyD y = some j ∧ getK l j = some z ∧ Q z ρ2
    | _ => False
  | .din k d, ρ, Q => wE Γ E k ρ fun y ρ1 => wE Γ E d ρ1 fun x ρ2 => match x with
    | .dct l => ∃ j, keyD y = some j ∧ Q (.bl (getK l j).isSome) ρ2
    | _ => False
  | .dnin k d, ρ, Q => wE Γ E k ρ fun y ρ1 => wE Γ E d ρ1 fun x ρ2 => match x with
    | .dct l => ∃ j, keyD y = some j ∧ Q (.bl (!(getK l j).isSome)) ρ2
    | _ => False
  | .dg2 d k e, ρ, Q => wE Γ E d ρ fun x ρ1 => wE Γ E k ρ1 fun y ρ2 => wE Γ E e ρ2 fun z ρ3 => match x with
    | .dct l => ∃ j, keyD y = some j ∧ Q ((getK l j).getD z) ρ3
    | _ => False
  | .rv a, ρ, Q => wE Γ E a ρ fun x ρ1 => rvW x fun d => Q d ρ1
  | .ns a, ρ, Q => wE Γ E a ρ fun x ρ1 => nsW x fun d => Q d ρ1
  | .trv a, ρ, Q => wE Γ E a ρ fun x ρ1 => match x with
    | .lst l => Q (.tup l.reverse) ρ1
    | _ => False
  | .lcK g i m t e, ρ, Q => ∃ l, ρ[i]? = some (.sh (.dct l)) ∧ PlM m ρ ∧ lcL (wG g) (wTs Γ (fun _ _ => False) t) (wE Γ (fun _ _ => False) e) (wipeD (keepD m ρ) g.slots) (fun acc => (∀ y ∈ acc, Pl y) ∧ Q (.lst acc) ρ) (l.map fun kv => dK kv.1) []
  | .mv i, ρ, Q => match ρ[i]? with
    | some (.own _ l) => Q (.lst l) (ρ.set i .un)
    | some (.ownK _ l) => Q (.dct l) (ρ.set i .un)
    | _ => False
  | .fld i f, ρ, Q => match ρ[i]? with
    | some (.exc c l) => ∃ fs d, Γ.cls c = some fs ∧ f ∈ fs ∧ l.lookup f = some d ∧ Q d ρ
    | _ => False
  | .isE i x, ρ, Q => match ρ[i]? with
    | some (.exc c _) => ∃ b, Γ.sub c x = some b ∧ (Γ.cls c).isSome = true ∧ Q (.bl b) ρ
    | _ => False
def wAnd (Γ : Gm) (E : DX → DEnv → Prop) (x : D) : Exs → DEnv → (D → DEnv → Prop) → Prop
  | .nil, ρ, Q => Q x ρ
  | .cons e l, ρ, Q => match x with
    | .bl k => if k = true then wE Γ E e ρ fun y ρ1 => wAnd Γ E y l ρ1 Q else Q (.bl false) ρ
    | _ => False
def wOr (Γ : Gm) (E : DX → DEnv → Prop) (x : D) : Exs → DEnv → (D → DEnv → Prop) → Prop
  | .nil, ρ, Q => Q x ρ
  | .cons e l, ρ, Q => match x with
    | .bl k => if k = true then Q (.bl true) ρ else wE Γ E e ρ fun y ρ1 => wOr Γ E y l ρ1 Q
    | _ => False
def wT (Γ : Gm) (E : DX → DEnv → Prop) : Ex → DEnv → (Bool → DEnv → Prop) → Prop
  | .not a, ρ, Q => wT Γ E a ρ fun k ρ1 => Q (!k) ρ1
  | .and a l, ρ, Q => wT Γ E a ρ fun k ρ1 => if k = true then wTall Γ E l ρ1 Q else Q false ρ1
  | .or a l, ρ, Q => wT Γ E a ρ fun k ρ1 => if k = true then Q true ρ1 else wTany Γ E l ρ1 Q
  | .cmp o a b, ρ, Q => wE Γ E a ρ fun x ρ1 => wE Γ E b ρ1 fun y ρ2 => cmpW o x y fun k => Q k ρ2
  | .cmp2 o p a b c, ρ, Q => wE Γ E a ρ fun x ρ1 => wE Γ E b ρ1 fun y ρ2 => cmpW o x y fun k => if k = true then wE Γ E c ρ2 fun z ρ3 => cmpW p y z fun j => Q j ρ3 else Q false ρ2
  | .din k d, ρ, Q => wE Γ E k ρ fun y ρ1 => wE Γ E d ρ1 fun x ρ2 => match x with
    | .dct l => ∃ j, keyD y = some j ∧ Q (getK l j).isSome ρ2
    | _ => False
  | .dnin k d, ρ, Q => wE Γ E k ρ fun y ρ1 => wE Γ E d ρ1 fun x ρ2 => match x with
    | .dct l => ∃ j, keyD y = some j ∧ Q (!(getK l j).isSome) ρ2
    | _ => False
  | .tr e, ρ, Q => wE Γ E e ρ fun x ρ1 => truW x fun k => Q k ρ1
  | _, _, _ => False
def wTall (Γ : Gm) (E : DX → DEnv → Prop) : Exs → DEnv → (Bool → DEnv → Prop) → Prop
  | .nil, ρ, Q => Q true ρ
  | .cons e l, ρ, Q => wT Γ E e ρ fun k ρ1 => if k = true then wTall Γ E l ρ1 Q else Q false ρ1
def wTany (Γ : Gm) (E : DX → DEnv → Prop) : Exs → DEnv → (Bool → DEnv → Prop) → Prop
  | .nil, ρ, Q => Q false ρ
  | .cons e l, ρ, Q => wT Γ E e ρ fun k ρ1 => if k = true then Q true ρ1 else wTany Γ E l ρ1 Q
def wTs (Γ : Gm) (E : DX → DEnv → Prop) : Exs → DEnv → (Bool → DEnv → Prop) → Prop
  | .nil, ρ, Q => Q true ρ
  | .cons e .nil, ρ, Q => wT Γ E e ρ Q
  | _, _, _ => False
def wA (Γ : Gm) (E : DX → DEnv → Prop) : Exs → DEnv → (List D → DEnv → Prop) → Prop
  | .nil, ρ, Q => Q [] ρ
  | .cons e l, ρ, Q => wE Γ E e ρ fun x ρ1 => wA Γ E l ρ1 fun xs ρ2 => Q (x :: xs) ρ2
def wO (Γ : Gm) (E : DX → DEnv → Prop) : Exs → DEnv → (Option Int → DEnv → Prop) → Prop
  | .nil, ρ, Q => Q none ρ
  | .cons e .nil, ρ, Q => wE Γ E e ρ fun x ρ1 => match x with
    | .int i => Q (some i) ρ1
    | _ => False
  | _, _, _ => False
end
structure EndD where
  nx : DEnv → Prop
  rt : D → DEnv → Prop
  rtF : Bool := false
  bk : DEnv → Prop := fun _ => False
  ct : DEnv → Prop := fun _ => False
def forL (G : D → DEnv → (DEnv → Prop) → Prop) (B : EndD → DEnv → Prop) (Z : EndD) : List D → DEnv → Prop
  | [], ρ => Z.nx ρ
  | d :: ds, ρ => G d ρ fun ρ1 => B { nx := forL G B Z ds, rt := Z.rt, rtF := Z.rtF, bk := Z.nx, ct := forL G B Z ds } ρ1
def notExc : Sl → Bool
  | .exc _ _ => false
  | _ => true
/-- no slot holds an exception -/
def noExc (ρ : DEnv) : Bool := ρ.all notExc
/-- a slot that gets an exception, or none -/
def exS (o : Option Nat) (dx : DX) (ρ : DEnv) : DEnv := match o with
  | none => ρ
  | some i => ρ.set i (.exc dx.1 dx.2)
/-- .. and loses it -/
def unS (o : Option Nat) (ρ : DEnv) : DEnv := match o with
  | none => ρ
  | some i => ρ.set i .un
def EndD.un (o : Option Nat) (Z : EndD) : EndD := { nx := fun ρ => noExc (unS o ρ) = true ∧ Z.nx (unS o ρ), rt := fun d ρ => noExc (unS o ρ) = true ∧ Z.rt d (unS o ρ), rtF := Z.rtF, bk := fun ρ => noExc (unS o ρ) = true ∧ Z.bk (unS o ρ), ct := fun ρ => noExc (unS o ρ) = true ∧ Z.ct (unS o ρ) }
/-- the slot of a list or dict of the frame's own -/
def slO (p : Option Addr) : D → Sl
  | .lst l => .own p l
  | .dct l => .ownK p l
  | _ => .un
/-- .. and back -/
def ofO : Option Sl → Option (Option Addr × D)
  | some (.own p l) => some (p, .lst l)
  | some (.ownK p l) => some (p, .dct l)
  | _ => none
def augW (o : BOp) (x y : D) (Q : D → Prop) : Prop := match o, x, y with
  | .add, .int a, .int b => Q (.int (a + b))
  | .sub, .int a, .int b => Q (.int (a - b))
  | .add, .str a, .str b => a.length + b.length ≤ sizeLine ∧ Q (.str (a ++ b))
  | _, _, _ => False
mutual
def wS (Γ : Gm) (E : DX → DEnv → Prop) : Sx → EndD → DEnv → Prop
  | .asg g e, Z, ρ => wE Γ E e ρ fun d ρ1 => wG g d ρ1 Z.nx
  | .own i e, Z, ρ => wE Γ E e ρ fun d ρ1 => match d with
    | .lst l => Z.nx (ρ1.set i (.own none l))
    | .dct l => Z.nx (ρ1.set i (.ownK none l))
    | _ => False
  | .lcs fz i g k l t e, Z, ρ => wE Γ E (.lc g k l t e) ρ fun d ρ1 => match d with
    | .lst l => Z.nx (ρ1.set i (if fz = true then .sh (.lst l) else .own none l))
    | _ => False
  | .aug i o e, Z, ρ => match ρ[i]? with
    | some (.sh x) => wE Γ E e ρ fun y ρ1 => augW o x y fun d => Z.nx (ρ1.set i (.sh d))
    | _ => False
  | .ret e, Z, ρ => wE Γ E e ρ fun d ρ1 => (Z.rtF = true → md e = .fr) ∧ Z.rt d ρ1
  | .retN, Z, ρ => Z.rtF = false ∧ Z.rt .non ρ
  | .expr e, Z, ρ => wE Γ E e ρ fun _ ρ1 => Z.nx ρ1
  | .exO f i l, Z, ρ => ∃ p d0, ofO ρ[i]? = some (p, d0) ∧ wA Γ E l ρ fun ds ρ1 => ρ1[i]? = ρ[i]? ∧ Γ.o f d0 ds fun _ d' => (slO p d').isOwn = true ∧ Z.nx (ρ1.set i (slO p d'))
  | .app i e, Z, ρ => match ρ[i]? with
    | some (.own p l) => wE Γ E e ρ fun d ρ1 => ρ1[i]? = some (.own p l) ∧ l.length < sizeLine ∧ Z.nx (ρ1.set i (.own p (l ++ [d])))
    | _ => False
  | .ext i e, Z, ρ => match ρ[i]? with
    | some (.own p l) => wE Γ E e ρ fun d ρ1 => ρ1[i]? = some (.own p l) ∧ match d with
      | .lst m => l.length + m.length ≤ sizeLine ∧ Z.nx (ρ1.set i (.own p (l ++ m)))
      | _ => False
    | _ => False
  | .put i k e, Z, ρ => match ρ[i]? with
    | some (.ownK p l) => wE Γ E e ρ fun d ρ1 => wE Γ E k ρ1 fun y ρ2 => ρ1[i]? = some (.ownK p l) ∧ ρ2[i]? = some (.ownK p l) ∧ ∃ j, keyD y = some j ∧ l.length < sizeLine ∧ Z.nx (ρ2.set i (.ownK p (putD l j d)))
    | _ => False
  | .seti i k e, Z, ρ => match ρ[i]? with
    | some (.own p l) => wE Γ E e ρ fun d ρ1 => wE Γ E k ρ1 fun y ρ2 => ρ1[i]? = some (.own p l) ∧ ρ2[i]? = some (.own p l) ∧ match y with
      | .int n => ∃ j, ixN l.length n = some j ∧ Z.nx (ρ2.set i (.own p (l.set j d)))
      | _ => False
    | _ => False
  | .ife c a b, Z, ρ => wT Γ E c ρ fun k ρ1 => if k = true then wSs Γ E a Z ρ1 else wSs Γ E b Z ρ1
  | .whl c b, Z, ρ => ∃ W : Nat → DEnv → Prop, (∃ m, W m ρ) ∧ ∀ m ρ, W m ρ → wT Γ E c ρ fun k ρ1 => if k = true then
      wSs Γ E b { nx := fun ρ' => ∃ m', m' < m ∧ W m' ρ', rt := Z.rt, rtF := Z.rtF, bk := Z.nx, ct := fun ρ' => ∃ m', m' < m ∧ W m' ρ' } ρ1 else Z.nx ρ1
  | .for_ g k l b, Z, ρ => wA Γ E l ρ fun ds ρ1 => itW k ds fun items => forL (wG g) (wSs Γ E b) Z items ρ1
  | .brk, Z, ρ => Z.bk ρ
  | .cont, Z, ρ => Z.ct ρ
  | .pass, Z, ρ => Z.nx ρ
  | .rse c l, _, ρ => wA Γ E l ρ fun ds ρ1 => ∃ fs, Γ.cls c = some fs ∧ ds.length = fs.length ∧ E (c, (fs.zip ds).reverse) ρ1
  | .ins i k e, Z, ρ => match ρ[i]? with
    | some (.own p l) => wE Γ E k ρ fun y ρ1 => wE Γ E e ρ1 fun d ρ2 => ρ2[i]? = some (.own p l) ∧ l.length < sizeLine ∧ match y with
      | .int n => 0 ≤ n ∧ n < 2 ^ 62 ∧ Z.nx (ρ2.set i (.own p (l.take n.toNat ++ [d] ++ l.drop n.toNat)))
      | _ => False
    | _ => False
  | .par2 i j a b, Z, ρ => wE Γ E a ρ fun x ρ1 => wE Γ E b ρ1 fun y ρ2 => Z.nx ((ρ2.set i (.sh x)).set j (.sh y))
  | .tryA b h, Z, ρ => wSs Γ (fun dx ρ1 => wH Γ E h dx Z ρ1) b Z ρ
def wSs (Γ : Gm) (E : DX → DEnv → Prop) : Sxs → EndD → DEnv → Prop
  | .nil, Z, ρ => Z.nx ρ
  | .cons s l, Z, ρ => wS Γ E s { Z with nx := wSs Γ E l Z } ρ
def wH (Γ : Gm) (E : DX → DEnv → Prop) : Hds → DX → EndD → DEnv → Prop
  | .nil, dx, _, ρ => E dx ρ
  | .cons x o s l, dx, Z, ρ => ∃ b, Γ.sub dx.1 x = some b ∧ if b = true then noExc ρ = true ∧ wSs Γ (fun _ _ => False) s (Z.un o) (exS o dx ρ) else wH Γ E l dx Z ρ
end
end DL
/-! DC: what the operations ask by data is what they ask of values and heap -/
namespace DL
open PySem PySem.Spec PyProof.Rows L2

def notSeq : D → Bool
  | .lst _ => false
  | .dct _ => false
  | _ => true
inductive RepF (K : PySem.W.Frag) (H0 : Ent) (ρ : DEnv) (σ : L2.St) (Hf H : Hp) : D → V → Prop
  | sh {d : D} {v : V} (n : notSeq d = true) : Rep K Hf d v → RepF K H0 ρ σ Hf H d v
  | own {a : Addr} {l : List D} {xs : List V} : H0.h a = none → Hf a = none → H a = some (HO.lst xs) → Reps K Hf l xs → (∀ (i : Nat) (s : Sl), ρ[i]? = some s → s.isOwn = true → σ[i]? ≠ some (some (V.ref a))) → RepF K H0 ρ σ Hf H (D.lst l) (V.ref a)
  | ownK {a : Addr} {l : List (Key × D)} {xs : List (Key × V)} : H0.h a = none → Hf a = none → H a = some (HO.dK xs) → RepK K Hf l xs → (∀ (i : Nat) (s : Sl), ρ[i]? = some s → s.isOwn = true → σ[i]? ≠ some (some (V.ref a))) → RepF K H0 ρ σ Hf H (D.dct l) (V.ref a)
def Res (K : PySem.W.Frag) (H0 : Ent) (m : Md) (ρ : DEnv) (σ : L2.St) (Hf H : Hp) (d : D) (v : V) : Prop := match m with
  | .sh => Rep K Hf d v
  | .bo => RepB K Hf H d v
  | .fr => RepF K H0 ρ σ Hf H d v
section
variable {K : PySem.W.Frag} {EX : EXT} {H0 : Ent} {ρ : DEnv} {σ : L2.St} {Hf H : Hp} {d : D} {v : V}
theorem RepF.toB (r : RepF K H0 ρ σ Hf H d v) : RepB K Hf H d v := by
  cases r with
  | sh _ r => exact .sh r
  | own _ _ h r _ => exact .own h r
  | ownK _ _ h r _ => exact .ownK h r
theorem Res.toB {m : Md} (r : Res K H0 m ρ σ Hf H d v) : RepB K Hf H d v := by
  cases m with
  | sh => exact .sh r
  | bo => exact r
  | fr => exact RepF.toB r
theorem same_freeze {Hf H : Hp} {a : Addr} {o : HO} (s : Same Hf H) (n : Hf a = none) (h : H a = some o) : Same Hf (upd Hf a o) ∧ Same (upd Hf a o) H := by
  refine ⟨same_new n o, fun b u q => ?_⟩
  by_cases hb : b = a
  · subst hb; rw [upd_same] at q; cases q; exact h
  · rw [upd_ne hb] at q; exact s b u q
theorem SR.frz (R : SR K EX H0 ρ σ Hf H) (ek : EXok EX) {a : Addr} {o : HO} (n0 : H0.h a = none) (n : Hf a = none) (h : H a = some o) (f : ∀ (i : Nat) (s : Sl), ρ[i]? = some s → s.isOwn = true → σ[i]? ≠ some (some (V.ref a))) :
    SR K EX H0 ρ σ (upd Hf a o) H := by
  obtain ⟨s1, s2⟩ := same_freeze R.sub n h
  refine ⟨R.base.trans s1, R.ent, fun b h1 h2 => by rw [upd_ne (fun z => h1 (by rw [z]; exact n0))]; exact R.nof b h1 h2, s2, R.len, fun i d e => ?_, fun i p l e => ?_, fun i p l e => ?_, fun i c l e => ?_, R.apart⟩
  · obtain ⟨v, h1, r⟩ := R.sh i d e
    exact ⟨v, h1, r.same s1⟩
  · obtain ⟨b, xs, h1, h2, h3, r, z0⟩ := R.own i p l e
    refine ⟨b, xs, h1, ?_, h3, r.same s1, z0⟩
    rw [upd_ne (fun z => f i _ e rfl (by rw [h1, z]))]; exact h2
  · obtain ⟨b, xs, h1, h2, h3, r, z0⟩ := R.ownK i p l e
    refine ⟨b, xs, h1, ?_, h3, r.same s1, z0⟩
    rw [upd_ne (fun z => f i _ e rfl (by rw [h1, z]))]; exact h2
  · obtain ⟨v, h1, r⟩ := R.exc i c l e
    exact ⟨v, h1, ek _ _ _ _ _ s1 r⟩
/-- a fresh value is frozen -/
theorem RepF.freeze (r : RepF K H0 ρ σ Hf H d v) (R : SR K EX H0 ρ σ Hf H) (ek : EXok EX) : ∃ Hf', SR K EX H0 ρ σ Hf' H ∧ Same Hf Hf' ∧ Rep K Hf' d v := by
  cases r with
  | sh _ r => exact ⟨Hf, R, Same.refl _, r⟩
  | own n0 n h r f => exact ⟨_, R.frz ek n0 n h f, same_new n _, .lst (.of upd_same) (r.same (same_new n _))⟩
  | ownK n0 n h r f => exact ⟨_, R.frz ek n0 n h f, same_new n _, .dct (.inl upd_same) (r.same (same_new n _))⟩
theorem Res.freeze {m : Md} (r : Res K H0 m ρ σ Hf H d v) (hm : m ≠ .bo) (R : SR K EX H0 ρ σ Hf H) (ek : EXok EX) : ∃ Hf', SR K EX H0 ρ σ Hf' H ∧ Same Hf Hf' ∧ Rep K Hf' d v := by
  cases m with
  | sh => exact ⟨Hf, R, Same.refl _, r⟩
  | bo => exact absurd rfl hm
  | fr => exact RepF.freeze r R ek
theorem SR.notOwn (R : SR K EX H0 ρ σ Hf H) {p : Addr} (h : H p = none) : ∀ (i : Nat) (s : Sl), ρ[i]? = some s → s.isOwn = true → σ[i]? ≠ some (some (V.ref p)) := fun i s e o z => by
  cases s with
  | own p' l =>
    obtain ⟨b, xs, h1, _, h3, _⟩ := R.own i p' l e
    rw [h1] at z; cases z; rw [h] at h3; cases h3
  | ownK p' l =>
    obtain ⟨b, xs, h1, _, h3, _⟩ := R.ownK i p' l e
    rw [h1] at z; cases z; rw [h] at h3; cases h3
  | un => cases o
  | sh _ => cases o
  | exc _ _ => cases o
end

/-- what follows a value -/
def Kt (K : PySem.W.Frag) (EX : EXT) (H0 : Ent) (ρ : DEnv) (σ : L2.St) (Hf H : Hp) (m : Md) (Q : D → Prop) (QV : VK) : Prop :=
  ∀ d v Hf' H', SR K EX H0 ρ σ Hf' H' → Same Hf Hf' → Same H H' → Res K H0 m ρ σ Hf' H' d v → Q d → QV v H'

section
variable {K : PySem.W.Frag} {EX : EXT} {H0 : Ent} {ρ : DEnv} {σ : L2.St} {Hf H : Hp} {Q : D → Prop} {QV : VK}
theorem Kt.int (k : Kt K EX H0 ρ σ Hf H .fr Q QV) (R : SR K EX H0 ρ σ Hf H) {i : Int} (q : Q (.int i)) : QV (.int i) H := k _ _ Hf H R (Same.refl _) (Same.refl _) (.sh rfl (.int i)) q
theorem Kt.str (k : Kt K EX H0 ρ σ Hf H .fr Q QV) (R : SR K EX H0 ρ σ Hf H) {i : Str} (q : Q (.str i)) : QV (.str i) H := k _ _ Hf H R (Same.refl _) (Same.refl _) (.sh rfl (.str i)) q
theorem Kt.bl (k : Kt K EX H0 ρ σ Hf H .fr Q QV) (R : SR K EX H0 ρ σ Hf H) {i : Bool} (q : Q (.bl i)) : QV (.bl i) H := k _ _ Hf H R (Same.refl _) (Same.refl _) (.sh rfl (.bl i)) q
theorem Kt.lst (k : Kt K EX H0 ρ σ Hf H .fr Q QV) (R : SR K EX H0 ρ σ Hf H) (ek : EXok EX) {l : List D} {xs : List V} {p : Addr} (h : H p = none) (r : Reps K Hf l xs) (q : Q (.lst l)) : QV (.ref p) (upd H p (.lst xs)) :=
  k _ _ Hf (upd H p (.lst xs)) (R.newO ek h _) (Same.refl _) (same_new h _) (.own (R.ent.free h) (R.fresh h) upd_same r (R.notOwn h)) q
theorem Kt.tup (k : Kt K EX H0 ρ σ Hf H .fr Q QV) (R : SR K EX H0 ρ σ Hf H) (ek : EXok EX) {l : List D} {xs : List V} {p : Addr} (h : H p = none) (r : Reps K Hf l xs) (q : Q (.tup l)) : QV (.ref p) (upd H p (.tup xs)) :=
  k _ _ (upd Hf p (.tup xs)) (upd H p (.tup xs)) (R.newF ek h _) (same_new (R.fresh h) _) (same_new h _) (.sh rfl (.tup (.of upd_same) (r.same (same_new (R.fresh h) _)))) q
theorem Kt.rep (k : Kt K EX H0 ρ σ Hf H .fr Q QV) (R : SR K EX H0 ρ σ Hf H) {d : D} {v : V} (n : notSeq d = true) (r : Rep K Hf d v) (q : Q d) : QV v H := k _ _ Hf H R (Same.refl _) (Same.refl _) (.sh n r) q
end

/-! ### the widest rules: whatever the operation does -/
section
variable {X : Cx}
def mOp (X : Cx) (f : Value → Value → Sem Value) : R2 := fun x y H Q => ∀ (pins : List (Addr × Obj)) (s : Shared) (σ : L2.St) (v u : Value), Inv X pins σ H s → RelV x v → RelV y u → wpAny (model X.prog X.w) X.A (f v u) (EP X pins σ Q) X.xe s
theorem mOp_ok {f : Value → Value → Sem Value} : OpR X f (mOp X f) := fun pins s σ H x y v u Q I rx ry h => h pins s σ v u I rx ry
theorem mOp.of {f : Value → Value → Sem Value} {r : R2} (h : OpR X f r) {x y : V} {H : Hp} {Q : VK} (q : r x y H Q) : mOp X f x y H Q := fun pins s σ v u I rx ry => h pins s σ H x y v u Q I rx ry q
def mIx (X : Cx) : R2 := fun x y H Q => ∀ (value slice : Expr) (pins : List (Addr × Obj)) (s : Shared) (σ : L2.St) (v u : Value), Inv X pins σ H s → RelV x v → RelV y u → subscripted slice false v u = operate [v, u] (getItem v u) → wpAny (model X.prog X.w) X.A (subscriptTail value slice v u) (EP X pins σ Q) X.xe s
theorem mIx_ok : IxR X (mIx X) := fun value slice pins s σ H x y v u Q I rx ry h => h value slice pins s σ v u I rx ry
theorem mIx.of {r : R2} (h : IxR X r) {x y : V} {H : Hp} {Q : VK} (q : r x y H Q) : mIx X x y H Q := fun value slice pins s σ v u I rx ry => h value slice pins s σ H x y v u Q I rx ry q
def mSl (X : Cx) : V → Option Int → Option Int → Hp → VK → Prop := fun x lo hi H Q => ∀ (pins : List (Addr × Obj)) (s : Shared) (σ : L2.St) (v vl vu : Value) (sl : Addr), Inv X pins σ H s → RelV x v → s.heap.IsSliceOf sl vl vu .none → IsPart vl lo → IsPart vu hi →
    ∃ T id, typeLookup (.type T) "__getitem__" = pure (some (.builtin id)) ∧ s.TypeIs v T ∧ wpAny (model X.prog X.w) X.A (getItem v (.ref sl)) (EP X pins σ Q) X.xe s
theorem mSl_ok : SlR X (mSl X) := fun pins s σ H x v vl vu lo hi sl Q I rx hs pl pu h => h pins s σ v vl vu sl I rx hs pl pu
theorem mSl.of {r : V → Option Int → Option Int → Hp → VK → Prop} (h : SlR X r) {x : V} {lo hi : Option Int} {H : Hp} {Q : VK} (q : r x lo hi H Q) : mSl X x lo hi H Q := fun pins s σ v vl vu sl I rx hs pl pu => h pins s σ H x v vl vu lo hi sl Q I rx hs pl pu q
def mCa (X : Cx) (f : Value) : List V → Hp → VK → Prop := fun xs H Q => ∀ (pins : List (Addr × Obj)) (s : Shared) (σ : L2.St) (us : List Value), Inv X pins σ H s → Vals xs us → wpAny (model X.prog X.w) X.A (call f us) (EP X pins σ Q) X.xe s
theorem mCa_ok {f : Value} : CallR X f (mCa X f) := fun pins s σ H xs us Q I r h => h pins s σ us I r
theorem mCa.of {f : Value} {r : List V → Hp → VK → Prop} (h : CallR X f r) {xs : List V} {H : Hp} {Q : VK} (q : r xs H Q) : mCa X f xs H Q := fun pins s σ us I r => h pins s σ H xs us Q I r q
def mMt (X : Cx) (id : String) : V → List V → Hp → VK → Prop := fun x xs H Q => ∀ (pins : List (Addr × Obj)) (s : Shared) (σ : L2.St) (v : Value) (us : List Value), Inv X pins σ H s → RelV x v → Vals xs us → wpAny (model X.prog X.w) X.A (call (.builtin id) (v :: us)) (EP X pins σ Q) X.xe s
theorem mMt_ok {id : String} : MtR X id (mMt X id) := fun pins s σ H x xs v us Q I rx r h => h pins s σ v us I rx r
theorem mMt.of {id : String} {r : V → List V → Hp → VK → Prop} (h : MtR X id r) {x : V} {xs : List V} {H : Hp} {Q : VK} (q : r x xs H Q) : mMt X id x xs H Q := fun pins s σ v us I rx rs => h pins s σ H x xs v us Q I rx rs q
def mTr (X : Cx) : V → Hp → (Bool → Hp → Prop) → Prop := fun x H Q => ∀ (pins : List (Addr × Obj)) (s : Shared) (σ : L2.St) (v : Value), Inv X pins σ H s → RelV x v → wpAny (model X.prog X.w) X.A (truthy v) (TP X pins σ Q) X.xe s
end

/-! ### two lists joined, whatever way they are read -/
def rCatS (K : PySem.W.Frag) : R2 := fun x y H Q => ∃ l b xs zs, x = .ref l ∧ y = .ref b ∧ SqL K H l xs ∧ SqL K H b zs ∧ xs.length + zs.length ≤ sizeLine ∧ ∀ p, H p = none → Q (.ref p) (upd H p (.lst (xs ++ zs)))
theorem op_catS {X : Cx} : OpR X (binaryOp .Add) (rCatS X.K) := by
  intro pins s σ H x y v u Q I rx ry h
  obtain ⟨l, b, xs, zs, rfl, rfl, hl, hb, hz, q⟩ := h
  cases rx
  cases ry
  obtain ⟨it1, r1, ⟨⟨c1, d1, t1, s1⟩, n1, o1, k1, z1, e1⟩, _⟩ := I.list hl
  obtain ⟨it2, r2, ⟨⟨c2, d2, t2, s2⟩, n2, o2, k2, z2, e2⟩, _⟩ := I.list hb
  simp only at k1 e1 k2 e2
  subst k1 e1 k2 e2
  have h1 := r1.length
  have h2 := r2.length
  have ea : it1.toArray ++ it2.toArray = (it1 ++ it2).toArray := List.append_toArray ..
  have hsz : it1.toArray.size + it2.toArray.size ≤ sizeLine := by rw [List.size_toArray, List.size_toArray]; omega
  have goal : EP X pins σ Q (.ref s.heap.objs.size) { s with heap := s.heap.push { cls := .type "list", data := .seq (it1.toArray ++ it2.toArray) } } := by
    rw [ea]
    exact ⟨.ref _, _, I.lnew (t' := s.toks) (r1.append r2) (by rw [List.length_append]; exact hz), rfl, q _ I.fresh⟩
  exact concat_meets ⟨_, o1, rfl⟩ ⟨_, o2, rfl⟩ noFill_list_add seq_list_add PySem.F.slot_list_add PySem.F.entry_list_add (PySem.F.args_list_add_2 _ _) (list_addW l b it1.toArray it2.toArray n1 n2 d1 d2 s1 s2 hsz) ⟨o1, o2, goal⟩

/-! ### a list times an int, whatever way it is read -/
theorem q_mul_intS (l : Addr) (items : Array Value) (n : Nat) (d : Option Addr) (sl : Array (Option Value)) (x : Int) (u : Tok) (hc0 : ¬(!Builtin.List.listFitsIndex x) = true)
    (hc1 : ¬items.size * x.toNat > (2 ^ 63 - 1) / 8) (hc2 : ¬Builtin.List.listTooLong (items.size * x.toNat) = true) :
    Meets (Builtin.«list.__mul__» ⟨[.ref l, .int x u], []⟩) (fun _ R s => s.heap.get? l = some { cls := .type "list", dict := d, data := .seq items n, slots := sl } ∧ R (.ok (.ret (Value.ref s.heap.objs.size))) { s with heap := s.heap.push { cls := Value.type "list", data := Data.seq (List.foldl (fun x1 x2 => x1 ++ x2) #[] (List.replicate (if items.isEmpty = true then 0 else x.toNat) items)) }, toks := s.toks }) :=
  .of_wp fun prog w A R s h => by
    obtain ⟨hp, g, d, tk, os⟩ := s; obtain ⟨hl, h⟩ := h
    have hsz := AutoListH.joined_fits hc2
    have f1 := AutoSeq1.idx_int
    wp_walk; refine wpAny_ite_false (decide_eq_false (Nat.not_lt.mpr hsz)) ?_; wp_walk; exact ⟨_, rfl, h⟩
theorem q_rmul_intS (a : Int) (t : Tok) (l : Addr) (items : Array Value) (n : Nat) (d : Option Addr) (sl : Array (Option Value)) :
    Meets (Builtin.«int.__rmul__» ⟨[.int a t, .ref l], []⟩) (fun _ R s => s.heap.get? l = some { cls := .type "list", dict := d, data := .seq items n, slots := sl } ∧ R (.ok (.ret Value.notImplemented)) s) :=
  .of_wp fun prog w A R s h => by obtain ⟨hp, g, d, tk, os⟩ := s; obtain ⟨hl, h⟩ := h; wp_walk; exact ⟨_, rfl, h⟩
def rRepS (K : PySem.W.Frag) : R2 := fun x y H Q => ∃ a k xs, x = .ref a ∧ y = .int k ∧ SqL K H a xs ∧ -(2 ^ 63) ≤ k ∧ k < 2 ^ 63 ∧ xs.length * k.toNat ≤ sizeLine ∧ ∀ p, H p = none → Q (.ref p) (upd H p (.lst (List.replicate k.toNat xs).flatten))
theorem op_repS {X : Cx} : OpR X (binaryOp .Mult) (rRepS X.K) := by
  intro pins s σ H x y v u Q I rx ry h
  obtain ⟨a, k, xs, rfl, rfl, hs, h1, h2, hz, q⟩ := h
  cases rx
  obtain ⟨t, rfl⟩ := ry
  obtain ⟨its, rv, ⟨⟨cls, dd, data, sl⟩, n, ho, hc, hdn, hd⟩, hlen⟩ := I.list hs
  have hc1 : cls = Value.type "list" := hc
  have hd1 : data = Data.seq its.toArray n := hd
  subst hc1 hd1
  have hl := rv.length
  have hlen2 : its.toArray.size * k.toNat ≤ sizeLine := by rw [List.size_toArray, ← hl]; exact hz
  have hcap : ¬ its.toArray.size * k.toNat > (2 ^ 63 - 1) / 8 := by
    have : (sizeLine : Nat) ≤ (2 ^ 63 - 1) / 8 := by decide
    omega
  have hfit : ¬ (!Builtin.List.listFitsIndex k) = true := by
    rw [fitsIndex_both h1 h2]
    exact Bool.false_ne_true
  have hlong : ¬ Builtin.List.listTooLong (its.toArray.size * k.toNat) = true := by
    rw [notLongL hlen2]
    exact Bool.false_ne_true
  have hnew : List.foldl (fun x1 x2 => x1 ++ x2) #[] (List.replicate (if its.toArray.isEmpty = true then 0 else k.toNat) its.toArray) = (List.replicate k.toNat its).flatten.toArray := by
    have f0 : ∀ m : Nat, List.foldl (fun x1 x2 => x1 ++ x2) #[] (List.replicate m its.toArray) = (List.replicate m its).flatten.toArray := fun m => by
      have := foldl_rep its m []
      rw [List.nil_append] at this
      exact this
    rw [f0]
    cases its with
    | nil => simp
    | cons a r' => rw [if_neg (by simp)]
  refine wpAny_binaryOp_repeat_ref (T := "list") (U := "int") (by decide) ⟨_, ho, rfl⟩ (fun s' => typeIs_int s' k t) noFill_list_mul F.fills_int_mul F.slot_int_rmul repeat_list F.slot_int_index.lookup
    (call_meets F.slot_int_rmul (typeIs_int s k t) F.entry_int_rmul (F.args_int_rmul_2 _ _) (q_rmul_intS k t a its.toArray n dd sl)
      ⟨ho, rfl, ⟨_, ho, rfl⟩, call_meets F.slot_list_mul ⟨_, ho, rfl⟩ F.entry_list_mul (F.args_list_mul_2 _ _) (q_mul_intS a its.toArray n dd sl k t hfit hcap hlong) ⟨ho, ?_⟩⟩)
  rw [hnew]
  refine ⟨.ref s.heap.objs.size, upd H s.heap.objs.size (.lst (List.replicate k.toNat xs).flatten), I.laid (t' := s.toks) (fun b o e => Heap.get?_push_of_some _ e) (Nat.le_refl _) ⟨?_, _, 0, rv.rep k.toNat, Heap.get?_push_size _ rfl⟩, rfl, q _ (I.hok.fresh (Nat.le_refl _))⟩
  rw [PyProof.Rows.lm_len_rep_flat, Nat.mul_comm]; exact hz
end DL
/-! DD: the operations, one by one -/
namespace DL
open PySem PySem.Spec PyProof.Rows L2
theorem dI (i j : Int) : decide (V.int i = V.int j) = decide (i = j) := by simp
theorem dS (i j : Str) : decide (V.str i = V.str j) = decide (i = j) := by simp
theorem dB (i j : Bool) : decide (V.bl i = V.bl j) = decide (i = j) := by simp
def BOp.op : BOp → Operator
  | .add => .Add | .sub => .Sub | .mul => .Mult | .mod => .Mod | .fdiv => .FloorDiv | .pow => .Pow
def COp.op : COp → CmpOp
  | .lt => .Lt | .le => .LtE | .gt => .Gt | .ge => .GtE | .eq => .Eq | .ne => .NotEq | .is => .Is | .isn => .IsNot | .inn => .In | .nin => .NotIn
section
variable {K : PySem.W.Frag} {Hf H : Hp} {x : V}
theorem RepB.int_inv {i : Int} (r : RepB K Hf H (.int i) x) : x = .int i := by
  cases r with
  | sh r => cases r; rfl
theorem RepB.str_inv {i : Str} (r : RepB K Hf H (.str i) x) : x = .str i := by
  cases r with
  | sh r => cases r; rfl
theorem RepB.bl_inv {i : Bool} (r : RepB K Hf H (.bl i) x) : x = .bl i := by
  cases r with
  | sh r => cases r; rfl
theorem RepB.non_inv (r : RepB K Hf H .non x) : x = .non := by
  cases r with
  | sh r => cases r; rfl
theorem RepB.lst_inv {l : List D} (r : RepB K Hf H (.lst l) x) (s : Same Hf H) : ∃ a xs, x = .ref a ∧ SqL K H a xs ∧ Reps K Hf l xs := by
  cases r with
  | sh r =>
    cases r with
    | lst h r => exact ⟨_, _, rfl, s.seq h, r⟩
  | own h r => exact ⟨_, _, rfl, .of h, r⟩
theorem RepB.tup_inv {l : List D} (r : RepB K Hf H (.tup l) x) (s : Same Hf H) : ∃ a xs, x = .ref a ∧ SqT K H a xs ∧ SqT K Hf a xs ∧ Reps K Hf l xs := by
  cases r with
  | sh r =>
    cases r with
    | tup h r => exact ⟨_, _, rfl, (Sim.of s).seqT h, h, r⟩
theorem RepB.dct_inv {l : List (Key × D)} (r : RepB K Hf H (.dct l) x) (s : Same Hf H) : ∃ a xs, x = .ref a ∧ Rd H a (.dK xs) ∧ RepK K Hf l xs := by
  cases r with
  | sh r =>
    cases r with
    | dct h r => exact ⟨_, _, rfl, (Sim.of s).dk h, r⟩
  | ownK h r => exact ⟨_, _, rfl, .inl h, r⟩
theorem Reps.cutV {l : List D} {xs : List V} (r : Reps K H l xs) (lo hi : Option Int) : Reps K H (cutD l lo hi) (cutV xs lo hi) := by
  unfold cutD L2.cutV
  rw [r.length]
  exact (r.drop _).take _
theorem cut_whole {l : List D} {lo hi : Option Int} (h : HT.sIx l.length 0 lo = 0 ∧ HT.sIx l.length l.length hi = l.length) : cutD l lo hi = l := by
  unfold cutD
  rw [h.1, h.2, List.drop_zero, Nat.sub_zero, List.take_length]
theorem Reps.atI {l : List D} {xs : List V} (r : Reps K H l xs) {i : Int} {d : D} (h : atI l i = some d) : ∃ v, atI xs i = some v ∧ Rep K H d v := by
  unfold L2.atI at h ⊢
  rw [r.length] at h
  cases e : ixN xs.length i with
  | none => rw [e] at h; cases h
  | some j =>
    rw [e] at h
    obtain ⟨v, h1, h2⟩ := r.get (i := j) (d := d) h
    exact ⟨v, h1, h2⟩
mutual
theorem Rep.dp : ∀ (d : D) (v : V), Rep K H d v → SeqAt.shaped (toPy d) = true → Dp K H v (toPy d) := fun d v r s => Rep.dp0 d v r (SeqAt.canLay_of_shaped s)
theorem Rep.dp0 : ∀ (d : D) (v : V), Rep K H d v → (toPy d).canLay0 = true → Dp K H v (toPy d)
  | .non, _, .non, _ => .non
  | .bl b, _, .bl _, _ => .bl b
  | .int i, _, .int _, _ => .int i
  | .str x, _, .str _, _ => .str x
  | .tup l, _, .tup h r, s => .tup h (Reps.dp l _ r s)
  | .lst l, _, .lst h r, s => .lst h (Reps.dp l _ r s)
  | .dct _, _, _, s => nomatch s
  | .opq _, _, _, s => nomatch s
theorem Reps.dp : ∀ (l : List D) (xs : List V), Reps K H l xs → PyData.canLayAll0 (toPys l) = true → DpAll K H xs (toPys l)
  | [], _, .nil, _ => .nil
  | d :: l, _, .cons r t, s => by
    have s' : (toPy d).canLay0 = true ∧ PyData.canLayAll0 (toPys l) = true := by simpa [toPys, PyData.canLayAll0] using s
    exact .cons (Rep.dp0 d _ r s'.1) (Reps.dp l _ t s'.2)
end
theorem Rep.scal {a b : D} {y : V} (ra : Rep K H a x) (rb : Rep K H b y) (s : scalD a b = true) : scal x y = true := by
  cases ra <;> cases rb <;> first | rfl | cases s
theorem Rep.scal_ne {a b : D} {y : V} (ra : Rep K H a x) (rb : Rep K H b y) (s : scalD a b = true) (n : ∀ i j, a = .int i → b = .int j → False) (n2 : ∀ i j, a = .str i → b = .str j → False) (n3 : ∀ i j, a = .bl i → b = .bl j → False) (n4 : a = .non → b = .non → False) : x ≠ y := by
  cases ra <;> cases rb <;> first | (cases s; done) | exact (n _ _ rfl rfl).elim | exact (n2 _ _ rfl rfl).elim | exact (n3 _ _ rfl rfl).elim | exact (n4 rfl rfl).elim | exact (nofun)
end
section
variable {X : Cx} {EX : EXT} {H0 : Ent} {ρ : DEnv} {σ : L2.St} {Hf H : Hp} {a b : D} {x y : V} {Q : D → Prop} {QV : VK}
theorem op_srep : OpR X (binaryOp .Mult) (fun x y H Q => ∃ z n, x = .str z ∧ y = .int n ∧ MulOk z n ∧ Q (.str (Txt.mul z n)) H) := by
  intro pins s σ H x y v u Q I rx ry ⟨z, n, ex, ey, hm, q⟩
  subst ex ey
  obtain ⟨t, rfl⟩ := rx
  obtain ⟨t2, rfl⟩ := ry
  exact SB.mul hm fun t' k => ⟨.str (Txt.mul z n), H, I.tok _, ⟨t', rfl⟩, q⟩
theorem bin_ok (ek : EXok EX) {o : BOp} (R : SR X.K EX H0 ρ σ Hf H) (ra : RepB X.K Hf H a x) (rb : RepB X.K Hf H b y) (w : binW o a b Q) (k : Kt X.K EX H0 ρ σ Hf H .fr Q QV) : mOp X (binaryOp o.op) x y H QV := by
  unfold binW at w
  split at w
  · cases ra.int_inv; cases rb.int_inv
    exact mOp.of op_add ⟨_, _, rfl, rfl, k.int R w⟩
  · cases ra.str_inv; cases rb.str_inv
    exact mOp.of op_add_str ⟨_, _, rfl, rfl, w.1, k.str R w.2⟩
  · obtain ⟨p, xs, rfl, h1, r1⟩ := ra.lst_inv R.sub
    obtain ⟨q, ys, rfl, h2, r2⟩ := rb.lst_inv R.sub
    exact mOp.of op_catS ⟨_, _, _, _, rfl, rfl, h1, h2, by rw [← r1.length, ← r2.length]; exact w.1, fun p hp => k.lst R ek hp (r1.append r2) w.2⟩
  · obtain ⟨p, xs, rfl, h1, g1, r1⟩ := ra.tup_inv R.sub
    obtain ⟨q, ys, rfl, h2, g2, r2⟩ := rb.tup_inv R.sub
    refine mOp.of op_catA ⟨_, _, _, _, rfl, rfl, h1, h2, by rw [← r1.length, ← r2.length]; exact w.1, fun e => ?_, fun _ e => ?_, fun _ _ p hp => k.tup R ek hp (r1.append r2) w.2⟩
    · subst e; cases r1
      exact k.rep R rfl (.tup g2 r2) w.2
    · subst e; cases r2
      have w2 := w.2
      rw [List.append_nil] at w2
      exact k.rep R rfl (.tup g1 r1) w2
  · cases ra.int_inv; cases rb.int_inv
    exact mOp.of op_sub ⟨_, _, rfl, rfl, k.int R w⟩
  · cases ra.int_inv; cases rb.int_inv
    exact mOp.of op_mul ⟨_, _, rfl, rfl, w.1, k.int R w.2⟩
  · cases ra.str_inv; cases rb.int_inv
    exact mOp.of op_srep ⟨_, _, rfl, rfl, w.1, k.str R w.2⟩
  · obtain ⟨p, xs, rfl, h1, r1⟩ := ra.lst_inv R.sub
    cases rb.int_inv
    exact mOp.of op_repS ⟨_, _, _, rfl, rfl, h1, w.1.1, w.1.2.1, by rw [← r1.length]; exact w.1.2.2, fun p hp => k.lst R ek hp (r1.rep _) w.2⟩
  · cases ra.int_inv; cases rb.int_inv
    exact mOp.of op_mod ⟨_, _, rfl, rfl, w.1, k.int R w.2⟩
  · cases ra.int_inv; cases rb.int_inv
    exact mOp.of op_fdiv ⟨_, _, rfl, rfl, w.1, k.int R w.2⟩
  · cases ra.int_inv; cases rb.int_inv
    exact mOp.of op_pow ⟨_, _, rfl, rfl, w.1, k.int R w.2⟩
  · exact w.elim
theorem RepB.rep' (R : SR X.K EX H0 ρ σ Hf H) (ra : RepB X.K Hf H a x) : Rep X.K H a x := ra.rep R.sub
theorem eq_ok (hu : X.A.units + 64 < cLine) {W : Bool → Prop} (R : SR X.K EX H0 ρ σ Hf H) (ra : RepB X.K Hf H a x) (rb : RepB X.K Hf H b y) (w : eqW a b W) (k : ∀ c, W c → QV (.bl c) H) : mOp X (compareOp .Eq) x y H QV := by
  have r1 := ra.rep R.sub
  have r2 := rb.rep R.sub
  unfold eqW at w
  split at w
  · cases r1; cases r2
    refine mOp.of op_eq ⟨rfl, ?_⟩
    have e := k _ w
    rw [dI]; exact e
  · cases r1; cases r2
    refine mOp.of op_eq ⟨rfl, ?_⟩
    have e := k _ w
    rw [dS]; exact e
  · cases r1; cases r2
    refine mOp.of op_eq ⟨rfl, ?_⟩
    have e := k _ w
    rw [dB]; exact e
  · cases r1; cases r2
    exact mOp.of op_eq ⟨rfl, k _ w⟩
  · rename_i n1 n2 n3 n4
    unfold eqDW at w
    split at w
    · rename_i hs
      refine mOp.of op_eq ⟨r1.scal r2 hs, ?_⟩
      have e : decide (x = y) = false := decide_eq_false (r1.scal_ne r2 hs n1 n2 n3 n4)
      rw [e]; exact k _ w
    · exact mOp.of (op_eqD hu) ⟨_, _, r1.dp _ _ w.1, r2.dp _ _ w.2.1, w.1, w.2.1, k _ w.2.2⟩
theorem ne_ok (hu : X.A.units + 64 < cLine) {W : Bool → Prop} (R : SR X.K EX H0 ρ σ Hf H) (ra : RepB X.K Hf H a x) (rb : RepB X.K Hf H b y) (w : eqW a b W) (k : ∀ c, W c → QV (.bl (!c)) H) : mOp X (compareOp .NotEq) x y H QV := by
  have r1 := ra.rep R.sub
  have r2 := rb.rep R.sub
  unfold eqW at w
  split at w
  · cases r1; cases r2
    refine mOp.of op_ne ⟨rfl, ?_⟩
    have e := k _ w
    rw [dI]; exact e
  · cases r1; cases r2
    refine mOp.of op_ne ⟨rfl, ?_⟩
    have e := k _ w
    rw [dS]; exact e
  · cases r1; cases r2
    refine mOp.of op_ne ⟨rfl, ?_⟩
    have e := k _ w
    rw [dB]; exact e
  · cases r1; cases r2
    exact mOp.of op_ne ⟨rfl, k _ w⟩
  · rename_i n1 n2 n3 n4
    unfold eqDW at w
    split at w
    · rename_i hs
      refine mOp.of op_ne ⟨r1.scal r2 hs, ?_⟩
      have e : decide (x = y) = false := decide_eq_false (r1.scal_ne r2 hs n1 n2 n3 n4)
      rw [e]; exact k _ w
    · exact mOp.of (op_neD hu) ⟨_, _, r1.dp _ _ w.1, r2.dp _ _ w.2.1, w.1, w.2.1, k _ w.2.2⟩
theorem Rep.flat (r : Rep X.K H a x) (f : flatD a = true) : flatV x = true := by
  cases r <;> first | rfl | cases f
theorem Rep.eqF (r : Rep X.K H a x) (s : Rep X.K H b y) (f : flatD a = true) (g : flatD b = true) : eqV x y = eqF a b := by
  cases r <;> first | (cases f; done) | (cases s <;> first | (cases g; done) | rfl)
theorem Reps.inV {l : List D} {xs : List V} (r : Rep X.K H a x) (f : flatD a = true) : ∀ {l : List D} {xs : List V}, Reps X.K H l xs → l.all flatD = true → xs.all flatV = true ∧ L2.inV x xs = l.any fun y => DL.eqF y a
  | _, _, .nil, _ => ⟨rfl, rfl⟩
  | d :: l, _, .cons s t, g => by
    rw [List.all_cons, Bool.and_eq_true] at g
    obtain ⟨h1, h2⟩ := Reps.inV (l := []) (xs := []) r f t g.2
    refine ⟨by rw [List.all_cons, h1, s.flat g.1]; rfl, ?_⟩
    unfold L2.inV at h2 ⊢
    rw [List.any_cons, List.any_cons, h2, s.eqF r g.1 f]
theorem in_ok {neg : Bool} {W : Bool → Prop} (R : SR X.K EX H0 ρ σ Hf H) (ra : RepB X.K Hf H a x) {l : List D} {xs : List V} {p : Addr} (hq : SqL X.K H p xs ∨ SqT X.K H p xs) (rl : Reps X.K Hf l xs) (w : inW a l W) (k : ∀ c, W c → QV (.bl (if neg = true then !c else c)) H) :
    mOp X (compareOp (if neg = true then .NotIn else .In)) x (.ref p) H QV := by
  obtain ⟨f, g, w⟩ := w
  obtain ⟨h1, h2⟩ := Reps.inV (l := []) (xs := []) (ra.rep R.sub) f (rl.same R.sub) g
  have fx := (ra.rep R.sub).flat f
  cases neg with
  | false => exact mOp.of op_in_seq ⟨p, xs, rfl, hq, fx, h1, by rw [h2]; exact k _ w⟩
  | true => exact mOp.of op_notIn_seq ⟨p, xs, rfl, hq, fx, h1, by rw [h2]; exact k _ w⟩
theorem Rep.isn (r : Rep X.K H a x) (n : ∀ φ, a ≠ .opq φ) : decide (x = .non) = (match a with | .non => true | _ => false) := by
  cases r <;> first | rfl | exact (n _ rfl).elim
theorem cmp_ok (hu : X.A.units + 64 < cLine) {o : COp} {W : Bool → Prop} (R : SR X.K EX H0 ρ σ Hf H) (ra : RepB X.K Hf H a x) (rb : RepB X.K Hf H b y) (w : cmpW o a b W) (k : ∀ c, W c → QV (.bl c) H) : mOp X (compareOp o.op) x y H QV := by
  unfold cmpW at w
  split at w
  · cases ra.int_inv; cases rb.int_inv
    exact mOp.of op_lt ⟨_, _, rfl, rfl, k _ w⟩
  · cases ra.int_inv; cases rb.int_inv
    exact mOp.of op_le ⟨_, _, rfl, rfl, k _ w⟩
  · cases ra.int_inv; cases rb.int_inv
    exact mOp.of op_gt ⟨_, _, rfl, rfl, k _ w⟩
  · cases ra.int_inv; cases rb.int_inv
    exact mOp.of op_ge ⟨_, _, rfl, rfl, k _ w⟩
  · cases ra.str_inv; cases rb.str_inv
    exact mOp.of op_lt_str ⟨_, _, rfl, rfl, k _ w⟩
  · cases ra.str_inv; cases rb.str_inv
    exact mOp.of op_le_str ⟨_, _, rfl, rfl, k _ w⟩
  · cases ra.str_inv; cases rb.str_inv
    exact mOp.of op_gt_str ⟨_, _, rfl, rfl, k _ w⟩
  · cases ra.str_inv; cases rb.str_inv
    exact mOp.of op_ge_str ⟨_, _, rfl, rfl, k _ w⟩
  · exact eq_ok hu R ra rb w k
  · exact ne_ok hu R ra rb w fun c q => k _ q
  · exact w.elim
  · exact w.elim
  · cases ra.non_inv; cases rb.non_inv
    exact mOp.of op_isN ⟨rfl, k _ w⟩
  · rename_i n1 n2
    cases rb.non_inv
    refine mOp.of op_isN ⟨rfl, ?_⟩
    have e := Rep.isn (ra.rep R.sub) fun φ z => n1 φ z
    rw [e]
    cases a <;> first | exact (n2 rfl).elim | exact k _ w
  · cases ra.non_inv; cases rb.non_inv
    exact mOp.of op_notN ⟨rfl, k _ w⟩
  · rename_i n1 n2
    cases rb.non_inv
    refine mOp.of op_notN ⟨rfl, ?_⟩
    have e := Rep.isn (ra.rep R.sub) fun φ z => n1 φ z
    rw [e]
    cases a <;> first | exact (n2 rfl).elim | exact k _ w
  · cases ra.str_inv; cases rb.str_inv
    exact mOp.of op_in_sign ⟨_, _, rfl, rfl, k _ w⟩
  · cases ra.str_inv; cases rb.str_inv
    exact mOp.of op_notIn_sign ⟨_, _, rfl, rfl, k _ w⟩
  · obtain ⟨q, ys, rfl, h2, r2⟩ := rb.lst_inv R.sub
    exact in_ok (neg := false) R ra (.inl h2) r2 w fun c q => by rw [if_neg Bool.false_ne_true]; exact k _ q
  · obtain ⟨q, ys, rfl, h2, _, r2⟩ := rb.tup_inv R.sub
    exact in_ok (neg := false) R ra (.inr h2) r2 w fun c q => by rw [if_neg Bool.false_ne_true]; exact k _ q
  · obtain ⟨q, ys, rfl, h2, r2⟩ := rb.lst_inv R.sub
    exact in_ok (neg := true) R ra (.inl h2) r2 w fun c q => by rw [if_pos rfl]; exact k _ q
  · obtain ⟨q, ys, rfl, h2, _, r2⟩ := rb.tup_inv R.sub
    exact in_ok (neg := true) R ra (.inr h2) r2 w fun c q => by rw [if_pos rfl]; exact k _ q
  · exact w.elim
theorem ix_ok (R : SR X.K EX H0 ρ σ Hf H) (ra : RepB X.K Hf H a x) (rb : RepB X.K Hf H b y) (w : ixW a b Q) (k : Kt X.K EX H0 ρ σ Hf H .sh Q QV) : mIx X x y H QV := by
  unfold ixW at w
  split at w
  · obtain ⟨p, xs, rfl, h1, _, r1⟩ := ra.tup_inv R.sub
    cases rb.int_inv
    obtain ⟨d, e, q⟩ := w
    obtain ⟨v, e2, r⟩ := r1.atI e
    exact mIx.of ix_tup ⟨_, _, _, _, rfl, rfl, h1, e2, k d v Hf H R (Same.refl _) (Same.refl _) r q⟩
  · obtain ⟨p, xs, rfl, h1, r1⟩ := ra.lst_inv R.sub
    cases rb.int_inv
    obtain ⟨d, e, q⟩ := w
    obtain ⟨v, e2, r⟩ := r1.atI e
    exact mIx.of ix_list ⟨_, _, _, _, rfl, rfl, h1, e2, k d v Hf H R (Same.refl _) (Same.refl _) r q⟩
  · cases ra.str_inv; cases rb.int_inv
    obtain ⟨hz, c, e, q⟩ := w
    exact mIx.of ix_str ⟨_, _, _, rfl, rfl, hz, e, k _ _ Hf H R (Same.refl _) (Same.refl _) (Rep.str _) q⟩
  · exact w.elim
theorem sl_ok (ek : EXok EX) {lo hi : Option Int} (R : SR X.K EX H0 ρ σ Hf H) (ra : RepB X.K Hf H a x) (w : slW a lo hi Q) (k : Kt X.K EX H0 ρ σ Hf H .fr Q QV) : mSl X x lo hi H QV := by
  unfold slW at w
  split at w
  · obtain ⟨p, xs, rfl, h1, g1, r1⟩ := ra.tup_inv R.sub
    refine mSl.of sl_tupA ⟨_, _, rfl, h1, fun e => ?_, fun _ p hp => k.tup R ek hp (r1.cutV lo hi) w⟩
    rw [← r1.length] at e
    rw [cut_whole e] at w
    exact k.rep R rfl (.tup g1 r1) w
  · obtain ⟨p, xs, rfl, h1, r1⟩ := ra.lst_inv R.sub
    exact mSl.of sl_list ⟨_, _, rfl, h1, fun p hp => k.lst R ek hp (r1.cutV lo hi) w⟩
  · cases ra.str_inv
    exact mSl.of sl_str ⟨_, rfl, w.1, k.str R w.2⟩
  · exact w.elim
theorem tru_ok' {W : Bool → Prop} {QB : Bool → Hp → Prop} (R : SR X.K EX H0 ρ σ Hf H) (ra : RepB X.K Hf H a x) (w : truW a W) (k : ∀ c, W c → QB c H) : ∃ c, TruV X.K x H c ∧ QB c H := by
  unfold truW at w
  split at w
  · cases ra.non_inv; exact ⟨_, rfl, k _ w⟩
  · cases ra.bl_inv; exact ⟨_, rfl, k _ w⟩
  · cases ra.int_inv; exact ⟨_, rfl, k _ w⟩
  · cases ra.str_inv; exact ⟨_, ⟨w.1, rfl⟩, k _ w.2⟩
  · obtain ⟨p, xs, rfl, h1, r1⟩ := ra.lst_inv R.sub
    refine ⟨_, .inl ⟨xs, h1, rfl⟩, ?_⟩
    have e := k _ w
    cases r1 <;> exact e
  · obtain ⟨p, xs, rfl, h1, _, r1⟩ := ra.tup_inv R.sub
    refine ⟨_, .inr (.inl ⟨xs, h1, rfl⟩), ?_⟩
    have e := k _ w
    cases r1 <;> exact e
  · exact w.elim
end
end DL
/-! DE: built-in calls, methods, what is walked -/
namespace DL
open PySem PySem.Spec PyProof.Rows L2
/-- the values of a row of arguments, each borrowed or not -/
inductive RepBs (K : PySem.W.Frag) (Hf H : Hp) : List D → List V → Prop
  | nil : RepBs K Hf H [] []
  | cons {d : D} {v : V} {l : List D} {xs : List V} : RepB K Hf H d v → RepBs K Hf H l xs → RepBs K Hf H (d :: l) (v :: xs)
theorem RepBs.mono {K : PySem.W.Frag} {Hf H Hf' H' : Hp} (s : Same Hf Hf') (t : Same H H') : ∀ {l : List D} {xs : List V}, RepBs K Hf H l xs → RepBs K Hf' H' l xs
  | _, _, .nil => .nil
  | _, _, .cons r q => .cons (r.mono s t) (RepBs.mono s t q)
theorem RepBs.of {K : PySem.W.Frag} {Hf H : Hp} : ∀ {l : List D} {xs : List V}, Reps K Hf l xs → RepBs K Hf H l xs
  | _, _, .nil => .nil
  | _, _, .cons r q => .cons (.sh r) (RepBs.of q)
theorem RepBs.length {K : PySem.W.Frag} {Hf H : Hp} : ∀ {l : List D} {xs : List V}, RepBs K Hf H l xs → l.length = xs.length
  | _, _, .nil => rfl
  | _, _, .cons _ q => congrArg (· + 1) (RepBs.length q)
def tyOk : List String := ["NoneType", "bool", "int", "str", "tuple", "list", "dict"]
def subAll : Bool := tyOk.all fun t => tyOk.all fun u => decide (kitB t u = some (subTy t u))
theorem subAll_ok : subAll = true := by decide +kernel
theorem kit_sub {K : PySem.W.Frag} {t u : String} (h1 : t ∈ tyOk) (h2 : u ∈ tyOk) : PySem.W.kitOne K (.type t) (.type u) = some (subTy t u) := by
  have h := List.all_eq_true.mp (List.all_eq_true.mp subAll_ok t h1) u h2
  exact kit_ty (of_decide_eq_true h)
theorem kit_any {K : PySem.W.Frag} {t : String} (h1 : t ∈ tyOk) : ∀ {ts : List String}, (∀ u ∈ ts, u ∈ tyOk) → PySem.W.kitAny K (.type t) (ts.map Value.type) = some (ts.any (subTy t))
  | [], _ => kitAny_nil
  | u :: r, h => by
    have a := kit_sub (K := K) h1 (h u List.mem_cons_self)
    have b := kit_any (K := K) h1 (ts := r) fun v hv => h v (List.mem_cons_of_mem _ hv)
    rw [List.map_cons, List.any_cons]
    exact kitAny_cons a (fun e => by rw [e]; exact b) fun e => by rw [e]; rfl
section
variable {K : PySem.W.Frag} {H : Hp} {d : D} {x : V}
theorem tyD_mem {t : String} (h : tyD d = some t) : t ∈ tyOk := by
  cases d <;> first | (cases h; decide) | cases h
theorem Rep.ty {t : String} (r : Rep K H d x) (h : tyD d = some t) : TyX K H x (.type t) := by
  cases r with
  | non => cases h; exact .base .non
  | bl b => cases h; exact .base (.bl b)
  | int i => cases h; exact .base (.int i)
  | str x => cases h; exact .base (.str x)
  | tup s _ =>
    cases h
    rcases s with (s | ⟨o, s⟩) | ⟨o, its, n, s, c, _⟩
    · exact .base (.tup s)
    · exact .fTuple s
    · exact .kTuple s c
  | lst s _ =>
    cases h
    rcases s with (s | ⟨o, s⟩) | ⟨o, its, n, s, c, _⟩
    · exact .base (.lst s)
    · exact .base (.frz s)
    · exact .kList s c
  | dct s _ =>
    cases h
    rcases s with s | ⟨o, s⟩
    · exact .base (.dK s)
    · exact .fDict s
  | opq _ _ => cases h
end
section
variable {X : Cx} {EX : EXT} {H0 : Ent} {ρ : DEnv} {σ : L2.St} {Hf H : Hp} {a b : D} {x y : V} {ds : List D} {vs : List V} {Q : D → Prop} {QV : VK}
theorem isT_ok {ts : List String} {t : String} (R : SR X.K EX H0 ρ σ Hf H) (ra : RepB X.K Hf H a x) (ht : tyD a = some t) (hts : ∀ u ∈ ts, u ∈ tyOk) : ∃ b, b = ts.any (subTy t) ∧ TyX X.K H x (.type t) ∧ PySem.W.kitAny X.K (.type t) (ts.map Value.type) = some b :=
  ⟨_, rfl, (ra.rep R.sub).ty ht, kit_any (tyD_mem ht) hts⟩
theorem one_inv (rs : RepBs X.K Hf H [a] vs) : ∃ v, vs = [v] ∧ RepB X.K Hf H a v := by
  cases rs with
  | cons r rs => cases rs; exact ⟨_, rfl, r⟩
theorem two_inv (rs : RepBs X.K Hf H [a, b] vs) : ∃ v u, vs = [v, u] ∧ RepB X.K Hf H a v ∧ RepB X.K Hf H b u := by
  cases rs with
  | cons r rs =>
    obtain ⟨u, rfl, q⟩ := one_inv rs
    exact ⟨_, _, rfl, r, q⟩
theorem len_ok (R : SR X.K EX H0 ρ σ Hf H) (rs : RepBs X.K Hf H ds vs) (w : lenW ds Q) (k : Kt X.K EX H0 ρ σ Hf H .fr Q QV) : mCa X (.builtin "len") vs H QV := by
  unfold lenW at w
  split at w
  · obtain ⟨v, rfl, r⟩ := one_inv rs
    cases r.str_inv
    exact mCa.of call_len ⟨_, _, rfl, ⟨w.1, rfl⟩, k.int R w.2⟩
  · obtain ⟨v, rfl, r⟩ := one_inv rs
    obtain ⟨p, xs, rfl, h1, _, r1⟩ := r.tup_inv R.sub
    exact mCa.of call_len ⟨_, _, rfl, .inr ⟨xs, h1, rfl⟩, by rw [← r1.length]; exact k.int R w⟩
  · obtain ⟨v, rfl, r⟩ := one_inv rs
    obtain ⟨p, xs, rfl, h1, r1⟩ := r.lst_inv R.sub
    exact mCa.of call_len ⟨_, _, rfl, .inl ⟨xs, h1, rfl⟩, by rw [← r1.length]; exact k.int R w⟩
  · exact w.elim
theorem int_ok (R : SR X.K EX H0 ρ σ Hf H) (rs : RepBs X.K Hf H ds vs) (w : intW ds Q) (k : Kt X.K EX H0 ρ σ Hf H .fr Q QV) : mCa X (.type "int") vs H QV := by
  unfold intW at w
  split at w
  · obtain ⟨v, rfl, r⟩ := one_inv rs
    cases r.int_inv
    exact mCa.of call_int1 (.inl ⟨_, rfl, k.int R w⟩)
  · obtain ⟨v, rfl, r⟩ := one_inv rs
    cases r.bl_inv
    exact mCa.of call_int1 (.inr ⟨_, rfl, k.int R w⟩)
  · exact w.elim
theorem RepK.keys {K : PySem.W.Frag} {H H' : Hp} : ∀ {l : List (Key × D)} {xs : List (Key × V)}, RepK K H l xs → Reps K H' (l.map fun kv => dK kv.1) (xs.map fun kv => kV kv.1)
  | _, _, .nil => .nil
  | (k, _) :: _, _, .cons _ t => .cons (by cases k <;> first | exact .int _ | exact .str _) (RepK.keys t)
theorem tuple_ok (hc : X.calm = true) (ek : EXok EX) (R : SR X.K EX H0 ρ σ Hf H) (rs : RepBs X.K Hf H ds vs) (w : tupleW ds Q) (k : Kt X.K EX H0 ρ σ Hf H .fr Q QV) : mCa X (.type "tuple") vs H QV := by
  unfold tupleW at w
  split at w
  · obtain ⟨v, rfl, r⟩ := one_inv rs
    obtain ⟨p, xs, rfl, h1, g1, r1⟩ := r.tup_inv R.sub
    exact mCa.of call_tuple_of ⟨_, xs, rfl, .inr ⟨h1, k.rep R rfl (.tup g1 r1) w⟩⟩
  · obtain ⟨v, rfl, r⟩ := one_inv rs
    obtain ⟨p, xs, rfl, h1, r1⟩ := r.lst_inv R.sub
    exact mCa.of call_tuple_of ⟨_, xs, rfl, .inl ⟨h1, fun l hl => k.tup R ek hl r1 w⟩⟩
  · obtain ⟨v, rfl, r⟩ := one_inv rs
    obtain ⟨p, xs, rfl, h1, r1⟩ := r.dct_inv R.sub
    exact mCa.of (call_tup_dK hc) ⟨_, xs, rfl, h1, fun l hl => k.tup R ek hl r1.keys w⟩
  · exact w.elim
theorem list_ok (ek : EXok EX) (R : SR X.K EX H0 ρ σ Hf H) (rs : RepBs X.K Hf H ds vs) (w : listW ds Q) (k : Kt X.K EX H0 ρ σ Hf H .fr Q QV) : mCa X (.type "list") vs H QV := by
  unfold listW at w
  split at w
  · obtain ⟨v, rfl, r⟩ := one_inv rs
    obtain ⟨p, xs, rfl, h1, g1, r1⟩ := r.tup_inv R.sub
    exact mCa.of call_list_of ⟨_, xs, rfl, .inr h1, fun l hl => k.lst R ek hl r1 w⟩
  · obtain ⟨v, rfl, r⟩ := one_inv rs
    obtain ⟨p, xs, rfl, h1, r1⟩ := r.lst_inv R.sub
    exact mCa.of call_list_of ⟨_, xs, rfl, .inl h1, fun l hl => k.lst R ek hl r1 w⟩
  · exact w.elim
theorem any_ok (hc : X.calm = true) (R : SR X.K EX H0 ρ σ Hf H) (rs : RepBs X.K Hf H ds vs) (w : anyW ds Q) (k : Kt X.K EX H0 ρ σ Hf H .fr Q QV) : mCa X (.builtin "any") vs H QV := by
  unfold anyW at w
  split at w
  · obtain ⟨bs, rfl, w⟩ := w
    obtain ⟨v, rfl, r⟩ := one_inv rs
    obtain ⟨p, xs, rfl, h1, r1⟩ := r.lst_inv R.sub
    rw [r1.bls] at h1
    exact mCa.of (cr_any hc) ⟨_, bs, rfl, h1, k.bl R w⟩
  · exact w.elim
theorem all_ok (hc : X.calm = true) (R : SR X.K EX H0 ρ σ Hf H) (rs : RepBs X.K Hf H ds vs) (w : allW ds Q) (k : Kt X.K EX H0 ρ σ Hf H .fr Q QV) : mCa X (.builtin "all") vs H QV := by
  unfold allW at w
  split at w
  · obtain ⟨bs, rfl, w⟩ := w
    obtain ⟨v, rfl, r⟩ := one_inv rs
    obtain ⟨p, xs, rfl, h1, r1⟩ := r.lst_inv R.sub
    rw [r1.bls] at h1
    exact mCa.of (cr_all hc) ⟨_, bs, rfl, h1, k.bl R w⟩
  · exact w.elim
theorem ord_ok (R : SR X.K EX H0 ρ σ Hf H) (rs : RepBs X.K Hf H ds vs) (w : ordW ds Q) (k : Kt X.K EX H0 ρ σ Hf H .fr Q QV) : mCa X (.builtin "ord") vs H QV := by
  unfold ordW at w
  split at w
  · obtain ⟨v, rfl, r⟩ := one_inv rs
    cases r.str_inv
    exact mCa.of call_ord ⟨_, rfl, w.1, k.int R w.2⟩
  · exact w.elim
theorem min2_ok (hc : X.calm = true) (R : SR X.K EX H0 ρ σ Hf H) (rs : RepBs X.K Hf H ds vs) (w : min2W ds Q) (k : Kt X.K EX H0 ρ σ Hf H .fr Q QV) : mCa X (.builtin "min") vs H QV := by
  unfold min2W at w
  split at w
  · obtain ⟨v, u, rfl, r, r'⟩ := two_inv rs
    cases r.int_inv; cases r'.int_inv
    exact mCa.of (call_min2 hc) ⟨_, _, rfl, k.int R w⟩
  · exact w.elim
theorem max2_ok (hc : X.calm = true) (R : SR X.K EX H0 ρ σ Hf H) (rs : RepBs X.K Hf H ds vs) (w : max2W ds Q) (k : Kt X.K EX H0 ρ σ Hf H .fr Q QV) : mCa X (.builtin "max") vs H QV := by
  unfold max2W at w
  split at w
  · obtain ⟨v, u, rfl, r, r'⟩ := two_inv rs
    cases r.int_inv; cases r'.int_inv
    exact mCa.of (call_max2 hc) ⟨_, _, rfl, k.int R w⟩
  · exact w.elim
theorem abs_ok (R : SR X.K EX H0 ρ σ Hf H) (rs : RepBs X.K Hf H ds vs) (w : absW ds Q) (k : Kt X.K EX H0 ρ σ Hf H .fr Q QV) : mCa X (.builtin "abs") vs H QV := by
  unfold absW at w
  split at w
  · obtain ⟨v, rfl, r⟩ := one_inv rs
    cases r.int_inv
    exact mCa.of call_abs ⟨_, rfl, k.int R w⟩
  · exact w.elim
theorem sum_ok (hc : X.calm = true) (R : SR X.K EX H0 ρ σ Hf H) (rs : RepBs X.K Hf H ds vs) (w : sumW ds Q) (k : Kt X.K EX H0 ρ σ Hf H .fr Q QV) : mCa X (.builtin "sum") vs H QV := by
  unfold sumW at w
  split at w
  · obtain ⟨ns, rfl, w⟩ := w
    obtain ⟨v, rfl, r⟩ := one_inv rs
    obtain ⟨p, xs, rfl, h1, r1⟩ := r.lst_inv R.sub
    rw [r1.ints] at h1
    exact mCa.of (cr_sum hc) ⟨_, ns, rfl, h1, k.int R w⟩
  · exact w.elim
theorem str_ok (R : SR X.K EX H0 ρ σ Hf H) (rs : RepBs X.K Hf H ds vs) (w : strW ds Q) (k : Kt X.K EX H0 ρ σ Hf H .fr Q QV) : mCa X (.type "str") vs H QV := by
  unfold strW at w
  split at w
  · obtain ⟨v, rfl, r⟩ := one_inv rs
    cases r.int_inv
    exact mCa.of call_str_int ⟨_, rfl, w.1, k.str R w.2⟩
  · exact w.elim
def Bi.val : Bi → Value
  | .len => .builtin "len" | .int => .type "int" | .tuple => .type "tuple" | .list => .type "list" | .any => .builtin "any" | .all => .builtin "all" | .ord => .builtin "ord"
  | .min2 => .builtin "min" | .max2 => .builtin "max" | .abs => .builtin "abs" | .sum => .builtin "sum" | .str => .type "str"
theorem bi_ok (ek : EXok EX) (hc : X.calm = true) {f : Bi} (R : SR X.K EX H0 ρ σ Hf H) (rs : RepBs X.K Hf H ds vs) (w : biW f ds Q) (k : Kt X.K EX H0 ρ σ Hf H .fr Q QV) : mCa X f.val vs H QV := by
  cases f with
  | len => exact len_ok R rs w k
  | int => exact int_ok R rs w k
  | tuple => exact tuple_ok hc ek R rs w k
  | list => exact list_ok ek R rs w k
  | any => exact any_ok hc R rs w k
  | all => exact all_ok hc R rs w k
  | ord => exact ord_ok R rs w k
  | min2 => exact min2_ok hc R rs w k
  | max2 => exact max2_ok hc R rs w k
  | abs => exact abs_ok R rs w k
  | sum => exact sum_ok hc R rs w k
  | str => exact str_ok R rs w k
def Me.id : Me → String
  | .starts => "str.startswith" | .starts2 => "str.startswith" | .join => "str.join" | .strip1 => "str.strip" | .split1 => "str.split"
theorem me_ok (ek : EXok EX) {m : Me} (R : SR X.K EX H0 ρ σ Hf H) (ra : RepB X.K Hf H a x) (rs : RepBs X.K Hf H ds vs) (w : meW m a ds Q) (k : Kt X.K EX H0 ρ σ Hf H .fr Q QV) : mMt X m.id x vs H QV := by
  unfold meW at w
  split at w
  · cases ra.str_inv
    obtain ⟨v, rfl, r⟩ := one_inv rs
    cases r.str_inv
    exact mMt.of mt_startswith ⟨_, _, rfl, rfl, k.bl R w⟩
  · cases ra.str_inv
    obtain ⟨v, u, rfl, r, r'⟩ := two_inv rs
    cases r.str_inv; cases r'.int_inv
    exact mMt.of mt_startswith3 ⟨_, _, _, rfl, rfl, k.bl R w⟩
  · cases ra.str_inv
    obtain ⟨v, rfl, r⟩ := one_inv rs
    obtain ⟨l, ys, e, rfl, hz, w⟩ := w
    rename_i d
    cases d with
    | lst l' =>
      cases e
      obtain ⟨p, xs, rfl, h1, r1⟩ := r.lst_inv R.sub
      rw [r1.strs] at h1
      exact mMt.of mt_join ⟨_, _, ys, rfl, rfl, .inl h1, hz, k.str R w⟩
    | tup l' =>
      cases e
      obtain ⟨p, xs, rfl, h1, _, r1⟩ := r.tup_inv R.sub
      rw [r1.strs] at h1
      exact mMt.of mt_join ⟨_, _, ys, rfl, rfl, .inr h1, hz, k.str R w⟩
    | _ => cases e
  · cases ra.str_inv
    obtain ⟨v, rfl, r⟩ := one_inv rs
    cases r.str_inv
    exact mMt.of mt_stripChars ⟨_, _, rfl, rfl, w.1, k.str R w.2⟩
  · cases ra.str_inv
    obtain ⟨v, rfl, r⟩ := one_inv rs
    cases r.str_inv
    exact mMt.of mt_split ⟨_, _, rfl, rfl, w.1, w.2.1, fun p hp => k.lst R ek hp Reps.of_strs w.2.2⟩
  · exact w.elim
theorem me_str {m : Me} (w : meW m a ds Q) : ∃ z, a = .str z := by
  unfold meW at w
  split at w <;> first | exact ⟨_, rfl⟩ | exact w.elim
end
end DL
/-! DF: what is walked -/
namespace DL
open PySem PySem.Spec PyProof.Rows L2

/-- a list or a tuple, read -/
def Sq (K : PySem.W.Frag) (k : Bool) (H : Hp) (a : Addr) (xs : List V) : Prop := if k = true then SqL K H a xs else SqT K H a xs
/-- the object of such a one, and its iterator -/
def Hs (k : Bool) (h : Heap) (a : Addr) (its : Array Value) : Prop := if k = true then h.IsList a its else h.IsTuple a its
def Hi (k : Bool) (h : Heap) (it a : Addr) (i : Nat) : Prop := if k = true then h.IsListIter it a i else h.IsTupleIter it a i
def Ho (k : Bool) (a : Addr) : Obj := if k = true then { cls := .type "list_iterator", data := .fields #[.ref a, .int 0 0] } else { cls := .type "tuple_iterator", data := .fields #[.ref a, .int 0 0] }
theorem Inv.src {X : Cx} {pins : List (Addr × Obj)} {σ : L2.St} {H : Hp} {s : Shared} (I : L2.Inv X pins σ H s) {k : Bool} {a : Addr} {xs : List V} (h : Sq X.K k H a xs) : ∃ its : List Value, Vals xs its ∧ Hs k s.heap a its.toArray := by
  cases k with
  | true =>
    obtain ⟨its, r, p, _⟩ := I.list (a := a) (xs := xs) h
    exact ⟨its, r, p.isList⟩
  | false =>
    obtain ⟨its, r, p, _⟩ := I.tuple (a := a) (xs := xs) h
    exact ⟨its, r, (show s.heap.IsTuple a its.toArray from p)⟩
theorem begins_k (k : Bool) (a : Addr) (its : Array Value) : Begins (.ref a) (Ho k a) fun h => Hs k h a its := by
  cases k with
  | true => exact begins_list a its
  | false => exact begins_tuple a its
theorem draws_k {prog : Program} {w : World} {A : Around} (hh : A.handled = none) (k : Bool) (it a : Addr) (hne : a ≠ it) (its : Array Value) :
    Draws prog w A it [it, a] its.size (fun i v => its[i]? = some v) (fun i h => Hi k h it a i ∧ Hs k h a its) := by
  cases k with
  | true => exact Draws.list hh it a hne its
  | false => exact Draws.tuple hh it a hne its
theorem Hi.at {k : Bool} {h h' : Heap} {it a : Addr} {i : Nat} (x : Hi k h it a i) (e : ∀ o, h.get? it = some o → h'.get? it = some o) : Hi k h' it a i := by
  cases k with
  | true => exact Heap.IsListIter.at (show h.IsListIter it a i from x) e
  | false => exact Heap.IsTupleIter.at (show h.IsTupleIter it a i from x) e
theorem Hi.obj {k : Bool} {h : Heap} {it a : Addr} {i : Nat} (x : Hi k h it a i) : ∃ o, h.get? it = some o ∧ ∀ v, o.data ≠ .cell v := by
  cases k with
  | true =>
    obtain ⟨o, ho, _, hd⟩ := (show h.IsListIter it a i from x)
    exact ⟨o, ho, fun v q => by rw [hd] at q; cases q⟩
  | false =>
    obtain ⟨o, ho, _, hd⟩ := (show h.IsTupleIter it a i from x)
    exact ⟨o, ho, fun v q => by rw [hd] at q; cases q⟩
theorem Hi.start {k : Bool} {h : Heap} {it a : Addr} (e : h.get? it = some (Ho k a)) : Hi k h it a 0 := by
  cases k with
  | true => exact ⟨_, e, rfl, rfl⟩
  | false => exact ⟨_, e, rfl, rfl⟩
theorem Hs.lt {k : Bool} {h : Heap} {a : Addr} {its : Array Value} (x : Hs k h a its) : a < h.objs.size := by
  cases k with
  | true => obtain ⟨o, e, _⟩ := (show h.IsList a its from x); exact Heap.lt_size e
  | false => obtain ⟨o, e, _⟩ := (show h.IsTuple a its from x); exact Heap.lt_size e

/-- enumerate(v), one argument: its two new cells -/
theorem meets_en {v : Value} {o : Obj} {H : Heap → Prop} (B : Begins v o H) :
    Meets (Builtin.«enumerate.__new__» ⟨[.type "enumerate", v], []⟩) (fun _ R s => H s.heap ∧
      R (.ok (.ret (.ref (s.heap.push o).objs.size))) { s with heap := (s.heap.push o).push { cls := .type "enumerate", data := .fields #[.none, .bool false, .ref s.heap.objs.size, rawInt 0, .none, .none] } }) :=
  .of_wp fun prog w A R s h => by
    obtain ⟨hp, g, d, tk, os⟩ := s
    obtain ⟨h1, h⟩ := h
    have hsub := sub_enumerate
    have qi : ∀ {A' : Around} {E : Value → Shared → Prop} {Q : Value → Shared → Prop}, Q (.ref hp.objs.size) ⟨hp.push o, g, d, tk, os⟩ → wpAny (model prog w) A' (pyIter v) Q E ⟨hp, g, d, tk, os⟩ :=
      fun q => B.iter prog w _ _ ⟨hp, g, d, tk, os⟩ _ h1 q
    wp_walk using qi
    refine wpAny_stack_any fun st => wpAny_pure ?_
    split
    · rename_i c _ _ _ _ _
      cases (c == Value.type "enumerate") <;> (wp_walk using qi; exact ⟨_, rfl, h⟩)
    · wp_walk using qi
      exact ⟨_, rfl, h⟩
theorem call_en {prog : Program} {w : World} {A : Around} {E : Value → Shared → Prop} {s : Shared} {v : Value} {o : Obj} {H : Heap → Prop} {Q : Value → Shared → Prop} (B : Begins v o H) (h1 : H s.heap)
    (h : ∀ h', IsEnum h' (s.heap.objs.size + 1) s.heap.objs.size 0 .none → h'.get? s.heap.objs.size = some o → (∀ b u, s.heap.get? b = some u → h'.get? b = some u) → Q (.ref (s.heap.objs.size + 1)) { s with heap := h' }) :
    wpAny (model prog w) A (call (.type "enumerate") [v]) Q E s := by
  have z : (s.heap.push o).objs.size = s.heap.objs.size + 1 := Heap.size_push ..
  refine callType_new F.called_enumerate (by decide) (F.typeCall_enumerate_1 _) (F.newCall_enumerate_1 _) (fun obj => F.args_object_init_2 obj _) F.entry_enumerate_new (meets_en B) ⟨h1, ?_⟩
  have he := Heap.get?_push_size (s.heap.push o) (o := { cls := .type "enumerate", data := .fields #[.none, .bool false, .ref s.heap.objs.size, rawInt 0, .none, .none] }) rfl
  show _ ∧ _
  rw [z] at he ⊢
  exact ⟨⟨_, he, rfl⟩, h _ he (Heap.get?_push_of_some _ (Heap.get?_push_size _ B.free)) fun b u q => Heap.get?_push_of_some _ (Heap.get?_push_of_some _ q)⟩

/-- pairs: the k-th of xs with f -/
def Jp (G : Hp → Prop) (n : Nat) (f : Nat → V → V → Prop) : It :=
  ⟨fun i H => G H ∧ i < n, fun i H v H' => ∃ T x y, v = .ref T ∧ H T = none ∧ H' = upd H T (.tup [x, y]) ∧ f i x y, fun i H => G H ∧ i = n⟩
/-- a walk of pairs from the library's walk of new tuples -/
theorem turn_pairs {P : Program} {w : World} {K : PySem.W.Frag} {elts : List Expr} {kk : Nat} {tpos : Pos} {I : Addr} {wr : List Addr} {n : Nat} {G : Hp → Prop} {f : Nat → V → V → Prop} {tn : Nat → Heap → Prop} (hI : I ∈ wr)
    (obj : ∀ i h, tn i h → ∀ b ∈ wr, ∃ o, h.get? b = some o ∧ ∀ v, o.data ≠ .cell v)
    (keep : ∀ i h h', tn i h → (∀ b ∈ wr, ∀ o, h.get? b = some o → h'.get? b = some o) → tn i h')
    (src : ∀ (X : Cx) (pins : List (Addr × Obj)) (σ : L2.St) (H : Hp) (s : Shared), X.prog = P → X.w = w → X.K = K → X.calm = true → Inv X pins σ H s → G H →
      ∃ (fp : List Addr) (Y : Nat → Heap → Value → Heap → Prop) (St : Nat → Heap → Prop), GoesN P w X.A (.Tuple elts kk tpos) I fp wr n Y St ∧ (∀ i, tn i s.heap → St i s.heap) ∧ (∀ i h, St i h → tn i h) ∧
        ∀ i h v h', Y i h v h' → ∃ (T : Addr) (x y : V) (u1 u2 : Value), v = .ref T ∧ h.objs.size ≤ T ∧ h'.IsTuple T #[u1, u2] ∧ RelV x u1 ∧ RelV y u2 ∧ f i x y)
    (self : ∀ (A : Around) (i : Nat) (s : Shared) (Q : Value → Shared → Prop) (E : Value → Shared → Prop), tn i s.heap → Q (.ref I) s → wpAny (model P w) A (pyIter (.ref I)) Q E s) :
    Turn P w K (.Tuple elts kk tpos) (Jp G n f) wr I tn where
  mem := hI
  obj := obj
  keep := keep
  item := by
    intro X hP hw hK hc i pins s σ H E I0 hf st hg
    obtain ⟨fp, Y, St, W, h1, h2, h3⟩ := src X pins σ H s hP hw hK hc I0 hg.1
    have live : ∀ b ∈ wr, b < s.heap.objs.size := fun b hb => let ⟨o, e, _⟩ := obj i _ st b hb; Heap.lt_size e
    refine wpAny_mono (W.goes i s (fun v s2 => ∃ x H', Inv X pins σ H' s2 ∧ RelV x v ∧ (Jp G n f).yld i H x H' ∧ tn (i + 1) s2.heap ∧ ∀ b ∈ wr, H' b = none) E hg.2 (h1 i st) fun v h' tk y st' kp _ => ?_) (fun r s1 ⟨v, e, q⟩ => ⟨v, e, q⟩) fun _ _ z => z
    obtain ⟨T, x, y', u1, u2, rfl, hT, ht, r1, r2, hy⟩ := h3 i _ _ _ y
    have tu : ∃ o, h'.get? T = some o ∧ o.cls = .type "tuple" ∧ ∃ n, o.data = .seq #[u1, u2] n := ht
    have new : ObjOk X.prog X.w (upd H T (.tup [x, y'])) h' T (.tup [x, y']) := ⟨by show 2 ≤ sizeLine; decide, [u1, u2], .cons r1 (.cons r2 .nil), tu⟩
    have J : Inv X pins σ (upd H T (.tup [x, y'])) { s with heap := h', toks := tk } := I0.turnedNew (ch := wr) (fun b o hb e => kp b o hb e) hf hT new
    refine ⟨.ref T, _, J, rfl, ⟨T, x, y', rfl, I0.hok.fresh hT, rfl, hy⟩, h2 _ _ st', fun b hb => ?_⟩
    rw [upd_ne (Nat.ne_of_lt (Nat.lt_of_lt_of_le (live b hb) hT))]
    exact (hf b hb).1
  done := by
    intro X hP hw hK hc i pins s σ H E I0 hf st hg
    obtain ⟨hg, rfl⟩ := hg
    obtain ⟨fp, Y, St, W, h1, h2, h3⟩ := src X pins σ H s hP hw hK hc I0 hg
    exact W.stops s (fun s1 => Inv X pins σ H s1) E (h1 _ st) fun h' tk kp _ => I0.turnedL (ch := wr) (fun b o hb e => kp b o hb e) hf
  self := self

section
variable {X : Cx} {tg : Expr}
/-- list or tuple -/
def iSeq (K : PySem.W.Frag) (te : TE) : TI := fun σ H R => te σ H fun x H1 => ∃ (k : Bool) (a : Addr) (xs : List V), x = .ref a ∧ Sq K k H1 a xs ∧ R (if k = true then Itl K a else Itt K a) H1
theorem pi_seq {e : Expr} {te : TE} (he : PE X e te) : PI X tg e (iSeq X.K te) := by
  refine ⟨fun pins s σ H R I h => thn (he.run pins s σ H _ I h) fun u s1 ⟨x, H1, I1, r1, k, a, xs, ex, hq, q⟩ => ?_⟩
  subst ex
  cases r1
  obtain ⟨its, rv, hs⟩ := Inv.src I1 hq
  have fr : ∀ b ∈ [s1.heap.objs.size], FpOk X pins H1 b := fun b hb => by
    cases (List.mem_singleton.mp hb)
    exact I1.fpOk (Nat.le_refl _) (I1.hok.fresh (Nat.le_refl _))
  have J : ∀ o : Obj, Inv X pins σ H1 { s1 with heap := s1.heap.push o } := fun o => I1.kept (t' := s1.toks) fun b o' e => Heap.get?_push_of_some _ e
  cases k with
  | true =>
    refine wpAny_pyIter_list (show s1.heap.IsList a its.toArray from hs) ?_
    exact ⟨s1.heap.objs.size, [s1.heap.objs.size], _, _, H1, rfl, J _, turn_list a _, ⟨_, Heap.get?_push_size _ rfl, rfl, rfl⟩, fr, q⟩
  | false =>
    refine wpAny_pyIter_tuple (show s1.heap.IsTuple a its.toArray from hs) ?_
    exact ⟨s1.heap.objs.size, [s1.heap.objs.size], _, _, H1, rfl, J _, turn_tuple a _, ⟨_, Heap.get?_push_size _ rfl, rfl, rfl⟩, fr, q⟩
/-- enumerate(v), v a list or a tuple -/
abbrev Jen (K : PySem.W.Frag) (k : Bool) (a : Addr) (xs : List V) : It := Jp (fun H => Sq K k H a xs) xs.length (fun i x y => x = .int (i : Nat) ∧ xs[i]? = some y)
def iEn (K : PySem.W.Frag) (ta : TA) : TI := fun σ H R => ta σ H fun vs H1 => ∃ (k : Bool) (a : Addr) (xs : List V), vs = [.ref a] ∧ Sq K k H1 a xs ∧ R (Jen K k a xs) H1
theorem turn_en {P : Program} {w : World} {K : PySem.W.Frag} {elts : List Expr} {kk : Nat} {tpos : Pos} (k : Bool) (a e it : Addr) (xs : List V) (hne : e ≠ it) (ha : a ≠ it) (hae : a ≠ e) :
    Turn P w K (.Tuple elts kk tpos) (Jen K k a xs) [e, it] e (fun i h => (∃ old, IsEnum h e it (0 + ((i : Nat) : Int)) old) ∧ Hi k h it a i) := by
  refine turn_pairs (by simp) (fun i h st b hb => ?_) (fun i h h' st kp => ?_) (fun X pins σ H s hP hw hK hc I hq => ?_) (fun A i s Q E st h => let ⟨⟨_, he⟩, _⟩ := st; wpAny_pyIter_enum he h)
  · obtain ⟨⟨old, he⟩, hi⟩ := st
    have z : b = e ∨ b = it := by simpa using hb
    rcases z with rfl | rfl
    · exact ⟨_, he, fun v q => nomatch q⟩
    · exact hi.obj
  · obtain ⟨⟨old, he⟩, hi⟩ := st
    exact ⟨⟨old, kp e (by simp) _ he⟩, hi.at fun o q => kp it (by simp) o q⟩
  · subst hP hw hK
    obtain ⟨its, rv, hs⟩ := Inv.src I hq
    have hl : its.toArray.size = xs.length := by rw [List.size_toArray]; exact rv.length.symm
    have hh : X.A.in1.handled = none := I.ok.hd hc
    have D := draws_k (prog := X.prog) (w := X.w) hh k it a ha its.toArray
    have W := GoesN.enumFrom (elts := elts) (x1 := kk) (pos := tpos) 0 D e hne (by simp [hne, Ne.symm hae]) (by simp)
    rw [hl] at W
    refine ⟨_, _, _, W, fun i st => ⟨st.1, st.2, hs⟩, fun i h st => ⟨st.1, st.2.1⟩, fun i h v h' y => ?_⟩
    obtain ⟨T, t, x, ev, hT, hx, ht⟩ := y
    have hx' : its[i]? = some x := by simpa using hx
    have hi : i < xs.length := by rw [rv.length]; exact (List.getElem?_eq_some_iff.mp hx').1
    obtain ⟨u, hu, ru⟩ := rv.get (i := i) (x := xs[i]) (by simp [hi])
    rw [hx'] at hu
    cases hu
    refine ⟨T, .int (i : Nat), xs[i], _, _, ev, hT, ht, ⟨t, by rw [Int.zero_add]⟩, ru, rfl, by simp [hi]⟩
theorem pi_en {elts : List Expr} {kk : Nat} {tpos p pos : Pos} {e : Expr} {ta : TA} (hg : Gl X "enumerate") (hm : X.mg "enumerate" = none) (ha : PA X [e] ta) (hs : starEach [e] X.env = [(false, eval e X.env)]) :
    PI X (.Tuple elts kk tpos) (.Call (.Name "enumerate" p) [e] [] pos) (iEn X.K ta) := by
  refine ⟨fun pins s σ H R I h => Call_ (ld_blt I hg hm boot_enumerate (PyProof.Rows.callWith_type1 (thn (ha.run pos pins s σ H _ I h) fun us s1 hh => ?_) hs rfl))⟩
  obtain ⟨vs, H1, I1, r1, k, a, xs, ex, hq, q⟩ := hh
  subst ex
  obtain ⟨u, rfl, ru⟩ := vals1 r1
  cases ru
  obtain ⟨its, rv, hs1⟩ := Inv.src I1 hq
  have hlt := hs1.lt
  refine call_en (begins_k k a its.toArray) hs1 fun h' he ho kp => wpAny_pyIter_enum he ?_
  have fr : ∀ b ∈ [s1.heap.objs.size + 1, s1.heap.objs.size], FpOk X pins H1 b := fun b hb => by
    have z : b = s1.heap.objs.size + 1 ∨ b = s1.heap.objs.size := by simpa using hb
    have hle : s1.heap.objs.size ≤ b := by
      rcases z with z | z
      · rw [z]; exact Nat.le_succ _
      · rw [z]; exact Nat.le_refl _
    exact I1.fpOk hle (I1.hok.fresh hle)
  exact ⟨s1.heap.objs.size + 1, [s1.heap.objs.size + 1, s1.heap.objs.size], _, _, H1, rfl, I1.kept (t' := s1.toks) kp, turn_en k a (s1.heap.objs.size + 1) s1.heap.objs.size xs (Nat.succ_ne_self _) (Nat.ne_of_lt hlt) (Nat.ne_of_lt (Nat.lt_succ_of_lt hlt)),
    ⟨⟨_, by rw [Int.zero_add]; exact he⟩, Hi.start ho⟩, fr, q⟩
end
end DL
/-! DG: promises by data, the context, walks by data -/
namespace DL
open PySem PySem.Spec PyProof.Rows L2

/-- the fields of an exception -/
inductive RepX (K : PySem.W.Frag) (H : Hp) : List (Str × D) → List (Str × V) → Prop
  | nil : RepX K H [] []
  | cons {x : Str} {d : D} {v : V} {l : List (Str × D)} {xs : List (Str × V)} : Rep K H d v → RepX K H l xs → RepX K H ((x, d) :: l) ((x, v) :: xs)
theorem RepX.same {K : PySem.W.Frag} {H H' : Hp} (e : Same H H') : ∀ {l : List (Str × D)} {xs : List (Str × V)}, RepX K H l xs → RepX K H' l xs
  | _, _, .nil => .nil
  | _, _, .cons r t => .cons (r.same e) (RepX.same e t)
/-- the promise sp (by data) of a def, by values and heap; Hf: the part of the heap that is never written again -/
def low (K : PySem.W.Frag) (xa : Nat → Addr) (sp : FSp) : Sp := fun vs H QV E => ∃ (ds : List D) (QD : D → Prop) (QE : DX → Prop) (Hf : Hp), Same Hf H ∧ Reps K Hf ds vs ∧ sp ds QD QE ∧
  (∀ d v Hf' H', Same H H' → Same Hf Hf' → Same Hf' H' → (∀ a : Addr, H a ≠ none → Hf a = none → Hf' a = none) → Rep K Hf' d v → QD d → QV v H') ∧
  (∀ c l dd xs Hf' H', Same H H' → Same Hf Hf' → Same Hf' H' → (∀ a : Addr, H a ≠ none → Hf a = none → Hf' a = none) → H dd = none → Hf' dd = some (.xd xs) → RepX K Hf' l xs → QE (c, l) → E (.ref (xa c)) (some dd) H')
/-- what is wished of an exception at the slots -/
def lowW (K : PySem.W.Frag) (EX : EXT) (H0 : Ent) (xa : Nat → Addr) (ED : DX → DEnv → Prop) : WX := fun cls d σ H =>
  ∃ (c : Nat) (l : List (Str × D)) (dd : Addr) (xs : List (Str × V)) (ρ : DEnv) (Hf : Hp), cls = .ref (xa c) ∧ d = some dd ∧ SR K EX H0 ρ σ Hf H ∧ H0.h dd = none ∧ Hf dd = some (.xd xs) ∧ RepX K Hf l xs ∧ ED (c, l) ρ

def bltNames : List Str := ["len", "int", "tuple", "list", "isinstance", "any", "all", "ord", "min", "max", "abs", "sum", "range", "enumerate", "zip", "str", "bool", "dict", "set", "sorted", "reversed", "repr"]
def OpenO : HO → Prop
  | .lst _ => True
  | .dK _ => True
  | _ => False
/-- H without a -/
def less (H : Hp) (a : Addr) : Hp := fun b => if b = a then none else H b
theorem less_same {H : Hp} {a : Addr} : less H a a = none := if_pos rfl
theorem less_ne {H : Hp} {a b : Addr} (h : b ≠ a) : less H a b = H b := if_neg h
theorem less_sub {H : Hp} {a : Addr} : Same (less H a) H := fun b u q => by
  by_cases h : b = a
  · subst h; rw [less_same] at q; cases q
  · rw [less_ne h] at q; exact q
/-- a list or dict of D against the object -/
inductive RepO (K : PySem.W.Frag) (H : Hp) : D → HO → Prop
  | lst {l : List D} {xs : List V} : Reps K H l xs → RepO K H (.lst l) (.lst xs)
  | dct {l : List (Key × D)} {xs : List (Key × V)} : RepK K H l xs → RepO K H (.dct l) (.dK xs)
theorem RepO.same {K : PySem.W.Frag} {H H' : Hp} (e : Same H H') {d : D} {o : HO} (r : RepO K H d o) : RepO K H' d o := by
  cases r with
  | lst r => exact .lst (r.same e)
  | dct r => exact .dct (r.same e)
theorem RepO.op {K : PySem.W.Frag} {H : Hp} {d : D} {o : HO} (r : RepO K H d o) : OpenO o := by
  cases r <;> trivial
theorem slO_own {K : PySem.W.Frag} {H : Hp} {d : D} {o : HO} {p : Option Addr} (r : RepO K H d o) : (slO p d).isOwn = true := by
  cases r <;> rfl
/-- the promise of a def whose first argument is such a one, and may be changed -/
def lowO (K : PySem.W.Frag) (sp : OSp) : Sp := fun vs H Q E => ∃ (a : Addr) (o : HO) (d0 : D) (ds : List D) (vs' : List V) (QD : D → D → Prop) (Hf : Hp), vs = .ref a :: vs' ∧ Same Hf H ∧ Hf a = none ∧ H a = some o ∧ RepO K Hf d0 o ∧ Reps K Hf ds vs' ∧ sp d0 ds QD ∧
  ∀ d v d' o' Hf' H', Same (less H a) H' → Same Hf Hf' → Same Hf' H' → (∀ b : Addr, b ≠ a → H b ≠ none → Hf b = none → Hf' b = none) → Hf' a = none → H' a = some o' → RepO K Hf' d' o' → Rep K Hf' d v → QD d d' → Q v H'
/-- .. one whose first argument is open -/
def FDO (X : Cx) (Γ : Gm) (C : Cn) (f : Nat) : Prop :=
  ∃ (fa : Addr) (fd : FuncData) (ps : List Str), X.mg (C.nm f) = some (.ref fa) ∧ PySem.W.keepIn X.K (.ref fa) = true ∧ Binds X.K fd ps [] ∧ FnOk X.prog X.w X.K X.mg X.base (L2.CX X.prog X.w) (C.lv f) fa fd ps (lowO X.K (Γ.o f))
/-- a def of the program keeps its promise -/
def FD (X : Cx) (xa : Nat → Addr) (Γ : Gm) (C : Cn) (f : Nat) : Prop :=
  ∃ (fa : Addr) (fd : FuncData) (ps : List Str), X.mg (C.nm f) = some (.ref fa) ∧ PySem.W.keepIn X.K (.ref fa) = true ∧ Binds X.K fd ps [] ∧ FnOk X.prog X.w X.K X.mg X.base (L2.CX X.prog X.w) (C.lv f) fa fd ps (low X.K xa (Γ f))
/-- what the written part says of an exception class: what makes it, what its fields and isinstance ask -/
structure ExK (K : PySem.W.Frag) (xa : Nat → Addr) (c : Nat) (fs : List Str) : Prop where
  oex : OexC K (xa c)
  nf : ∀ f ∈ fs, PySem.W.findIn K (.ref (xa c)) f = some none
  xf : XfC K (xa c)
  ha : PySem.W.findIn K (.ref (xa c)) "__class__" = some (some (.builtin "object.__class__"))
  hn : PySem.W.specialIn K (.builtin "object.__class__") "__get__" = some (some (.builtin "getset_descriptor.__get__"))
  ht : PySem.W.takesIn K (.builtin "object.__class__") = some true
  hm : PySem.W.mroIn K (xa c) (.type "object") = some true
/-- what __init__ of such a class is called with and leaves: fs the fields, one or two -/
def tIni (K : PySem.W.Frag) (fs : List Str) : Sp := fun vs H Q _ => ∃ (a C : Addr) (us : List V), vs = .ref a :: us ∧ us.length = fs.length ∧ H a = some (exo a C none) ∧ OexC K C ∧ (∀ f ∈ fs, PySem.W.findIn K (.ref C) f = some none) ∧
  ∀ (d : Addr) (H2 : Hp), H d = none → d ≠ a → H2 a = some (exo a C (some d)) → H2 d = some (exd d (fs.zip us).reverse) → (∀ b, b ≠ a → b ≠ d → H2 b = H b) → Q .non H2
/-- .. of a class that is raised: its name, its __init__ -/
def ExRG (P : Program) (w : World) (K : PySem.W.Frag) (mg : Str → Option Value) (base : Heap) (xa : Nat → Addr) (Γ : Gm) (c : Nat) (x : Str) : Prop :=
  ∃ (fs : List Str) (fI : Addr) (fd : FuncData) (ps : List Str), Γ.cls c = some fs ∧ fs.length ≤ 100 ∧ mg x = some (.ref (xa c)) ∧ PySem.W.findIn K (.ref (xa c)) "__init__" = some (some (.ref fI)) ∧ PySem.W.typeIn K (.ref fI) = some (.type "function") ∧ Binds K fd ps [] ∧
    FnOk P w K mg base (L2.CX P w) 1 fI fd ps (tIni K fs)
abbrev ExR (X : Cx) (xa : Nat → Addr) (Γ : Gm) (c : Nat) (x : Str) : Prop := ExRG X.prog X.w X.K X.mg X.base xa Γ c x
/-- .. of a class by its name against class c -/
def ExNG (K : PySem.W.Frag) (mg : Str → Option Value) (xa : Nat → Addr) (c : Nat) (x : Str) (b : Bool) : Prop :=
  ∃ (v : V) (u : Value), (mg x = some u ∨ (mg x = none ∧ bootBuiltins x = some u ∧ x ≠ "__name__")) ∧ RelV v u ∧ (∀ w, RelV v w → w = u) ∧ PySem.W.kitOne K (.ref (xa c)) u = some b ∧ PySem.W.exmOne K (.ref (xa c)) u = some b
abbrev ExN (X : Cx) (xa : Nat → Addr) (c : Nat) (x : Str) (b : Bool) : Prop := ExNG X.K X.mg xa c x b
/-- the context is as the check takes it -/
structure Cok (X : Cx) (xa : Nat → Addr) (Γ : Gm) (C : Cn) (sc : Scope) : Prop where
  N : X.N = C.N
  nd : C.N.Nodup
  scp : X.env.scope = sc
  calm : C.calm = true → X.calm = true
  room : C.calm = true → Room C.k X.A
  un : X.A.units + 64 < cLine
  fns : ∀ f ∈ C.dep, FD X xa Γ C f
  opn : ∀ f ∈ C.depO, FDO X Γ C f
  gi : ∀ p ∈ C.gi, ∃ t, X.mg p.1 = some (.int p.2 t)
  gs : ∀ p ∈ C.gs, ∃ t, X.mg p.1 = some (.str p.2 t)
  ex : ∀ p ∈ C.ex, ExR X xa Γ p.1 p.2
  hx : ∀ x ∈ C.hx, ∃ u, X.mg x = some u
  sub : ∀ c x b, Γ.sub c x = some b → ExN X xa c x b
  cls : ∀ c fs, Γ.cls c = some fs → ExK X.K xa c fs
  blt : ∀ x ∈ bltNames, X.mg x = none
theorem Cok.hu {X : Cx} {xa : Nat → Addr} {Γ : Gm} {C : Cn} {sc : Scope} (c : Cok X xa Γ C sc) : X.A.units + 64 < cLine := c.un

/-- a walk gives just these data -/
structure ItD (K : PySem.W.Frag) (EX : EXT) (b : Bool) (Hf0 H1 : Hp) (J : It) (items : List D) : Prop where
  go : ∀ i Hf H, Same Hf0 Hf → Same Hf H → (b = true → Same H1 H) → i < items.length → J.go i H
  stop : ∀ Hf H, Same Hf0 Hf → Same Hf H → (b = true → Same H1 H) → J.stop items.length H
  yld : ∀ (H0 : Ent) i d H x H' Hf ρ σ, SR K EX H0 ρ σ Hf H → Same Hf0 Hf → (b = true → Same H1 H) → items[i]? = some d → J.yld i H x H' → ∃ Hf', SR K EX H0 ρ σ Hf' H' ∧ Same Hf Hf' ∧ Same H H' ∧ Rep K Hf' d x
section
variable {K : PySem.W.Frag} {EX : EXT} {Hf0 H1 : Hp} {x y : V} {d e : D}
/-- a borrowed value, told by its list or tuple -/
theorem seq_inv {l : List D} (r : RepB K Hf0 H1 d x) (s : Same Hf0 H1) (h : strsD d = some l) :
    ∃ (k b : Bool) (a : Addr) (xs : List V), x = .ref a ∧ Sq K k H1 a xs ∧ Reps K Hf0 l xs ∧ (b = true ∨ Sq K k Hf0 a xs) ∧ (b = false → Sq K k Hf0 a xs) := by
  cases d with
  | tup l' =>
    cases h
    obtain ⟨a, xs, rfl, h1, h2, r1⟩ := r.tup_inv s
    exact ⟨false, false, a, xs, rfl, h1, r1, .inr h2, fun _ => h2⟩
  | lst l' =>
    cases h
    obtain ⟨a, xs, rfl, h1, r1⟩ := r.lst_inv s
    exact ⟨true, true, a, xs, rfl, h1, r1, .inl rfl, fun z => by cases z⟩
  | _ => cases h
theorem seq_sh {l : List D} (r : Rep K Hf0 d x) (h : strsD d = some l) : ∃ (k : Bool) (a : Addr) (xs : List V), x = .ref a ∧ Sq K k Hf0 a xs ∧ Reps K Hf0 l xs := by
  cases d with
  | tup l' =>
    cases h
    cases r with
    | tup h r => exact ⟨false, _, _, rfl, h, r⟩
  | lst l' =>
    cases h
    cases r with
    | lst h r => exact ⟨true, _, _, rfl, h, r⟩
  | _ => cases h
theorem Sq.same {k : Bool} {H H' : Hp} {a : Addr} {xs : List V} (h : Sq K k H a xs) (e : Same H H') : Sq K k H' a xs := by
  cases k with
  | true => exact e.seq (show SqL K H a xs from h)
  | false => exact (Sim.of e).seqT (show SqT K H a xs from h)
/-- where the source stands: frozen, or as at the start -/
theorem Sq.keep {k b : Bool} {a : Addr} {xs : List V} (h1 : Sq K k H1 a xs) (h0 : b = false → Sq K k Hf0 a xs) {Hf H : Hp} (s : Same Hf0 Hf) (t : Same Hf H) (u : b = true → Same H1 H) : Sq K k H a xs := by
  cases b with
  | true => exact h1.same (u rfl)
  | false => exact ((h0 rfl).same s).same t
theorem itD_seq {k b : Bool} {a : Addr} {xs : List V} {l : List D} (h1 : Sq K k H1 a xs) (h0 : b = false → Sq K k Hf0 a xs) (r : Reps K Hf0 l xs) : ItD K EX b Hf0 H1 (if k = true then Itl K a else Itt K a) l where
  go := fun i Hf H s t u hi => by
    have q := h1.keep h0 s t u
    have hl : i < xs.length := by rw [← r.length]; exact hi
    cases k with
    | true => exact ⟨xs, xs[i], q, by simp [hl]⟩
    | false => exact ⟨xs, xs[i], q, by simp [hl]⟩
  stop := fun Hf H s t u => by
    have q := h1.keep h0 s t u
    cases k with
    | true => exact ⟨xs, q, by rw [r.length]; exact Nat.le_refl _⟩
    | false => exact ⟨xs, q, by rw [r.length]; exact Nat.le_refl _⟩
  yld := fun H0 i d H x H' Hf ρ σ R s u hd y => by
    have q := h1.keep h0 s R.sub u
    obtain ⟨v, hv, rv⟩ := r.get hd
    have z : H' = H ∧ xs[i]? = some x := by
      cases k with
      | true => exact ⟨y.1, y.2 xs q⟩
      | false => exact ⟨y.1, y.2 xs q⟩
    obtain ⟨rfl, hx⟩ := z
    rw [hv] at hx
    cases hx
    exact ⟨Hf, R, Same.refl _, Same.refl _, rv.same s⟩
theorem itD_str (z : Str) : ItD K EX false Hf0 H1 (Its z) (z.cps.toList.map fun c => .str ⟨#[c]⟩) where
  go := fun i Hf H _ _ _ hi => by
    rw [List.length_map, Array.length_toList] at hi
    exact hi
  stop := fun Hf H _ _ _ => by
    show z.cps.size ≤ _
    rw [List.length_map, Array.length_toList]
    exact Nat.le_refl _
  yld := fun H0 i d H x H' Hf ρ σ R _ _ hd y => by
    obtain ⟨rfl, c, hc, rfl⟩ := y
    rw [List.getElem?_map, Array.getElem?_toList, hc] at hd
    cases hd
    exact ⟨Hf, R, Same.refl _, Same.refl _, .str _⟩
theorem itD_rng (lo : Int) (n : Nat) : ItD K EX false Hf0 H1 (Itr lo n) ((List.range n).map fun (i : Nat) => .int (lo + (i : Int))) where
  go := fun i Hf H _ _ _ hi => by
    rw [List.length_map, List.length_range] at hi
    exact hi
  stop := fun Hf H _ _ _ => by
    show n ≤ _
    rw [List.length_map, List.length_range]
    exact Nat.le_refl _
  yld := fun H0 i d H x H' Hf ρ σ R _ _ hd y => by
    obtain ⟨rfl, rfl⟩ := y
    rw [List.getElem?_map] at hd
    have hi : i < n := by
      cases e : (List.range n)[i]? with
      | none => rw [e] at hd; cases hd
      | some j =>
        have := (List.getElem?_eq_some_iff.mp e).1
        rwa [List.length_range] at this
    rw [List.getElem?_range hi] at hd
    cases hd
    exact ⟨Hf, R, Same.refl _, Same.refl _, .int _⟩
theorem enD_length : ∀ (l : List D) (n : Nat), (enD n l).length = l.length
  | [], _ => rfl
  | _ :: l, n => congrArg (· + 1) (enD_length l (n + 1))
theorem enD_get : ∀ (l : List D) (n i : Nat), (enD n l)[i]? = l[i]?.map fun d => .tup [.int ((n + i : Nat) : Int), d]
  | [], _, i => by simp [enD]
  | d :: l, n, 0 => by simp [enD]
  | d :: l, n, i + 1 => by
    have h := enD_get l (n + 1) i
    simp only [enD, List.getElem?_cons_succ]
    rw [h, show n + 1 + i = n + (i + 1) by omega]
theorem itD_pairs {b : Bool} {G : Hp → Prop} {n : Nat} {f : Nat → V → V → Prop} {items : List D} (ek : EXok EX) (hn : items.length = n) (g : ∀ Hf H, Same Hf0 Hf → Same Hf H → (b = true → Same H1 H) → G H)
    (h : ∀ i x y d, f i x y → items[i]? = some d → ∃ d1 d2, d = .tup [d1, d2] ∧ Rep K Hf0 d1 x ∧ Rep K Hf0 d2 y) : ItD K EX b Hf0 H1 (Jp G n f) items where
  go := fun i Hf H s t u hi => ⟨g Hf H s t u, by rw [← hn]; exact hi⟩
  stop := fun Hf H s t u => ⟨g Hf H s t u, hn⟩
  yld := fun H0 i d H x H' Hf ρ σ R s u hd y => by
    obtain ⟨T, x1, y1, rfl, hT, rfl, hf⟩ := y
    obtain ⟨d1, d2, rfl, r1, r2⟩ := h i x1 y1 d hf hd
    have sn := same_new (R.fresh hT) (.tup [x1, y1])
    exact ⟨upd Hf T (.tup [x1, y1]), R.newF ek hT _, sn, same_new hT _, .tup (.of upd_same) (.cons ((r1.same s).same sn) (.cons ((r2.same s).same sn) .nil))⟩
theorem itD_en (ek : EXok EX) {k b : Bool} {a : Addr} {xs : List V} {l : List D} (h1 : Sq K k H1 a xs) (h0 : b = false → Sq K k Hf0 a xs) (r : Reps K Hf0 l xs) : ItD K EX b Hf0 H1 (Jen K k a xs) (enD 0 l) :=
  itD_pairs ek (by rw [enD_length, r.length]) (fun Hf H s t u => h1.keep h0 s t u) fun i x y d hf hd => by
    obtain ⟨rfl, hy⟩ := hf
    rw [enD_get] at hd
    cases e : l[i]? with
    | none => rw [e] at hd; cases hd
    | some d' =>
      rw [e] at hd
      cases hd
      obtain ⟨v, hv, rv⟩ := r.get e
      rw [hv] at hy
      cases hy
      refine ⟨_, d', rfl, ?_, rv⟩
      rw [Nat.zero_add]
      exact .int _
end
end DL
/-! DH: slots stored and frozen; expressions, one rule a form -/
namespace DL
open PySem PySem.Spec PyProof.Rows L2
theorem get_set {α : Type} {l : List α} {i j : Nat} {x y : α} (h : (l.set i x)[j]? = some y) : (j = i ∧ y = x ∧ i < l.length) ∨ (j ≠ i ∧ l[j]? = some y) := by
  by_cases e : i = j
  · subst e
    by_cases hl : i < l.length
    · rw [List.getElem?_set_self hl] at h
      exact .inl ⟨rfl, (Option.some.inj h).symm, hl⟩
    · rw [List.getElem?_eq_none (by rw [List.length_set]; omega)] at h
      cases h
  · rw [List.getElem?_set_ne e] at h
    exact .inr ⟨fun z => e z.symm, h⟩
section
variable {K : PySem.W.Frag} {EX : EXT} {H0 : Ent} {ρ : DEnv} {σ : L2.St} {Hf H : Hp} {d : D} {v : V}
theorem SR.setSh (R : SR K EX H0 ρ σ Hf H) (r : Rep K Hf d v) (i : Nat) : SR K EX H0 (ρ.set i (.sh d)) (σ.set i (some v)) Hf H := by
  refine ⟨R.base, R.ent, R.nof, R.sub, by rw [List.length_set, List.length_set, R.len], fun j d' e => ?_, fun j p l e => ?_, fun j p l e => ?_, fun j c l e => ?_, fun j k s t a n e1 e2 o1 o2 z1 z2 => ?_⟩
  · rcases get_set e with ⟨rfl, z, hl⟩ | ⟨n, e⟩
    · cases z; exact ⟨v, by rw [List.getElem?_set_self (by rw [← R.len]; exact hl)], r⟩
    · rw [List.getElem?_set_ne (Ne.symm n)]; exact R.sh j d' e
  · rcases get_set e with ⟨rfl, z, hl⟩ | ⟨n, e⟩
    · cases z
    · rw [List.getElem?_set_ne (Ne.symm n)]; exact R.own j p l e
  · rcases get_set e with ⟨rfl, z, hl⟩ | ⟨n, e⟩
    · cases z
    · rw [List.getElem?_set_ne (Ne.symm n)]; exact R.ownK j p l e
  · rcases get_set e with ⟨rfl, z, hl⟩ | ⟨n, e⟩
    · cases z
    · rw [List.getElem?_set_ne (Ne.symm n)]; exact R.exc j c l e
  · rcases get_set e1 with ⟨rfl, z, hl⟩ | ⟨n1, e1⟩
    · cases z; cases o1
    · rcases get_set e2 with ⟨rfl, z, hl⟩ | ⟨n2, e2⟩
      · cases z; cases o2
      · rw [List.getElem?_set_ne (Ne.symm n1)] at z1
        rw [List.getElem?_set_ne (Ne.symm n2)] at z2
        exact R.apart j k s t a n e1 e2 o1 o2 z1 z2
/-- a slot of its own -/
theorem SR.setO (R : SR K EX H0 ρ σ Hf H) {a : Addr} {s : Sl} (ho : s.isOwn = true)
    (h1 : ∀ p l, s = .own p l → ∃ xs, Hf a = none ∧ H a = some (HO.lst xs) ∧ Reps K Hf l xs ∧ H0.h a = none ∧ ∀ b, p = some b → b = a)
    (h2 : ∀ p l, s = .ownK p l → ∃ xs, Hf a = none ∧ H a = some (HO.dK xs) ∧ RepK K Hf l xs ∧ H0.h a = none ∧ ∀ b, p = some b → b = a)
    (i : Nat) (f : ∀ (j : Nat) (t : Sl), j ≠ i → ρ[j]? = some t → t.isOwn = true → σ[j]? ≠ some (some (V.ref a))) : SR K EX H0 (ρ.set i s) (σ.set i (some (.ref a))) Hf H := by
  refine ⟨R.base, R.ent, R.nof, R.sub, by rw [List.length_set, List.length_set, R.len], fun j d' e => ?_, fun j p l e => ?_, fun j p l e => ?_, fun j c l e => ?_, fun j k s1 t b n e1 e2 o1 o2 z1 z2 => ?_⟩
  · rcases get_set e with ⟨rfl, z, hl⟩ | ⟨n, e⟩
    · rw [← z] at ho; cases ho
    · rw [List.getElem?_set_ne (Ne.symm n)]; exact R.sh j d' e
  · rcases get_set e with ⟨rfl, z, hl⟩ | ⟨n, e⟩
    · obtain ⟨xs, q⟩ := h1 p l z.symm
      exact ⟨a, xs, by rw [List.getElem?_set_self (by rw [← R.len]; exact hl)], q⟩
    · rw [List.getElem?_set_ne (Ne.symm n)]; exact R.own j p l e
  · rcases get_set e with ⟨rfl, z, hl⟩ | ⟨n, e⟩
    · obtain ⟨xs, q⟩ := h2 p l z.symm
      exact ⟨a, xs, by rw [List.getElem?_set_self (by rw [← R.len]; exact hl)], q⟩
    · rw [List.getElem?_set_ne (Ne.symm n)]; exact R.ownK j p l e
  · rcases get_set e with ⟨rfl, z, hl⟩ | ⟨n, e⟩
    · rw [← z] at ho; cases ho
    · rw [List.getElem?_set_ne (Ne.symm n)]; exact R.exc j c l e
  · rcases get_set e1 with ⟨rfl, z, hl⟩ | ⟨n1, q1⟩
    · rcases get_set e2 with ⟨rfl, z', hl'⟩ | ⟨n2, e2⟩
      · exact n rfl
      · rw [List.getElem?_set_self (by rw [← R.len]; exact hl)] at z1
        rw [List.getElem?_set_ne (Ne.symm n2)] at z2
        cases z1
        exact f k t n2 e2 o2 z2
    · rw [List.getElem?_set_ne (Ne.symm n1)] at z1
      rcases get_set e2 with ⟨ki, z', hl'⟩ | ⟨n2, e3⟩
      · rw [ki, List.getElem?_set_self (by rw [← R.len]; exact hl')] at z2
        cases z2
        exact f j s1 n1 q1 o1 z1
      · rw [List.getElem?_set_ne (Ne.symm n2)] at z2
        exact R.apart j k s1 t b n q1 e3 o1 o2 z1 z2
/-- the list of a slot is frozen -/
theorem SR.frzSlot (R : SR K EX H0 ρ σ Hf H) (ek : EXok EX) {i : Nat} {p : Option Addr} {l : List D} (e : ρ[i]? = some (.own p l)) : ∃ a Hf', σ[i]? = some (some (V.ref a)) ∧ SR K EX H0 (ρ.set i (.sh (.lst l))) σ Hf' H ∧ Same Hf Hf' ∧ Rep K Hf' (.lst l) (.ref a) := by
  obtain ⟨a, xs, h1, h2, h3, r, h0, _⟩ := R.own i p l e
  obtain ⟨s1, s2⟩ := same_freeze R.sub h2 h3
  have rr : Rep K (upd Hf a (.lst xs)) (.lst l) (.ref a) := .lst (.of upd_same) (r.same s1)
  refine ⟨a, upd Hf a (.lst xs), h1, ⟨R.base.trans s1, R.ent, fun b q1 q2 => by rw [upd_ne (fun z => q1 (by rw [z]; exact h0))]; exact R.nof b q1 q2, s2, by rw [List.length_set, R.len], fun j d' e' => ?_, fun j p m e' => ?_, fun j p m e' => ?_, fun j c m e' => ?_, fun j k s t b n e1 e2 o1 o2 z1 z2 => ?_⟩, s1, rr⟩
  · rcases get_set e' with ⟨rfl, z, hl⟩ | ⟨n, e'⟩
    · cases z; exact ⟨_, h1, rr⟩
    · obtain ⟨v, q, r'⟩ := R.sh j d' e'
      exact ⟨v, q, r'.same s1⟩
  · rcases get_set e' with ⟨rfl, z, hl⟩ | ⟨n, e'⟩
    · cases z
    · obtain ⟨b, ys, q1, q2, q3, r', q4⟩ := R.own j p m e'
      refine ⟨b, ys, q1, ?_, q3, r'.same s1, q4⟩
      rw [upd_ne (fun z => R.apart j i _ _ a n e' e rfl rfl (by rw [q1, z]) h1)]; exact q2
  · rcases get_set e' with ⟨rfl, z, hl⟩ | ⟨n, e'⟩
    · cases z
    · obtain ⟨b, ys, q1, q2, q3, r', q4⟩ := R.ownK j p m e'
      refine ⟨b, ys, q1, ?_, q3, r'.same s1, q4⟩
      rw [upd_ne (fun z => R.apart j i _ _ a n e' e rfl rfl (by rw [q1, z]) h1)]; exact q2
  · rcases get_set e' with ⟨rfl, z, hl⟩ | ⟨n, e'⟩
    · cases z
    · obtain ⟨v, q, r'⟩ := R.exc j c m e'
      exact ⟨v, q, ek _ _ _ _ _ s1 r'⟩
  · rcases get_set e1 with ⟨rfl, z, hl⟩ | ⟨n1, e1⟩
    · cases z; cases o1
    · rcases get_set e2 with ⟨rfl, z, hl⟩ | ⟨n2, e2⟩
      · cases z; cases o2
      · exact R.apart j k s t b n e1 e2 o1 o2 z1 z2
theorem SR.frzSlotK (R : SR K EX H0 ρ σ Hf H) (ek : EXok EX) {i : Nat} {p : Option Addr} {l : List (Key × D)} (e : ρ[i]? = some (.ownK p l)) : ∃ a Hf', σ[i]? = some (some (V.ref a)) ∧ SR K EX H0 (ρ.set i (.sh (.dct l))) σ Hf' H ∧ Same Hf Hf' ∧ Rep K Hf' (.dct l) (.ref a) := by
  obtain ⟨a, xs, h1, h2, h3, r, h0, _⟩ := R.ownK i p l e
  obtain ⟨s1, s2⟩ := same_freeze R.sub h2 h3
  have rr : Rep K (upd Hf a (.dK xs)) (.dct l) (.ref a) := .dct (.inl upd_same) (r.same s1)
  refine ⟨a, upd Hf a (.dK xs), h1, ⟨R.base.trans s1, R.ent, fun b q1 q2 => by rw [upd_ne (fun z => q1 (by rw [z]; exact h0))]; exact R.nof b q1 q2, s2, by rw [List.length_set, R.len], fun j d' e' => ?_, fun j p m e' => ?_, fun j p m e' => ?_, fun j c m e' => ?_, fun j k s t b n e1 e2 o1 o2 z1 z2 => ?_⟩, s1, rr⟩
  · rcases get_set e' with ⟨rfl, z, hl⟩ | ⟨n, e'⟩
    · cases z; exact ⟨_, h1, rr⟩
    · obtain ⟨v, q, r'⟩ := R.sh j d' e'
      exact ⟨v, q, r'.same s1⟩
  · rcases get_set e' with ⟨rfl, z, hl⟩ | ⟨n, e'⟩
    · cases z
    · obtain ⟨b, ys, q1, q2, q3, r', q4⟩ := R.own j p m e'
      refine ⟨b, ys, q1, ?_, q3, r'.same s1, q4⟩
      rw [upd_ne (fun z => R.apart j i _ _ a n e' e rfl rfl (by rw [q1, z]) h1)]; exact q2
  · rcases get_set e' with ⟨rfl, z, hl⟩ | ⟨n, e'⟩
    · cases z
    · obtain ⟨b, ys, q1, q2, q3, r', q4⟩ := R.ownK j p m e'
      refine ⟨b, ys, q1, ?_, q3, r'.same s1, q4⟩
      rw [upd_ne (fun z => R.apart j i _ _ a n e' e rfl rfl (by rw [q1, z]) h1)]; exact q2
  · rcases get_set e' with ⟨rfl, z, hl⟩ | ⟨n, e'⟩
    · cases z
    · obtain ⟨v, q, r'⟩ := R.exc j c m e'
      exact ⟨v, q, ek _ _ _ _ _ s1 r'⟩
  · rcases get_set e1 with ⟨rfl, z, hl⟩ | ⟨n1, e1⟩
    · cases z; cases o1
    · rcases get_set e2 with ⟨rfl, z, hl⟩ | ⟨n2, e2⟩
      · cases z; cases o2
      · exact R.apart j k s t b n e1 e2 o1 o2 z1 z2
/-- slots forgotten on both sides -/
theorem SR.wipe (R : SR K EX H0 ρ σ Hf H) : ∀ l : List Nat, SR K EX H0 (wipeD ρ l) (L2.wipe σ l) Hf H
  | [] => R
  | i :: l => by
    have R' := SR.wipe R l
    show SR K EX H0 ((wipeD ρ l).set i .un) ((L2.wipe σ l).set i none) Hf H
    have g : ∀ {j : Nat} {s : Sl}, ((wipeD ρ l).set i .un)[j]? = some s → s ≠ .un → j ≠ i ∧ (wipeD ρ l)[j]? = some s := fun {j s} e n => by
      rcases get_set e with ⟨_, z, _⟩ | q
      · exact absurd z n
      · exact q
    refine ⟨R'.base, R'.ent, R'.nof, R'.sub, by rw [List.length_set, List.length_set, R'.len], fun j d' e => ?_, fun j p m e => ?_, fun j p m e => ?_, fun j c m e => ?_, fun j k s t b n e1 e2 o1 o2 z1 z2 => ?_⟩
    · obtain ⟨n, e⟩ := g e nofun
      rw [List.getElem?_set_ne (Ne.symm n)]; exact R'.sh j d' e
    · obtain ⟨n, e⟩ := g e nofun
      rw [List.getElem?_set_ne (Ne.symm n)]; exact R'.own j p m e
    · obtain ⟨n, e⟩ := g e nofun
      rw [List.getElem?_set_ne (Ne.symm n)]; exact R'.ownK j p m e
    · obtain ⟨n, e⟩ := g e nofun
      rw [List.getElem?_set_ne (Ne.symm n)]; exact R'.exc j c m e
    · obtain ⟨n1, e1⟩ := g e1 (fun z => by rw [z] at o1; cases o1)
      obtain ⟨n2, e2⟩ := g e2 (fun z => by rw [z] at o2; cases o2)
      rw [List.getElem?_set_ne (Ne.symm n1)] at z1
      rw [List.getElem?_set_ne (Ne.symm n2)] at z2
      exact R'.apart j k s t b n e1 e2 o1 o2 z1 z2
end
end DL
/-! DI: expressions -/
namespace DL
open PySem PySem.Spec PyProof.Rows L2
section
variable (X : Cx)
def mE (e : Expr) : TE := fun σ H Q => ∀ (pins : List (Addr × Obj)) (s : Shared), Inv X pins σ H s → wpAny (model X.prog X.w) X.A (eval e X.env) (EP X pins σ Q) X.xe s
def mT (e : Expr) : TT := fun σ H Q => ∀ (pins : List (Addr × Obj)) (s : Shared), Inv X pins σ H s → wpAny (model X.prog X.w) X.A (isTrue e X.env (eval e X.env)) (TP X pins σ Q) X.xe s
def mW (e : Expr) : TT := fun σ H Q => ∀ (whole : Sem Value) (pins : List (Addr × Obj)) (s : Shared), Inv X pins σ H s → wpAny (model X.prog X.w) X.A (isTrue e X.env whole) (TP X pins σ Q) X.xe s
def mA (es : List Expr) : TA := fun σ H Q => ∀ (pos : Pos) (pins : List (Addr × Obj)) (s : Shared), Inv X pins σ H s → wpAny (model X.prog X.w) X.A (spliced (backTo pos (starEach es X.env))) (AP X pins σ Q) X.xe s
def mI (tg iter : Expr) : TI := fun σ H R => ∀ (pins : List (Addr × Obj)) (s : Shared), Inv X pins σ H s → wpAny (model X.prog X.w) X.A (eval iter X.env) (fun v s1 => wpAny (model X.prog X.w) X.A (pyIter v) (PIE X pins σ tg R) X.xe s1) X.xe s
def mTs (ifs : List Expr) : TT := fun σ H Q => ∀ (pins : List (Addr × Obj)) (s : Shared), Inv X pins σ H s → wpAny (model X.prog X.w) X.A (forIn ifs true fun c r => if r = true then do let ok ← isTrue c X.env (eval c X.env); pure (ForInStep.yield ok) else pure (ForInStep.yield r)) (TP X pins σ Q) X.xe s
def mG (tg : Expr) : TG := fun v σ H Q => ∀ (pins : List (Addr × Obj)) (s : Shared) (u : Value), Inv X pins σ H s → RelV v u → wpAny (model X.prog X.w) X.A (assign tg X.env u) (fun _ s' => ∃ σ' H', Inv X pins σ' H' s' ∧ Q σ' H') X.xe s
end
section
variable {X : Cx}
theorem PE.m (e : Expr) : PE X e (mE X e) := ⟨fun pins s σ H Q I h => h pins s I⟩
theorem PT.m (e : Expr) : PT X e (mT X e) := ⟨fun pins s σ H Q I h => h pins s I⟩
theorem PW.m (e : Expr) : PW X e (mW X e) := ⟨fun whole pins s σ H Q I h => h whole pins s I⟩
theorem PA.m (es : List Expr) : PA X es (mA X es) := ⟨fun pos pins s σ H Q I h => h pos pins s I⟩
theorem PI.m (tg iter : Expr) : PI X tg iter (mI X tg iter) := ⟨fun pins s σ H R I h => h pins s I⟩
theorem PTs.m (ifs : List Expr) : PTs X ifs (mTs X ifs) := ⟨fun pins s σ H Q I h => h pins s I⟩
theorem mE.of {e : Expr} {te : TE} (h : PE X e te) {σ : L2.St} {H : Hp} {Q : VK} (q : te σ H Q) : mE X e σ H Q := fun pins s I => h.run pins s σ H Q I q
theorem mT.of {e : Expr} {te : TT} (h : PT X e te) {σ : L2.St} {H : Hp} {Q : Bool → Hp → Prop} (q : te σ H Q) : mT X e σ H Q := fun pins s I => h.run pins s σ H Q I q
theorem mW.of {e : Expr} {te : TT} (h : PW X e te) {σ : L2.St} {H : Hp} {Q : Bool → Hp → Prop} (q : te σ H Q) : mW X e σ H Q := fun whole pins s I => h.run whole pins s σ H Q I q
theorem mA.of {e : List Expr} {te : TA} (h : PA X e te) {σ : L2.St} {H : Hp} {Q : List V → Hp → Prop} (q : te σ H Q) : mA X e σ H Q := fun pos pins s I => h.run pos pins s σ H Q I q
theorem mI.of {tg e : Expr} {te : TI} (h : PI X tg e te) {σ : L2.St} {H : Hp} {R : It → Hp → Prop} (q : te σ H R) : mI X tg e σ H R := fun pins s I => h.run pins s σ H R I q
theorem mTs.of {e : List Expr} {te : TT} (h : PTs X e te) {σ : L2.St} {H : Hp} {Q : Bool → Hp → Prop} (q : te σ H Q) : mTs X e σ H Q := fun pins s I => h.run pins s σ H Q I q
theorem PG.m (tg : Expr) : PG X tg (mG X tg) := ⟨fun pins s σ H Q v u I r h => by
  first | exact h pins s u I r | exact h pins s v I r⟩
end

/-! ### the judgement -/
section
variable (X : Cx) (EX : EXT) (Γ : Gm) (H0 : Ent)
def SE (E : DX → DEnv → Prop) (x : Ex) (e : Expr) : Prop := ∀ (ρ : DEnv) (σ : L2.St) (Hf H : Hp) (Q : D → DEnv → Prop) (QV : VK), SR X.K EX H0 ρ σ Hf H → wE Γ E x ρ Q →
  (∀ d ρ' v Hf' H', SR X.K EX H0 ρ' σ Hf' H' → Same Hf Hf' → Same H H' → Res X.K H0 (md x) ρ' σ Hf' H' d v → Q d ρ' → QV v H') → mE X e σ H QV
def ST (E : DX → DEnv → Prop) (x : Ex) (e : Expr) : Prop := ∀ (ρ : DEnv) (σ : L2.St) (Hf H : Hp) (Q : Bool → DEnv → Prop) (QB : Bool → Hp → Prop), SR X.K EX H0 ρ σ Hf H → wT Γ E x ρ Q →
  (∀ b ρ' Hf' H', SR X.K EX H0 ρ' σ Hf' H' → Same Hf Hf' → Same H H' → Q b ρ' → QB b H') → mT X e σ H QB
def SA (E : DX → DEnv → Prop) (l : Exs) (es : List Expr) : Prop := ∀ (ρ : DEnv) (σ : L2.St) (Hf H : Hp) (Q : List D → DEnv → Prop) (QA : List V → Hp → Prop), SR X.K EX H0 ρ σ Hf H → wA Γ E l ρ Q →
  (∀ ds ρ' vs Hf' H', SR X.K EX H0 ρ' σ Hf' H' → Same Hf Hf' → Same H H' → RepBs X.K Hf' H' ds vs → (nbA l = true → Reps X.K Hf' ds vs) → Q ds ρ' → QA vs H') → mA X es σ H QA
end
theorem like_b {o : BOp} {p : Operator} (h : o.like p = true) : o.op = p := by
  cases o <;> cases p <;> first | rfl | cases h
theorem like_c {o : COp} {p : CmpOp} (h : o.like p = true) : o.op = p := by
  cases o <;> cases p <;> first | rfl | cases h
theorem nb_md {x : Ex} (h : nb x = true) : md x ≠ .bo := fun z => by
  unfold nb at h
  rw [z] at h
  exact absurd h Bool.false_ne_true
theorem star_cons {e : Expr} {es : List Expr} {env : Env} (h : nst e = true) : starEach (e :: es) env = (false, eval e env) :: starEach es env := by
  cases e <;> first | rfl | cases h
theorem ckA_star {C : Cn} {sc : Scope} {env : Env} {pos : Pos} : ∀ {l : Exs} {es : List Expr}, ckA C sc l es = true → (backTo pos (starEach es env)).any (·.1) = false ∧ (backTo pos (starEach es env)).all (fun x => !x.1) = true
  | .nil, [], _ => ⟨rfl, rfl⟩
  | .nil, _ :: _, h => by cases h
  | .cons x l, [], h => by cases h
  | .cons x l, e :: es, h => by
    have h' : (ck C sc x e = true ∧ nst e = true) ∧ ckA C sc l es = true := by simpa [ckA] using h
    obtain ⟨a, b⟩ := ckA_star (env := env) (pos := pos) h'.2
    rw [star_cons h'.1.2]
    exact ⟨by simpa [backTo] using a, by simpa [backTo] using b⟩
theorem nsl_plain {i : Expr} (h : nslice i = true) : PlainIx i := by
  intro o v
  cases i <;> first | rfl | cases h
theorem nsup_base {o : Expr} {a : Str} {env : Env} (h : nsup o = true) : attributeBase o a env (eval o env) = eval o env := by
  unfold attributeBase
  split
  · rename_i id p pos
    have hs : (id == ("super" : Str)) = false := by simpa [nsup] using h
    have : (id != ("super" : Str)) = true := by rw [bne, hs]; rfl
    simp only [this, Bool.true_or, if_true]
  · rfl
theorem vis_of {sc : Scope} {x : Str} (h : visB sc x = true) : Vis sc x := by
  unfold visB at h
  split at h <;> first | (cases h; done) | skip
  · exact .inl (by assumption)
  · exact .inr (.inl (by assumption))
  · exact .inr (.inr (by assumption))
theorem loc_of {sc : Scope} {x : Str} (h : locB sc x = true) : Loc sc x := by
  unfold locB at h
  split at h <;> first | (cases h; done) | skip
  · exact .inl (by assumption)
  · exact .inr (by assumption)
theorem glo_of {sc : Scope} {x : Str} (h : gloB sc x = true) : sc.names.lookup x = some .globalImplicit := by
  unfold gloB at h
  split at h <;> first | (cases h; done) | assumption
section
variable {X : Cx} {EX : EXT} {Γ : Gm} {H0 : Ent} {xa : Nat → Addr} {C : Cn} {sc : Scope} {E : DX → DEnv → Prop}
theorem Cok.gl (c : Cok X xa Γ C sc) {x : Str} (h : gloB sc x = true) : Gl X x := by
  show X.env.scope.names.lookup x = _
  rw [c.scp]; exact glo_of h
theorem Cok.pv (c : Cok X xa Γ C sc) {i : Nat} {x : Str} {pos : Pos} (h : nmB C.N sc i x = true) : PE X (.Name x pos) (tVar i) := by
  unfold nmB at h
  simp only [Bool.and_eq_true, decide_eq_true_eq, Bool.not_eq_true'] at h
  refine pe_var (by rw [c.N]; exact h.1.1.1) (by rw [c.scp]; exact vis_of h.1.1.2) h.1.2 h.2
theorem se_v (ek : EXok EX) (c : Cok X xa Γ C sc) {i : Nat} {x : Str} {pos : Pos} (h : nmB C.N sc i x = true) : SE X EX Γ H0 E (.v i) (.Name x pos) := fun ρ σ Hf H Q QV R w k => by
  refine mE.of (c.pv h) ?_
  have w' : (match ρ[i]? with
    | some (.sh d) => Q d ρ
    | some (.own _ l) => Q (.lst l) (ρ.set i (.sh (.lst l)))
    | some (.ownK _ l) => Q (.dct l) (ρ.set i (.sh (.dct l)))
    | _ => False) := w
  split at w'
  · obtain ⟨v, e, r⟩ := R.sh i _ (by assumption)
    exact ⟨v, e, k _ ρ v Hf H R (Same.refl _) (Same.refl _) r w'⟩
  · obtain ⟨a, Hf', e, R', s, r⟩ := R.frzSlot ek (by assumption)
    exact ⟨_, e, k _ _ _ Hf' H R' s (Same.refl _) r w'⟩
  · obtain ⟨a, Hf', e, R', s, r⟩ := R.frzSlotK ek (by assumption)
    exact ⟨_, e, k _ _ _ Hf' H R' s (Same.refl _) r w'⟩
  · exact w'.elim
theorem se_b (c : Cok X xa Γ C sc) {i : Nat} {x : Str} {pos : Pos} (h : nmB C.N sc i x = true) : SE X EX Γ H0 E (.b i) (.Name x pos) := fun ρ σ Hf H Q QV R w k => by
  refine mE.of (c.pv h) ?_
  have w' : (match ρ[i]? with
    | some (.sh d) => Q d ρ
    | some (.own _ l) => Q (.lst l) ρ
    | some (.ownK _ l) => Q (.dct l) ρ
    | _ => False) := w
  split at w'
  · obtain ⟨v, e, r⟩ := R.sh i _ (by assumption)
    exact ⟨v, e, k _ ρ v Hf H R (Same.refl _) (Same.refl _) (.sh r) w'⟩
  · obtain ⟨a, xs, e, _, h3, r, _⟩ := R.own i _ _ (by assumption)
    exact ⟨_, e, k _ _ _ Hf H R (Same.refl _) (Same.refl _) (.own h3 r) w'⟩
  · obtain ⟨a, xs, e, _, h3, r, _⟩ := R.ownK i _ _ (by assumption)
    exact ⟨_, e, k _ _ _ Hf H R (Same.refl _) (Same.refl _) (.ownK h3 r) w'⟩
  · exact w'.elim
theorem se_fr (ek : EXok EX) {i : Nat} {x : Ex} {e : Expr} (h : SE X EX Γ H0 E x e) : SE X EX Γ H0 E (.fr i x) e := fun ρ σ Hf H Q QV R w k => by
  have w' : (match ρ[i]? with
    | some (.own _ l) => wE Γ E x (ρ.set i (.sh (.lst l))) Q
    | some (.ownK _ l) => wE Γ E x (ρ.set i (.sh (.dct l))) Q
    | _ => wE Γ E x ρ Q) := w
  split at w'
  · obtain ⟨a, Hf', e, R', s, r⟩ := R.frzSlot ek (by assumption)
    exact h _ σ Hf' H Q QV R' w' fun d ρ' v Hf2 H2 R2 s2 t2 r2 q => k d ρ' v Hf2 H2 R2 (s.trans s2) t2 r2 q
  · obtain ⟨a, Hf', e, R', s, r⟩ := R.frzSlotK ek (by assumption)
    exact h _ σ Hf' H Q QV R' w' fun d ρ' v Hf2 H2 R2 s2 t2 r2 q => k d ρ' v Hf2 H2 R2 (s.trans s2) t2 r2 q
  · exact h _ σ Hf H Q QV R w' k
theorem se_int {n : Int} {j : Nat} {pos : Pos} : SE X EX Γ H0 E (.int n) (.Constant (.int n) j pos) := fun ρ σ Hf H Q QV R w k =>
  mE.of pe_int (k _ ρ _ Hf H R (Same.refl _) (Same.refl _) (Rep.int n) w)
theorem se_str {n : Str} {j : Nat} {pos : Pos} : SE X EX Γ H0 E (.str n) (.Constant (.str n) j pos) := fun ρ σ Hf H Q QV R w k =>
  mE.of pe_str (k _ ρ _ Hf H R (Same.refl _) (Same.refl _) (Rep.str n) w)
theorem se_bl {n : Bool} {j : Nat} {pos : Pos} : SE X EX Γ H0 E (.bl n) (.Constant (.bool n) j pos) := fun ρ σ Hf H Q QV R w k =>
  mE.of pe_bl (k _ ρ _ Hf H R (Same.refl _) (Same.refl _) (Rep.bl n) w)
theorem se_non {j : Nat} {pos : Pos} : SE X EX Γ H0 E .non (.Constant .none j pos) := fun ρ σ Hf H Q QV R w k =>
  mE.of pe_non (k _ ρ _ Hf H R (Same.refl _) (Same.refl _) Rep.non w)
theorem se_bin (ek : EXok EX) {o : BOp} {a b : Ex} {l r : Expr} {p : Operator} {pos : Pos} (hp : o.like p = true) (ha : SE X EX Γ H0 E a l) (hb : SE X EX Γ H0 E b r) : SE X EX Γ H0 E (.bin o a b) (.BinOp l p r pos) := fun ρ σ Hf H Q QV R w k => by
  rw [← like_b hp]
  refine mE.of (pe_op mOp_ok (PE.m l) (PE.m r)) ?_
  refine ha ρ σ Hf H _ _ R w fun d1 ρ1 v1 Hf1 H1 R1 s1 t1 r1 w1 => ?_
  refine hb ρ1 σ Hf1 H1 _ _ R1 w1 fun d2 ρ2 v2 Hf2 H2 R2 s2 t2 r2 w2 => ?_
  exact bin_ok ek R2 (r1.toB.mono s2 t2) r2.toB w2 fun d v Hf3 H3 R3 s3 t3 r3 q => k d ρ2 v Hf3 H3 R3 (s1.trans (s2.trans s3)) (t1.trans (t2.trans t3)) r3 q
theorem se_neg {a : Ex} {l : Expr} {pos : Pos} (ha : SE X EX Γ H0 E a l) : SE X EX Γ H0 E (.neg a) (.UnaryOp .USub l pos) := fun ρ σ Hf H Q QV R w k => by
  refine mE.of (pe_un un_neg (PE.m l)) ?_
  refine ha ρ σ Hf H _ _ R w fun d1 ρ1 v1 Hf1 H1 R1 s1 t1 r1 w1 => ?_
  split at w1
  · cases r1.toB.int_inv
    exact ⟨_, rfl, k _ ρ1 _ Hf1 H1 R1 s1 t1 (Rep.int _) w1⟩
  · exact w1.elim
theorem se_not {a : Ex} {l : Expr} {pos : Pos} (ha : SE X EX Γ H0 E a l) : SE X EX Γ H0 E (.not a) (.UnaryOp .Not l pos) := fun ρ σ Hf H Q QV R w k => by
  refine mE.of (pe_not (PE.m l)) ?_
  refine ha ρ σ Hf H _ _ R w fun d1 ρ1 v1 Hf1 H1 R1 s1 t1 r1 w1 => ?_
  split at w1
  · cases r1.toB.bl_inv
    exact ⟨_, rfl, k _ ρ1 _ Hf1 H1 R1 s1 t1 (Rep.bl _) w1⟩
  · exact w1.elim
theorem cmp_core (hu : X.A.units + 64 < cLine) {o : COp} {a b : Ex} {l r : Expr} (ha : SE X EX Γ H0 E a l) (hb : SE X EX Γ H0 E b r) {ρ : DEnv} {σ : L2.St} {Hf H : Hp} {Q : Bool → DEnv → Prop} {QV : VK}
    (R : SR X.K EX H0 ρ σ Hf H) (w : wE Γ E a ρ fun x ρ1 => wE Γ E b ρ1 fun y ρ2 => cmpW o x y fun k => Q k ρ2) (k : ∀ c ρ2 v2 Hf2 H2, SR X.K EX H0 ρ2 σ Hf2 H2 → Same Hf Hf2 → Same H H2 → (∃ d2, Res X.K H0 (md b) ρ2 σ Hf2 H2 d2 v2) → Q c ρ2 → QV (.bl c) H2) :
    tOp (mOp X (compareOp o.op)) (mE X l) (mE X r) σ H QV := by
  refine ha ρ σ Hf H _ _ R w fun d1 ρ1 v1 Hf1 H1 R1 s1 t1 r1 w1 => ?_
  refine hb ρ1 σ Hf1 H1 _ _ R1 w1 fun d2 ρ2 v2 Hf2 H2 R2 s2 t2 r2 w2 => ?_
  exact cmp_ok hu R2 (r1.toB.mono s2 t2) r2.toB w2 fun c q => k c ρ2 v2 Hf2 H2 R2 (s1.trans s2) (t1.trans t2) ⟨d2, r2⟩ q
theorem se_cmp (hu : X.A.units + 64 < cLine) {o : COp} {a b : Ex} {l r : Expr} {p : CmpOp} {pos : Pos} (hp : o.like p = true) (hm : behindInMarks p r = false) (ha : SE X EX Γ H0 E a l) (hb : SE X EX Γ H0 E b r) :
    SE X EX Γ H0 E (.cmp o a b) (.Compare l [p] [r] pos) := fun ρ σ Hf H Q QV R w k => by
  cases like_c hp
  exact mE.of (pe_cmpR mOp_ok (PE.m l) (PE.m r) hm) (cmp_core hu ha hb (Q := fun c ρ2 => Q (.bl c) ρ2) R w fun c ρ2 v2 Hf2 H2 R2 s t _ q => k _ ρ2 _ Hf2 H2 R2 s t (Rep.bl c) q)
theorem st_cmp (hu : X.A.units + 64 < cLine) {o : COp} {a b : Ex} {l r : Expr} {p : CmpOp} {pos : Pos} (hp : o.like p = true) (hm : behindInMarks p r = false) (ha : SE X EX Γ H0 E a l) (hb : SE X EX Γ H0 E b r) :
    ST X EX Γ H0 E (.cmp o a b) (.Compare l [p] [r] pos) := fun ρ σ Hf H Q QB R w k => by
  cases like_c hp
  exact mT.of (pt_cmpR mOp_ok (PE.m l) (PE.m r) hm) (cmp_core hu ha hb (Q := Q) R w fun c ρ2 v2 Hf2 H2 R2 s t _ q => ⟨c, rfl, k _ ρ2 Hf2 H2 R2 s t q⟩)
theorem cmp2_core (hu : X.A.units + 64 < cLine) {o p : COp} {a b c : Ex} {l r r' : Expr} (ha : SE X EX Γ H0 E a l) (hb : SE X EX Γ H0 E b r) (hc : SE X EX Γ H0 E c r') {ρ : DEnv} {σ : L2.St} {Hf H : Hp} {Q : Bool → DEnv → Prop} {QV : VK}
    (R : SR X.K EX H0 ρ σ Hf H) (w : wE Γ E a ρ fun x ρ1 => wE Γ E b ρ1 fun y ρ2 => cmpW o x y fun k => if k = true then wE Γ E c ρ2 fun z ρ3 => cmpW p y z fun j => Q j ρ3 else Q false ρ2)
    (k : ∀ c ρ2 Hf2 H2, SR X.K EX H0 ρ2 σ Hf2 H2 → Same Hf Hf2 → Same H H2 → Q c ρ2 → QV (.bl c) H2) :
    tChain (mOp X (compareOp o.op)) (mOp X (compareOp p.op)) (mE X l) (mE X r) (mE X r') σ H QV := by
  refine ha ρ σ Hf H _ _ R w fun d1 ρ1 v1 Hf1 H1 R1 s1 t1 r1 w1 => ?_
  refine hb ρ1 σ Hf1 H1 _ _ R1 w1 fun d2 ρ2 v2 Hf2 H2 R2 s2 t2 r2 w2 => ?_
  refine cmp_ok hu R2 (r1.toB.mono s2 t2) r2.toB w2 fun c1 q => ⟨c1, rfl, ?_⟩
  cases c1 with
  | false =>
    rw [if_neg Bool.false_ne_true] at q ⊢
    exact k _ ρ2 Hf2 H2 R2 (s1.trans s2) (t1.trans t2) q
  | true =>
    rw [if_pos rfl] at q ⊢
    refine hc ρ2 σ Hf2 H2 _ _ R2 q fun d3 ρ3 v3 Hf3 H3 R3 s3 t3 r3 w3 => ?_
    exact cmp_ok hu R3 (r2.toB.mono s3 t3) r3.toB w3 fun c q => k c ρ3 Hf3 H3 R3 (s1.trans (s2.trans s3)) (t1.trans (t2.trans t3)) q
theorem se_cmp2 (hu : X.A.units + 64 < cLine) {o q : COp} {a b c : Ex} {l r r' : Expr} {p p' : CmpOp} {pos : Pos} (hp : o.like p = true) (hq : q.like p' = true) (hm : behindInMarks p' r' = false) (ha : SE X EX Γ H0 E a l) (hb : SE X EX Γ H0 E b r) (hc : SE X EX Γ H0 E c r') :
    SE X EX Γ H0 E (.cmp2 o q a b c) (.Compare l [p, p'] [r, r'] pos) := fun ρ σ Hf H Q QV R w k => by
  cases like_c hp
  cases like_c hq
  exact mE.of (pe_chain mOp_ok mOp_ok (PE.m l) (PE.m r) (PE.m r') (by show behindInMarks _ _ = false; exact hm)) (cmp2_core hu ha hb hc (Q := fun c ρ2 => Q (.bl c) ρ2) R w fun c ρ2 Hf2 H2 R2 s t q => k _ ρ2 _ Hf2 H2 R2 s t (Rep.bl c) q)
theorem st_cmp2 (hu : X.A.units + 64 < cLine) {o q : COp} {a b c : Ex} {l r r' : Expr} {p p' : CmpOp} {pos : Pos} (hp : o.like p = true) (hq : q.like p' = true) (hm : behindInMarks p' r' = false) (ha : SE X EX Γ H0 E a l) (hb : SE X EX Γ H0 E b r) (hc : SE X EX Γ H0 E c r') :
    ST X EX Γ H0 E (.cmp2 o q a b c) (.Compare l [p, p'] [r, r'] pos) := fun ρ σ Hf H Q QB R w k => by
  cases like_c hp
  cases like_c hq
  exact mT.of (pt_chain mOp_ok mOp_ok (PE.m l) (PE.m r) (PE.m r') (by show behindInMarks _ _ = false; exact hm)) (cmp2_core hu ha hb hc (Q := Q) R w fun c ρ2 Hf2 H2 R2 s t q => ⟨c, rfl, k _ ρ2 Hf2 H2 R2 s t q⟩)
theorem se_ite {c a b : Ex} {t e f : Expr} {pos : Pos} (ek : EXok EX) (na : nb a = true) (nb' : nb b = true) (hc : ST X EX Γ H0 E c t) (ha : SE X EX Γ H0 E a e) (hb : SE X EX Γ H0 E b f) : SE X EX Γ H0 E (.ite c a b) (.IfExp t e f pos) := fun ρ σ Hf H Q QV R w k => by
  refine mE.of (pe_ifExp (PT.m t) (PE.m e) (PE.m f)) ?_
  refine hc ρ σ Hf H _ _ R w fun z ρ1 Hf1 H1 R1 s1 t1 w1 => ?_
  cases z with
  | true =>
    rw [if_pos rfl] at w1 ⊢
    refine ha ρ1 σ Hf1 H1 _ _ R1 w1 fun d2 ρ2 v2 Hf2 H2 R2 s2 t2 r2 w2 => ?_
    obtain ⟨Hf3, R3, s3, r3⟩ := r2.freeze (nb_md na) R2 ek
    exact k _ ρ2 _ Hf3 H2 R3 (s1.trans (s2.trans s3)) (t1.trans t2) r3 w2
  | false =>
    rw [if_neg Bool.false_ne_true] at w1 ⊢
    refine hb ρ1 σ Hf1 H1 _ _ R1 w1 fun d2 ρ2 v2 Hf2 H2 R2 s2 t2 r2 w2 => ?_
    obtain ⟨Hf3, R3, s3, r3⟩ := r2.freeze (nb_md nb') R2 ek
    exact k _ ρ2 _ Hf3 H2 R3 (s1.trans (s2.trans s3)) (t1.trans t2) r3 w2
theorem se_ix {a b : Ex} {e i : Expr} {pos : Pos} (hs : nslice i = true) (ha : SE X EX Γ H0 E a e) (hb : SE X EX Γ H0 E b i) : SE X EX Γ H0 E (.ix a b) (.Subscript e i pos) := fun ρ σ Hf H Q QV R w k => by
  refine mE.of (pe_ix mIx_ok (PE.m e) (PE.m i) (nsl_plain hs)) ?_
  refine ha ρ σ Hf H _ _ R w fun d1 ρ1 v1 Hf1 H1 R1 s1 t1 r1 w1 => ?_
  refine hb ρ1 σ Hf1 H1 _ _ R1 w1 fun d2 ρ2 v2 Hf2 H2 R2 s2 t2 r2 w2 => ?_
  exact ix_ok R2 (r1.toB.mono s2 t2) r2.toB w2 fun d v Hf3 H3 R3 s3 t3 r3 q => k d ρ2 v Hf3 H3 R3 (s1.trans (s2.trans s3)) (t1.trans (t2.trans t3)) r3 q
theorem se_tup (ek : EXok EX) {l : Exs} {es : List Expr} {x1 : Nat} {pos : Pos} (n : nbA l = true) (h : SA X EX Γ H0 E l es) : SE X EX Γ H0 E (.tup l) (.Tuple es x1 pos) := fun ρ σ Hf H Q QV R w k => by
  refine mE.of (pe_tup (PA.m es)) ?_
  refine h ρ σ Hf H _ _ R w fun ds ρ1 vs Hf1 H1 R1 s1 t1 _ r1 w1 => ?_
  have r := r1 n
  refine ⟨by rw [← r.length]; exact w1.1, fun p hp => ?_⟩
  have sn := same_new (R1.fresh hp) (.tup vs)
  exact k _ ρ1 _ (upd Hf1 p (.tup vs)) _ (R1.newF ek hp _) (s1.trans sn) (t1.trans (same_new hp _)) (Rep.tup (.of upd_same) (r.same sn)) w1.2
theorem se_lst (ek : EXok EX) {l : Exs} {es : List Expr} {pos : Pos} (n : nbA l = true) (h : SA X EX Γ H0 E l es) : SE X EX Γ H0 E (.lst l) (.List es pos) := fun ρ σ Hf H Q QV R w k => by
  refine mE.of (pe_lst (PA.m es)) ?_
  refine h ρ σ Hf H _ _ R w fun ds ρ1 vs Hf1 H1 R1 s1 t1 _ r1 w1 => ?_
  have r := r1 n
  refine ⟨by rw [← r.length]; exact w1.1, fun p hp => ?_⟩
  exact k _ ρ1 _ Hf1 _ (R1.newO ek hp _) s1 (t1.trans (same_new hp _)) (RepF.own (R1.ent.free hp) (R1.fresh hp) upd_same r (R1.notOwn hp)) w1.2
theorem se_call (ek : EXok EX) (hcm : C.calm = true) (c : Cok X xa Γ C sc) (tk : Takes X (lowW X.K EX H0 xa E)) {f : Nat} {l : Exs} {x : Str} {p pos : Pos} {e : Expr} {es : List Expr} (hx : x = C.nm f) (hg : gloB sc x = true) (hd : (x == ("__debug__" : Str)) = false) (hl : C.lv f ≤ C.k) (hf : f ∈ C.dep) (hck : ckA C sc l (e :: es) = true)
    (n : nbA l = true) (h : SA X EX Γ H0 E l (e :: es)) : SE X EX Γ H0 E (.call f l) (.Call (.Name x p) (e :: es) [] pos) := fun ρ σ Hf H Q QV R w k => by
  obtain ⟨fa, fd, ps, hm, hk, hb, F⟩ := c.fns f hf
  subst hx
  obtain ⟨z1, z2⟩ := ckA_star (env := X.env) (pos := pos) hck
  have ne : nst e = true := by
    cases l with
    | nil => cases hck
    | cons y l' => exact ((by simpa [ckA] using hck : (_ ∧ nst e = true) ∧ _).1).2
  have z3 : (backTo pos (starEach es X.env)).any (·.1) = false := by
    rw [star_cons ne] at z1
    simpa [backTo] using z1
  refine mE.of (pe_callS F ((c.room hcm).mono hl) (c.gl hg) hm hk hb (fun σ => passAt tk σ) (PA.m (e :: es)) hd (star_cons ne) z3) ?_
  refine h ρ σ Hf H _ _ R w fun ds ρ1 vs Hf1 H1 R1 s1 t1 _ r1 w1 => ?_
  refine ⟨ds, _, _, Hf1, R1.sub, r1 n, w1, fun d v Hf2 H2 a1 a2 a3 a4 r q => ?_, fun cl l' dd xs Hf2 H2 a1 a2 a3 a4 hn hx rx q => ?_⟩
  · exact k d ρ1 v Hf2 H2 (R1.grow ek a2 a1 a3 a4) (s1.trans a2) (t1.trans a1) r q
  · exact ⟨cl, l', dd, xs, ρ1, Hf2, rfl, rfl, R1.grow ek a2 a1 a3 a4, R1.ent.free hn, hx, rx, q⟩
end
end DL
/-! DJ: the rest of the expressions -/
namespace DL
open PySem PySem.Spec PyProof.Rows L2
theorem ckA_cons {C : Cn} {sc : Scope} {l : Exs} {e : Expr} {es : List Expr} (h : ckA C sc l (e :: es) = true) : ∃ x l', l = .cons x l' ∧ ck C sc x e = true ∧ nst e = true ∧ ckA C sc l' es = true := by
  cases l with
  | nil => cases h
  | cons x l' =>
    have h' : (ck C sc x e = true ∧ nst e = true) ∧ ckA C sc l' es = true := by simpa [ckA] using h
    exact ⟨x, l', rfl, h'.1.1, h'.1.2, h'.2⟩
theorem ckA_nil {C : Cn} {sc : Scope} {l : Exs} (h : ckA C sc l [] = true) : l = .nil := by
  cases l with
  | nil => rfl
  | cons x l' => cases h
theorem getK_val {K : PySem.W.Frag} {H : Hp} {j : Key} : ∀ {l : List (Key × D)} {xs : List (Key × V)}, RepK K H l xs → (getK l j = none → valV xs j = none) ∧ ∀ z, getK l j = some z → ∃ v, valV xs j = some v ∧ Rep K H z v
  | _, _, .nil => ⟨fun _ => rfl, fun z e => by cases e⟩
  | (k, d) :: l, (_, v) :: xs, .cons r t => by
    obtain ⟨i1, i2⟩ := getK_val (j := j) t
    by_cases e : k = j
    · have g : getK ((k, d) :: l) j = some d := by simp [getK, List.find?_cons, e]
      have u : valV ((k, v) :: xs) j = some v := valV_pos e
      rw [g, u]
      exact ⟨fun z => (by cases z), fun z q => (by cases q; exact ⟨v, rfl, r⟩)⟩
    · have g : getK ((k, d) :: l) j = getK l j := by simp [getK, List.find?_cons, e]
      have u : valV ((k, v) :: xs) j = valV xs j := valV_neg e
      rw [g, u]
      exact ⟨i1, i2⟩
theorem keyD_inv {K : PySem.W.Frag} {Hf H : Hp} {d : D} {x : V} {j : Key} (r : RepB K Hf H d x) (h : keyD d = some j) : x = kV j := by
  cases d with
  | int i => cases h; exact r.int_inv
  | str i => cases h; exact r.str_inv
  | _ => cases h
section
variable {X : Cx} {EX : EXT} {Γ : Gm} {H0 : Ent} {xa : Nat → Addr} {C : Cn} {sc : Scope} {E : DX → DEnv → Prop}
theorem sa_nil : SA X EX Γ H0 E .nil [] := fun ρ σ Hf H Q QA R w k => mA.of pa_nil (k [] ρ [] Hf H R (Same.refl _) (Same.refl _) .nil (fun _ => .nil) w)
theorem sa_cons (ek : EXok EX) {x : Ex} {l : Exs} {e : Expr} {es : List Expr} (ne : nst e = true) (hx : SE X EX Γ H0 E x e) (hl : SA X EX Γ H0 E l es) : SA X EX Γ H0 E (.cons x l) (e :: es) := fun ρ σ Hf H Q QA R w k => by
  refine mA.of (pa_cons (PE.m e) (PA.m es) (star_cons ne)) ?_
  refine hx ρ σ Hf H _ _ R w fun d1 ρ1 v1 Hf1 H1 R1 s1 t1 r1 w1 => ?_
  by_cases hb : nb x = true
  · obtain ⟨Hf1', R1', s1', r1'⟩ := r1.freeze (nb_md hb) R1 ek
    refine hl ρ1 σ Hf1' H1 _ _ R1' w1 fun ds ρ2 vs Hf2 H2 R2 s2 t2 rs rn w2 => ?_
    refine k (d1 :: ds) ρ2 (v1 :: vs) Hf2 H2 R2 (s1.trans (s1'.trans s2)) (t1.trans t2) (.cons (.sh (r1'.same s2)) rs) (fun n => .cons (r1'.same s2) (rn ?_)) w2
    have n' : (nb x && nbA l) = true := n
    exact (Bool.and_eq_true_iff.mp n').2
  · refine hl ρ1 σ Hf1 H1 _ _ R1 w1 fun ds ρ2 vs Hf2 H2 R2 s2 t2 rs rn w2 => ?_
    refine k (d1 :: ds) ρ2 (v1 :: vs) Hf2 H2 R2 (s1.trans s2) (t1.trans t2) (.cons (r1.toB.mono s2 t2) rs) (fun n => ?_) w2
    have n' : (nb x && nbA l) = true := n
    exact absurd (Bool.and_eq_true_iff.mp n').1 hb
def SO (X : Cx) (EX : EXT) (Γ : Gm) (H0 : Ent) (E : DX → DEnv → Prop) (l : Exs) (o : Option Expr) : Prop := ∃ to, PO X o to ∧ ∀ (ρ : DEnv) (σ : L2.St) (Hf H : Hp) (Q : Option Int → DEnv → Prop) (QO : Option Int → Hp → Prop), SR X.K EX H0 ρ σ Hf H → wO Γ E l ρ Q →
  (∀ i ρ' Hf' H', SR X.K EX H0 ρ' σ Hf' H' → Same Hf Hf' → Same H H' → Q i ρ' → QO i H') → to σ H QO
theorem so_none : SO X EX Γ H0 E .nil none := ⟨_, po_none, fun ρ σ Hf H Q QO R w k => k none ρ Hf H R (Same.refl _) (Same.refl _) w⟩
theorem so_some {x : Ex} {e : Expr} (hx : SE X EX Γ H0 E x e) : SO X EX Γ H0 E (.cons x .nil) (some e) := ⟨_, po_some (PE.m e), fun ρ σ Hf H Q QO R w k => by
  refine hx ρ σ Hf H _ _ R w fun d1 ρ1 v1 Hf1 H1 R1 s1 t1 r1 w1 => ?_
  split at w1
  · cases r1.toB.int_inv
    exact ⟨_, rfl, k _ ρ1 Hf1 H1 R1 s1 t1 w1⟩
  · exact w1.elim⟩
theorem se_sl (ek : EXok EX) {a : Ex} {lo hi : Exs} {e : Expr} {l u : Option Expr} {p2 pos : Pos} (ha : SE X EX Γ H0 E a e) (hl : SO X EX Γ H0 E lo l) (hu : SO X EX Γ H0 E hi u) : SE X EX Γ H0 E (.sl a lo hi) (.Subscript e (.Slice l u none p2) pos) := fun ρ σ Hf H Q QV R w k => by
  obtain ⟨tl, pl, kl⟩ := hl
  obtain ⟨tu, pu, ku⟩ := hu
  refine mE.of (pe_slice mSl_ok (PE.m e) pl pu) ?_
  refine ha ρ σ Hf H _ _ R w fun d1 ρ1 v1 Hf1 H1 R1 s1 t1 r1 w1 => ?_
  refine kl ρ1 σ Hf1 H1 _ _ R1 w1 fun i ρ2 Hf2 H2 R2 s2 t2 w2 => ?_
  refine ku ρ2 σ Hf2 H2 _ _ R2 w2 fun j ρ3 Hf3 H3 R3 s3 t3 w3 => ?_
  exact sl_ok ek R3 (r1.toB.mono (s2.trans s3) (t2.trans t3)) w3 fun d v Hf4 H4 R4 s4 t4 r4 q => k d ρ3 v Hf4 H4 R4 (s1.trans (s2.trans (s3.trans s4))) (t1.trans (t2.trans (t3.trans t4))) r4 q
theorem bi_boot (f : Bi) : bootBuiltins f.nm = some f.val ∧ f.nm ∈ bltNames ∧ f.nm ≠ "__name__" ∧ (f.nm == ("__debug__" : Str)) = false := by
  cases f <;> exact ⟨by decide +kernel, by decide +kernel, by decide +kernel, by decide +kernel⟩
theorem args_plain {l : Exs} {e : Expr} {es : List Expr} {env : Env} {pos : Pos} (h : ckA C sc l (e :: es) = true) : starEach (e :: es) env = (false, eval e env) :: starEach es env ∧ (backTo pos (starEach es env)).any (·.1) = false := by
  obtain ⟨x, l', rfl, _, ne, h'⟩ := ckA_cons h
  exact ⟨star_cons ne, (ckA_star h').1⟩
theorem se_bi (ek : EXok EX) (c : Cok X xa Γ C sc) {f : Bi} {l : Exs} {x : Str} {p pos : Pos} {e : Expr} {es : List Expr} (hcm : C.calm = true) (hx : x = f.nm) (hg : gloB sc x = true) (hck : ckA C sc l (e :: es) = true) (h : SA X EX Γ H0 E l (e :: es)) :
    SE X EX Γ H0 E (.bi f l) (.Call (.Name x p) (e :: es) [] pos) := fun ρ σ Hf H Q QV R w k => by
  subst hx
  obtain ⟨b1, b2, b3, b4⟩ := bi_boot f
  obtain ⟨z1, z2⟩ := args_plain (env := X.env) (pos := pos) hck
  have goal : mE X (.Call (.Name f.nm p) (e :: es) [] pos) σ H QV ∨ True := .inr trivial
  have rd : tCB (mCa X f.val) (mA X (e :: es)) σ H QV := by
    refine h ρ σ Hf H _ _ R w fun ds ρ1 vs Hf1 H1 R1 s1 t1 rs _ w1 => ?_
    exact bi_ok ek (c.calm hcm) R1 rs w1 fun d v Hf2 H2 R2 s2 t2 r2 q => k d ρ1 v Hf2 H2 R2 (s1.trans s2) (t1.trans t2) r2 q
  have hm := c.blt _ b2
  have hgl := c.gl hg
  cases f <;> first
    | exact mE.of (pe_callB mCa_ok hgl hm b1 (PA.m (e :: es)) b3 b4 z1 z2) rd
    | exact mE.of (pe_callTy mCa_ok hgl hm b1 (PA.m (e :: es)) b3 b4 z1 z2) rd
theorem me_facts (m : Me) : ∃ id, Slot "str" m.nm id ∧ typeOf (.builtin id) = pure (.type "method_descriptor") ∧ id = m.id := by
  cases m
  · exact ⟨_, PySem.F.slot_str_startswith, PySem.F.type_str_startswith, rfl⟩
  · exact ⟨_, PySem.F.slot_str_startswith, PySem.F.type_str_startswith, rfl⟩
  · exact ⟨_, PySem.F.slot_str_join, PySem.F.type_str_join, rfl⟩
  · exact ⟨_, PySem.F.slot_str_strip, PySem.F.type_str_strip, rfl⟩
  · exact ⟨_, PySem.F.slot_str_split, PySem.F.type_str_split, rfl⟩
theorem se_me (ek : EXok EX) {m : Me} {l : Exs} {o : Ex} {oe e : Expr} {es : List Expr} {ap p : Pos} (hs : nsup oe = true) (hck : ckA C sc l (e :: es) = true) (hl : (ap.endLine == p.line) = true) (hn : es.length < 20) (ho : SE X EX Γ H0 E o oe) (h : SA X EX Γ H0 E l (e :: es)) :
    SE X EX Γ H0 E (.me m o l) (.Call (.Attribute oe m.nm ap) (e :: es) [] p) := fun ρ σ Hf H Q QV R w k => by
  obtain ⟨id, sl, ty, hid⟩ := me_facts m
  obtain ⟨z1, z2⟩ := args_plain (env := X.env) (pos := p) hck
  obtain ⟨_, z3⟩ := ckA_star (env := X.env) (pos := p) hck
  have few : ((backTo p (starEach (e :: es) X.env)).all (fun x => !x.1) && (backToKw p (keywordEach [] X.env)).all (fun x => x.1.isSome)
      && decide ((e :: es).length + ([] : List Keyword).length + (if ([] : List Keyword).isEmpty then 0 else 1) < 30)) = true := by
    rw [z3]
    have : (e :: es).length + ([] : List Keyword).length + (if ([] : List Keyword).isEmpty then 0 else 1) < 30 := by
      simp only [List.length_cons, List.length_nil, List.isEmpty_nil, if_true]
      omega
    rw [decide_eq_true this]
    rfl
  refine mE.of (pe_bm PySem.F.plainAttrs_str sl ty mMt_ok (PE.m oe) (PA.m (e :: es)) (nsup_base hs) few hl z1 z2) ?_
  refine ho ρ σ Hf H _ _ R w fun d1 ρ1 v1 Hf1 H1 R1 s1 t1 r1 w1 => ?_
  split at w1
  · rw [r1.toB.str_inv]
    refine ⟨rfl, ?_⟩
    refine h ρ1 σ Hf1 H1 _ _ R1 w1 fun ds ρ2 vs Hf2 H2 R2 s2 t2 rs _ w2 => ?_
    subst hid
    refine me_ok ek R2 (.sh (.str _)) rs w2 fun d v Hf3 H3 R3 s3 t3 r3 q => k d ρ2 v Hf3 H3 R3 (s1.trans (s2.trans s3)) (t1.trans (t2.trans t3)) r3 q
  · exact w1.elim
theorem se_dget (hu : X.A.units + 64 < cLine) {d k : Ex} {e i : Expr} {pos : Pos} (hs : nslice i = true) (hd : SE X EX Γ H0 E d e) (hk : SE X EX Γ H0 E k i) : SE X EX Γ H0 E (.dget d k) (.Subscript e i pos) := fun ρ σ Hf H Q QV R w kk => by
  refine mE.of (pe_dget (by omega) (PE.m e) (PE.m i) (nsl_plain hs)) ?_
  refine hd ρ σ Hf H _ _ R w fun d1 ρ1 v1 Hf1 H1 R1 s1 t1 r1 w1 => ?_
  refine hk ρ1 σ Hf1 H1 _ _ R1 w1 fun d2 ρ2 v2 Hf2 H2 R2 s2 t2 r2 w2 => ?_
  split at w2
  · obtain ⟨j, z, e1, e2, q⟩ := w2
    obtain ⟨a, xs, rfl, hr, rk⟩ := (r1.toB.mono s2 t2).dct_inv R2.sub
    obtain ⟨v, e3, rv⟩ := (getK_val (j := j) rk).2 z e2
    exact ⟨a, v, rfl, .inl ⟨xs, j, hr, keyD_inv r2.toB e1, e3.symm⟩, kk z ρ2 v Hf2 H2 R2 (s1.trans s2) (t1.trans t2) rv q⟩
  · exact w2.elim
theorem getK_some {K : PySem.W.Frag} {H : Hp} {j : Key} {l : List (Key × D)} {xs : List (Key × V)} (r : RepK K H l xs) : (valV xs j).isSome = (getK l j).isSome := by
  obtain ⟨h1, h2⟩ := getK_val (j := j) r
  cases e : getK l j with
  | none => rw [h1 e]; rfl
  | some z =>
    obtain ⟨v, e2, _⟩ := h2 z e
    rw [e2]; rfl
theorem din_core {d k : Ex} {l r : Expr} (hk : SE X EX Γ H0 E k l) (hd : SE X EX Γ H0 E d r) {neg : Bool} {ρ : DEnv} {σ : L2.St} {Hf H : Hp} {Q : Bool → DEnv → Prop} {QV : VK} (R : SR X.K EX H0 ρ σ Hf H)
    (w : wE Γ E k ρ fun y ρ1 => wE Γ E d ρ1 fun x ρ2 => match x with
    | .dct l => ∃ j, keyD y = some j ∧ Q (if neg = true then !(getK l j).isSome else (getK l j).isSome) ρ2
    | _ => False) (kk : ∀ c ρ2 Hf2 H2, SR X.K EX H0 ρ2 σ Hf2 H2 → Same Hf Hf2 → Same H H2 → Q c ρ2 → QV (.bl c) H2) :
    (if neg = true then tDNotIn (mE X l) (mE X r) else tDIn (mE X l) (mE X r)) σ H QV := by
  have main : mE X l σ H fun y H1 => mE X r σ H1 fun x H2 => ∃ a o, x = .ref a ∧ DGet H2 a y o ∧ QV (.bl (if neg = true then !o.isSome else o.isSome)) H2 := by
    refine hk ρ σ Hf H _ _ R w fun d1 ρ1 v1 Hf1 H1 R1 s1 t1 r1 w1 => ?_
    refine hd ρ1 σ Hf1 H1 _ _ R1 w1 fun d2 ρ2 v2 Hf2 H2 R2 s2 t2 r2 w2 => ?_
    split at w2
    · obtain ⟨j, e1, q⟩ := w2
      obtain ⟨a, xs, rfl, hr, rk⟩ := r2.toB.dct_inv R2.sub
      refine ⟨a, valV xs j, rfl, .inl ⟨xs, j, hr, keyD_inv (r1.toB.mono s2 t2) e1, rfl⟩, ?_⟩
      rw [getK_some rk]
      exact kk _ ρ2 Hf2 H2 R2 (s1.trans s2) (t1.trans t2) q
    · exact w2.elim
  cases neg with
  | true => rw [if_pos rfl]; simpa only [tDNotIn, if_true] using main
  | false => rw [if_neg Bool.false_ne_true]; simpa only [tDIn, if_neg Bool.false_ne_true, Bool.false_eq_true, if_false] using main
theorem se_din (hu : X.A.units + 64 < cLine) {d k : Ex} {l r : Expr} {pos : Pos} (hm : behindInMarks .In r = false) (hk : SE X EX Γ H0 E k l) (hd : SE X EX Γ H0 E d r) : SE X EX Γ H0 E (.din k d) (.Compare l [.In] [r] pos) := fun ρ σ Hf H Q QV R w kk =>
  mE.of (pe_cmp (pc_din (by omega) (PE.m l) (PE.m r)) hm) (din_core (neg := false) hk hd (Q := fun c ρ2 => Q (.bl c) ρ2) R w fun c ρ2 Hf2 H2 R2 s t q => kk _ ρ2 _ Hf2 H2 R2 s t (Rep.bl c) q)
theorem se_dnin (hu : X.A.units + 64 < cLine) {d k : Ex} {l r : Expr} {pos : Pos} (hm : behindInMarks .NotIn r = false) (hk : SE X EX Γ H0 E k l) (hd : SE X EX Γ H0 E d r) : SE X EX Γ H0 E (.dnin k d) (.Compare l [.NotIn] [r] pos) := fun ρ σ Hf H Q QV R w kk =>
  mE.of (pe_cmp (pc_dnotin (by omega) (PE.m l) (PE.m r)) hm) (din_core (neg := true) hk hd (Q := fun c ρ2 => Q (.bl c) ρ2) R w fun c ρ2 Hf2 H2 R2 s t q => kk _ ρ2 _ Hf2 H2 R2 s t (Rep.bl c) q)
theorem st_din (hu : X.A.units + 64 < cLine) {d k : Ex} {l r : Expr} {pos : Pos} (hm : behindInMarks .In r = false) (hk : SE X EX Γ H0 E k l) (hd : SE X EX Γ H0 E d r) : ST X EX Γ H0 E (.din k d) (.Compare l [.In] [r] pos) := fun ρ σ Hf H Q QB R w kk =>
  mT.of (pt_cmp (pc_din (by omega) (PE.m l) (PE.m r)) hm) (din_core (neg := false) hk hd (Q := Q) R w fun c ρ2 Hf2 H2 R2 s t q => ⟨c, rfl, kk _ ρ2 Hf2 H2 R2 s t q⟩)
theorem st_dnin (hu : X.A.units + 64 < cLine) {d k : Ex} {l r : Expr} {pos : Pos} (hm : behindInMarks .NotIn r = false) (hk : SE X EX Γ H0 E k l) (hd : SE X EX Γ H0 E d r) : ST X EX Γ H0 E (.dnin k d) (.Compare l [.NotIn] [r] pos) := fun ρ σ Hf H Q QB R w kk =>
  mT.of (pt_cmp (pc_dnotin (by omega) (PE.m l) (PE.m r)) hm) (din_core (neg := true) hk hd (Q := Q) R w fun c ρ2 Hf2 H2 R2 s t q => ⟨c, rfl, kk _ ρ2 Hf2 H2 R2 s t q⟩)
theorem plain_true {e : Expr} {env : Env} (h : plainT e = true) : ∀ whole, isTrue e env whole = (do let v ← whole; standAt e.pos; holding [v] (truthy v)) := fun whole => by
  cases e <;> first | rfl | (cases h; done) | skip
  rename_i op x pos
  cases op <;> first | rfl | cases h
theorem st_tr {x : Ex} {e : Expr} (hp : plainT e = true) (hx : SE X EX Γ H0 E x e) : ST X EX Γ H0 E (.tr x) e := fun ρ σ Hf H Q QB R w kk => by
  refine mT.of (pt_truth (PE.m e) (plain_true hp)) ?_
  refine hx ρ σ Hf H _ _ R w fun d1 ρ1 v1 Hf1 H1 R1 s1 t1 r1 w1 => ?_
  exact tru_ok' R1 r1.toB w1 fun c q => kk c ρ1 Hf1 H1 R1 s1 t1 q
theorem st_not {x : Ex} {e : Expr} {pos : Pos} (hx : ST X EX Γ H0 E x e) : ST X EX Γ H0 E (.not x) (.UnaryOp .Not e pos) := fun ρ σ Hf H Q QB R w kk => by
  refine mT.of (pt_not (PT.m e)) ?_
  exact hx ρ σ Hf H _ _ R w fun b ρ1 Hf1 H1 R1 s1 t1 w1 => kk _ ρ1 Hf1 H1 R1 s1 t1 w1
/-- a row of tests -/
def SL (X : Cx) (EX : EXT) (Γ : Gm) (H0 : Ent) (E : DX → DEnv → Prop) (op : BoolOp) (l : Exs) (es : List Expr) : Prop := ∀ (a : Ex) (e : Expr) (pos : Pos), ST X EX Γ H0 E a e → ∀ (ρ : DEnv) (σ : L2.St) (Hf H : Hp) (Q : Bool → DEnv → Prop) (QB : Bool → Hp → Prop), SR X.K EX H0 ρ σ Hf H →
  (match op with
  | .And => wT Γ E a ρ fun k ρ1 => if k = true then wTall Γ E l ρ1 Q else Q false ρ1
  | .Or => wT Γ E a ρ fun k ρ1 => if k = true then Q true ρ1 else wTany Γ E l ρ1 Q) →
  (∀ b ρ' Hf' H', SR X.K EX H0 ρ' σ Hf' H' → Same Hf Hf' → Same H H' → Q b ρ' → QB b H') → mW X (.BoolOp op (e :: es) pos) σ H QB
theorem sl_nil {op : BoolOp} : SL X EX Γ H0 E op .nil [] := fun a e pos ha ρ σ Hf H Q QB R w kk => by
  cases op with
  | And =>
    refine mW.of (pw_and1 (PT.m e)) ?_
    refine ha ρ σ Hf H _ _ R w fun b ρ1 Hf1 H1 R1 s1 t1 w1 => kk b ρ1 Hf1 H1 R1 s1 t1 ?_
    cases b with
    | true => rw [if_pos rfl] at w1; exact w1
    | false => rw [if_neg Bool.false_ne_true] at w1; exact w1
  | Or =>
    refine mW.of (pw_or1 (PT.m e)) ?_
    refine ha ρ σ Hf H _ _ R w fun b ρ1 Hf1 H1 R1 s1 t1 w1 => kk b ρ1 Hf1 H1 R1 s1 t1 ?_
    cases b with
    | true => rw [if_pos rfl] at w1; exact w1
    | false => rw [if_neg Bool.false_ne_true] at w1; exact w1
theorem sl_cons {op : BoolOp} {b : Ex} {l : Exs} {f : Expr} {es : List Expr} (hb : ST X EX Γ H0 E b f) (hl : SL X EX Γ H0 E op l es) : SL X EX Γ H0 E op (.cons b l) (f :: es) := fun a e pos ha ρ σ Hf H Q QB R w kk => by
  cases op with
  | And =>
    refine mW.of (pw_and (PT.m e) (PW.m _)) ?_
    refine ha ρ σ Hf H _ _ R w fun c ρ1 Hf1 H1 R1 s1 t1 w1 => ?_
    cases c with
    | true =>
      rw [if_pos rfl] at w1 ⊢
      exact hl b f pos hb ρ1 σ Hf1 H1 _ _ R1 w1 fun c ρ2 Hf2 H2 R2 s2 t2 w2 => kk c ρ2 Hf2 H2 R2 (s1.trans s2) (t1.trans t2) w2
    | false =>
      rw [if_neg Bool.false_ne_true] at w1 ⊢
      exact kk _ ρ1 Hf1 H1 R1 s1 t1 w1
  | Or =>
    refine mW.of (pw_or (PT.m e) (PW.m _)) ?_
    refine ha ρ σ Hf H _ _ R w fun c ρ1 Hf1 H1 R1 s1 t1 w1 => ?_
    cases c with
    | true =>
      rw [if_pos rfl] at w1 ⊢
      exact kk _ ρ1 Hf1 H1 R1 s1 t1 w1
    | false =>
      rw [if_neg Bool.false_ne_true] at w1 ⊢
      exact hl b f pos hb ρ1 σ Hf1 H1 _ _ R1 w1 fun c ρ2 Hf2 H2 R2 s2 t2 w2 => kk c ρ2 Hf2 H2 R2 (s1.trans s2) (t1.trans t2) w2
theorem st_and {a : Ex} {l : Exs} {e : Expr} {es : List Expr} {pos : Pos} (ha : ST X EX Γ H0 E a e) (hl : SL X EX Γ H0 E .And l es) : ST X EX Γ H0 E (.and a l) (.BoolOp .And (e :: es) pos) := fun ρ σ Hf H Q QB R w kk =>
  mT.of (PW.m (X := X) (.BoolOp .And (e :: es) pos)).pt (hl a e pos ha ρ σ Hf H Q QB R w kk)
theorem st_or {a : Ex} {l : Exs} {e : Expr} {es : List Expr} {pos : Pos} (ha : ST X EX Γ H0 E a e) (hl : SL X EX Γ H0 E .Or l es) : ST X EX Γ H0 E (.or a l) (.BoolOp .Or (e :: es) pos) := fun ρ σ Hf H Q QB R w kk =>
  mT.of (PW.m (X := X) (.BoolOp .Or (e :: es) pos)).pt (hl a e pos ha ρ σ Hf H Q QB R w kk)
/-- a row of values -/
def SV (X : Cx) (EX : EXT) (Γ : Gm) (H0 : Ent) (E : DX → DEnv → Prop) (op : BoolOp) (l : Exs) (es : List Expr) : Prop := ∀ (a : Ex) (e : Expr) (pos : Pos), nb a = true → SE X EX Γ H0 E a e → ∀ (ρ : DEnv) (σ : L2.St) (Hf H : Hp) (Q : D → DEnv → Prop) (QV : VK), SR X.K EX H0 ρ σ Hf H →
  (match op with
  | .And => wE Γ E a ρ fun x ρ1 => wAnd Γ E x l ρ1 Q
  | .Or => wE Γ E a ρ fun x ρ1 => wOr Γ E x l ρ1 Q) →
  (∀ d ρ' v Hf' H', SR X.K EX H0 ρ' σ Hf' H' → Same Hf Hf' → Same H H' → Rep X.K Hf' d v → Q d ρ' → QV v H') → mE X (.BoolOp op (e :: es) pos) σ H QV
theorem sv_nil (ek : EXok EX) {op : BoolOp} : SV X EX Γ H0 E op .nil [] := fun a e pos na ha ρ σ Hf H Q QV R w kk => by
  refine mE.of (pe_one (PE.m e)) ?_
  cases op <;>
  · refine ha ρ σ Hf H _ _ R w fun d1 ρ1 v1 Hf1 H1 R1 s1 t1 r1 w1 => ?_
    obtain ⟨Hf2, R2, s2, r2⟩ := r1.freeze (nb_md na) R1 ek
    exact kk d1 ρ1 v1 Hf2 H1 R2 (s1.trans s2) t1 r2 w1
theorem sv_cons {op : BoolOp} {b : Ex} {l : Exs} {f : Expr} {es : List Expr} (nb' : nb b = true) (hb : SE X EX Γ H0 E b f) (hl : SV X EX Γ H0 E op l es) : SV X EX Γ H0 E op (.cons b l) (f :: es) := fun a e pos na ha ρ σ Hf H Q QV R w kk => by
  cases op with
  | And =>
    refine mE.of (pe_and (PE.m e) (PE.m _)) ?_
    refine ha ρ σ Hf H _ _ R w fun d1 ρ1 v1 Hf1 H1 R1 s1 t1 r1 w1 => ?_
    cases d1 with
    | bl c =>
      refine ⟨c, r1.toB.bl_inv, ?_⟩
      have w1' : if c = true then wE Γ E b ρ1 (fun y ρ2 => wAnd Γ E y l ρ2 Q) else Q (.bl false) ρ1 := w1
      cases c with
      | true =>
        rw [if_pos rfl] at w1' ⊢
        exact hl b f pos nb' hb ρ1 σ Hf1 H1 _ _ R1 w1' fun d ρ2 v Hf2 H2 R2 s2 t2 r2 w2 => kk d ρ2 v Hf2 H2 R2 (s1.trans s2) (t1.trans t2) r2 w2
      | false =>
        rw [if_neg Bool.false_ne_true] at w1' ⊢
        exact kk _ ρ1 _ Hf1 H1 R1 s1 t1 (.bl false) w1'
    | _ => exact (show False from w1).elim
  | Or =>
    refine mE.of (pe_or (PE.m e) (PE.m _)) ?_
    refine ha ρ σ Hf H _ _ R w fun d1 ρ1 v1 Hf1 H1 R1 s1 t1 r1 w1 => ?_
    cases d1 with
    | bl c =>
      refine ⟨c, r1.toB.bl_inv, ?_⟩
      have w1' : if c = true then Q (.bl true) ρ1 else wE Γ E b ρ1 (fun y ρ2 => wOr Γ E y l ρ2 Q) := w1
      cases c with
      | true =>
        rw [if_pos rfl] at w1' ⊢
        exact kk _ ρ1 _ Hf1 H1 R1 s1 t1 (.bl true) w1'
      | false =>
        rw [if_neg Bool.false_ne_true] at w1' ⊢
        exact hl b f pos nb' hb ρ1 σ Hf1 H1 _ _ R1 w1' fun d ρ2 v Hf2 H2 R2 s2 t2 r2 w2 => kk d ρ2 v Hf2 H2 R2 (s1.trans s2) (t1.trans t2) r2 w2
    | _ => exact (show False from w1).elim
theorem se_and {a : Ex} {l : Exs} {e : Expr} {es : List Expr} {pos : Pos} (na : nb a = true) (ha : SE X EX Γ H0 E a e) (hl : SV X EX Γ H0 E .And l es) : SE X EX Γ H0 E (.and a l) (.BoolOp .And (e :: es) pos) := fun ρ σ Hf H Q QV R w kk => hl a e pos na ha ρ σ Hf H Q QV R w kk
theorem se_or {a : Ex} {l : Exs} {e : Expr} {es : List Expr} {pos : Pos} (na : nb a = true) (ha : SE X EX Γ H0 E a e) (hl : SV X EX Γ H0 E .Or l es) : SE X EX Γ H0 E (.or a l) (.BoolOp .Or (e :: es) pos) := fun ρ σ Hf H Q QV R w kk => hl a e pos na ha ρ σ Hf H Q QV R w kk
end
end DL
/-! DRV: x[::-1] of lists and tuples -/
namespace DL
open PySem PySem.Spec PySem.Calls PyProof.Rows L2
section
variable {prog : Program} {w : World} {A : Around} {E : Value → Shared → Prop} {s : Shared}
theorem applied_rv {sl : Addr} {vl vu vs : Value} {n : Nat} {Q : Int × Int × Nat → Shared → Prop} (hs : s.heap.IsSliceOf sl vl vu vs) (pl : IsPart vl none) (pu : IsPart vu none) (ps : IsPart vs (some (-1)))
    (h : Q ((n : Int) - 1, -1, n) s) : wpAny (model prog w) A (Builtin.Slice.sliceApplied (.ref sl) (pure (n : Int))) Q E s := by
  obtain ⟨os, hos, hcs, hds⟩ := id hs
  unfold Builtin.Slice.sliceApplied Builtin.Slice.sliceFields
  refine wpAny_bind (wpAny_bind (wpAny_field hos hds (x := vl) rfl (wpAny_bind (wpAny_field hos hds (x := vu) rfl (wpAny_bind (wpAny_field hos hds (x := vs) rfl (wpAny_pure ?_)))))))
  refine wpAny_bind (HT.slicePart_ ps ?_)
  show wpAny _ _ (if ((-1 : Int) == 0) = true then _ else _) _ _ s
  rw [if_neg (by decide)]
  refine wpAny_bind (HT.slicePart_ pl (wpAny_bind (HT.slicePart_ pu (wpAny_bind (wpAny_pure ?_)))))
  show wpAny _ _ (pure ((n : Int) - 1, (-1 : Int), Builtin.Slice.slicePlaces ((n : Int) - 1) (-1) (-1))) _ _ s
  have e : Builtin.Slice.slicePlaces ((n : Int) - 1) (-1) (-1) = n := by
    unfold Builtin.Slice.slicePlaces
    rw [if_neg (by decide)]
    by_cases k : (n : Int) - 1 > -1
    · rw [if_pos k, show (- -1 : Int) = 1 by decide, Int.ediv_one]; omega
    · rw [if_neg k]; omega
  rw [e]
  exact wpAny_pure h
theorem pick_rv (xs : Array Value) : ((List.range xs.size).filterMap fun (m : Nat) => xs[((xs.size : Int) - 1 + (m : Int) * (-1)).toNat]?).toArray = xs.toList.reverse.toArray := by
  have e : ((List.range xs.size).filterMap fun (m : Nat) => xs[((xs.size : Int) - 1 + (m : Int) * (-1)).toNat]?) = ((List.range xs.size).map fun k => xs.size - 1 - k).filterMap (xs[·]?) := by
    rw [List.filterMap_map]
    congr 1
    funext m
    have : ((xs.size : Int) - 1 + (m : Int) * (-1)).toNat = xs.size - 1 - m := by omega
    rw [this]
    rfl
  rw [e, PySem.W.krv_range, List.filterMap_reverse, PySem.W.krv_all]
theorem getItem_tuple_rv {t sl : Addr} {items : Array Value} {vl vu vs : Value} {Q : Value → Shared → Prop} (ht : IsTup s.heap t items) (hs : s.heap.IsSliceOf sl vl vu vs) (pl : IsPart vl none) (pu : IsPart vu none) (ps : IsPart vs (some (-1)))
    (h : Q (.ref s.heap.objs.size) { s with heap := s.heap.push { cls := .type "tuple", data := .seq items.toList.reverse.toArray } })
    (hsz : items.size ≤ sizeLine) : wpAny (model prog w) A (getItem (.ref t) (.ref sl)) Q E s := by
  have htake : sizeOk (.seq items.toList.reverse.toArray) := by
    show items.toList.reverse.toArray.size ≤ sizeLine
    rw [List.size_toArray, List.length_reverse, Array.length_toList]
    exact hsz
  obtain ⟨os, hos, hcs, hds⟩ := id hs
  have hTs : s.TypeIs (.ref sl) "slice" := ⟨os, hos, hcs⟩
  unfold getItem
  try with_reducible refine wpAny_holding ?_
  first | refine wpAny_bind (wpAny_pure ?_) | skip
  refine wpAny_bind (wpAny_sequenceKey ht.typeIs (by decide) ?_)
  refine wpAny_bind (wpAny_callSpecial?_slot (name := Str.ofString "__getitem__") ht.typeIs PyProof.Rows.slot_tuple_getitem
    (wpAny_call_entry PyProof.Rows.slot_tuple_getitem ht.typeIs PyProof.Rows.entry_tuple_getitem ?_ (PyProof.Rows.args_tuple_getitem _ _)))
  show wpAny _ _ (Builtin.Tuple.tupleItemsOf (.ref t) >>= _) _ _ s
  refine wpAny_bind (PyProof.Rows.tupleItemsOf_ ht ?_)
  refine wpAny_bind (wpAny_typeOf hTs ?_)
  rw [if_pos (by decide)]
  refine wpAny_bind (applied_rv hs pl pu ps ?_)
  have hno : ¬ (((items.size : Int) - 1 == 0 && (-1 : Int) == 1 && items.size == items.size) = true) := by
    intro q
    rw [Bool.and_eq_true, Bool.and_eq_true] at q
    exact absurd q.1.2 (by decide)
  show wpAny _ _ (if ((items.size : Int) - 1 == 0 && (-1 : Int) == 1 && items.size == items.size) = true then _ else _) _ _ s
  rw [if_neg hno, pick_rv]
  first
    | exact wpAny_bind (m := Builtin.Tuple.tupleExact _) (wpAny_newObj_type (wpAny_pure ⟨_, rfl, wpAny_pure h⟩) htake)
    | exact wpAny_bind (m := Builtin.Tuple.tupleExact _) (wpAny_newObj_type (wpAny_bind (wpAny_pure (wpAny_pure ⟨_, rfl, wpAny_pure h⟩))) htake)
    | exact wpAny_bind (wpAny_bind (m := Builtin.Tuple.tupleExact _) (wpAny_newObj_type (wpAny_pure (wpAny_pure ⟨_, rfl, wpAny_pure h⟩)) htake))
    | exact wpAny_bind (wpAny_bind (m := Builtin.Tuple.tupleExact _) (wpAny_newObj_type (wpAny_pure ⟨_, rfl, wpAny_pure h⟩) htake))
end
/-- x[::-1] -/
def tRv (K : PySem.W.Frag) (te : TE) : TE := fun σ H Q => te σ H fun x H1 => ∃ a xs, x = .ref a ∧ ((SqL K H1 a xs ∧ ∀ p, H1 p = none → Q (.ref p) (upd H1 p (.lst xs.reverse))) ∨ (SqT K H1 a xs ∧ ∀ p, H1 p = none → Q (.ref p) (upd H1 p (.tup xs.reverse))))
theorem pe_rv {X : Cx} {e : Expr} {te : TE} {k : Nat} {p1 p2 p3 pos : Pos} (he : PE X e te) : PE X (.Subscript e (.Slice none none (some (.UnaryOp .USub (.Constant (.int 1) k p1) p2)) p3) pos) (tRv X.K te) := by
  refine ⟨fun pins s σ H Q I h => ?_⟩
  refine Subscript_ (thn (he.run pins s σ H _ I h) fun v s1 ⟨x, H1, I1, r1, q1⟩ => ?_)
  obtain ⟨a, xs, ex, hx⟩ := q1
  subst ex
  cases r1
  have hst : PO X (some (.UnaryOp .USub (.Constant (.int 1) k p1) p2)) (tPart (tUn (rU fun i => .int (-i)) (tC (.int 1)))) := po_some (pe_un un_neg pe_int)
  refine wpAny_Slice (thn (po_none.run pins s1 σ H1 (fun o H2 => o = none ∧ H2 = H1) I1 ⟨rfl, rfl⟩) fun vl s2 ⟨l, H2, I2, pl, el, e2⟩ => ?_)
  subst el e2
  refine thn (po_none.run pins s2 σ H2 (fun o H3 => o = none ∧ H3 = H2) I2 ⟨rfl, rfl⟩) fun vu s3 ⟨u, H3, I3, pu, eu, e3⟩ => ?_
  subst eu e3
  refine thn (hst.run pins s3 σ H3 (fun o H4 => o = some (-1) ∧ H4 = H3) I3 ⟨1, rfl, -1, rfl, rfl, rfl⟩) fun vs s4 ⟨o, H4, I4, ps, eo, e4⟩ => ?_
  subst eo e4
  have I5 : Inv X pins σ H4 { s4 with heap := s4.heap.push { cls := .type "slice", data := .fields #[vl, vu, vs] } } := I4.kept (t' := s4.toks) fun b ob q => Heap.get?_push_of_some _ q
  show wpAny (model X.prog X.w) X.A (subscriptTail e (.Slice none none (some (.UnaryOp .USub (.Constant (.int 1) k p1) p2)) p3) (.ref a) (.ref s4.heap.objs.size)) (EP X pins σ Q) X.xe { s4 with heap := s4.heap.push { cls := .type "slice", data := .fields #[vl, vu, vs] } }
  rcases hx with ⟨hx, q⟩ | ⟨hx, q⟩
  · obtain ⟨its, r, ht, hz⟩ := I5.list hx
    have hlen := r.length
    refine tail_any (ops := [.ref a, .ref s4.heap.objs.size]) ht.isList.typeIs (PySem.slot_list_getitem.lookup) ?_ (by with_unfolding_all rfl)
    refine wpAny_getItem_list_slice ht.isList (Heap.IsSliceOf.new _ vl vu vs) pl pu ps (by decide) ?_ (by rw [List.size_toArray]; omega)
    rw [PySem.W.krv_pick]
    refine ⟨.ref _, _, I5.laid (t' := s4.toks) (o := .lst xs.reverse) (fun b ob q => Heap.get?_push_of_some _ q) (Nat.le_refl _) ?_, rfl, q _ (I5.hok.fresh (Nat.le_refl _))⟩
    exact ⟨by rw [List.length_reverse]; exact hz, _, 0, r.reverse, Heap.get?_push_size _ rfl⟩
  · obtain ⟨its, r, ht, hz⟩ := I5.tuple hx
    have hlen := r.length
    refine tail_any (ops := [.ref a, .ref s4.heap.objs.size]) ht.typeIs (PyProof.Rows.slot_tuple_getitem.lookup) ?_ (by with_unfolding_all rfl)
    refine getItem_tuple_rv ht (Heap.IsSliceOf.new _ vl vu vs) pl pu ps ?_ (by rw [List.size_toArray]; omega)
    refine ⟨.ref _, _, I5.laid (t' := s4.toks) (o := .tup xs.reverse) (fun b ob q => Heap.get?_push_of_some _ q) (Nat.le_refl _) ?_, rfl, q _ (I5.hok.fresh (Nat.le_refl _))⟩
    exact ⟨by rw [List.length_reverse]; exact hz, _, r.reverse, IsTup.new _ _⟩
section
variable {X : Cx} {EX : EXT} {Γ : Gm} {H0 : Ent} {E : DX → DEnv → Prop}
theorem se_rv (ek : EXok EX) {a : Ex} {e : Expr} {k : Nat} {p1 p2 p3 pos : Pos} (ha : SE X EX Γ H0 E a e) : SE X EX Γ H0 E (.rv a) (.Subscript e (.Slice none none (some (.UnaryOp .USub (.Constant (.int 1) k p1) p2)) p3) pos) := fun ρ σ Hf H Q QV R w kk => by
  refine mE.of (pe_rv (PE.m e)) ?_
  refine ha ρ σ Hf H _ _ R w fun d1 ρ1 v1 Hf1 H1 R1 s1 t1 r1 w1 => ?_
  have k2 : Kt X.K EX H0 ρ1 σ Hf1 H1 .fr (fun d => Q d ρ1) QV := fun d v Hf4 H4 R4 s4 t4 r4 q => kk d ρ1 v Hf4 H4 R4 (s1.trans s4) (t1.trans t4) r4 q
  unfold rvW at w1
  split at w1
  · obtain ⟨p, xs, rfl, h1, g1, rr⟩ := r1.toB.tup_inv R1.sub
    exact ⟨p, xs, rfl, .inr ⟨h1, fun q hq => k2.tup R1 ek hq rr.reverse w1⟩⟩
  · obtain ⟨p, xs, rfl, h1, rr⟩ := r1.toB.lst_inv R1.sub
    exact ⟨p, xs, rfl, .inl ⟨h1, fun q hq => k2.lst R1 ek hq rr.reverse w1⟩⟩
  · exact w1.elim
end
end DL
/-! DK: isinstance, targets, walks -/
namespace DL
open PySem PySem.Spec PyProof.Rows L2
theorem wipe_set {σ : L2.St} {i : Nat} {v : Option V} : ∀ {l : List Nat}, i ∈ l → L2.wipe (σ.set i v) l = L2.wipe σ l := fun {l} h => by
  have gen : ∀ l : List Nat, L2.wipe (σ.set i v) l = if i ∈ l then L2.wipe σ l else (L2.wipe σ l).set i v := fun l => by
    induction l with
    | nil => rw [if_neg (by simp)]; rfl
    | cons j r ih =>
      show (L2.wipe (σ.set i v) r).set j none = _
      rw [ih]
      by_cases hj : i = j
      · subst hj
        rw [if_pos List.mem_cons_self]
        by_cases hr : i ∈ r
        · rw [if_pos hr]; rfl
        · rw [if_neg hr, List.set_set]; rfl
      · by_cases hr : i ∈ r
        · rw [if_pos hr, if_pos (List.mem_cons_of_mem _ hr)]; rfl
        · rw [if_neg hr, if_neg (by simp [hj, hr])]
          show ((L2.wipe σ r).set i v).set j none = ((L2.wipe σ r).set j none).set i v
          exact List.set_comm _ _ hj
  rw [gen l, if_pos h]
theorem wipe_get {σ : L2.St} {i : Nat} : ∀ {l : List Nat}, i ∉ l → (L2.wipe σ l)[i]? = σ[i]? := fun h => wipe_out h
theorem wipe_idem {σ : L2.St} : ∀ {m l : List Nat}, (∀ i ∈ l, i ∈ m) → L2.wipe (L2.wipe σ l) m = L2.wipe σ m
  | m, [], _ => rfl
  | m, j :: l, h => by
    show L2.wipe ((L2.wipe σ l).set j none) m = _
    rw [wipe_set (h j List.mem_cons_self)]
    exact wipe_idem fun i hi => h i (List.mem_cons_of_mem _ hi)
theorem wipeD_un {ρ : DEnv} {i : Nat} : ∀ {l : List Nat}, i ∈ l → ∀ {s : Sl}, (wipeD ρ l)[i]? = some s → s = .un
  | j :: l, h, s, e => by
    rcases get_set (show ((wipeD ρ l).set j .un)[i]? = some s from e) with ⟨_, q, _⟩ | ⟨n, q⟩
    · exact q
    · rcases List.mem_cons.mp h with z | z
      · exact absurd z n
      · exact wipeD_un z q

/-! ### isinstance -/
section
variable {X : Cx} {EX : EXT} {Γ : Gm} {H0 : Ent} {xa : Nat → Addr} {C : Cn} {sc : Scope} {E : DX → DEnv → Prop}
theorem ty_facts {t : String} (h : t ∈ tyNames) : bootBuiltins (Str.ofString t) = some (.type t) ∧ t ∈ tyOk ∧ Str.ofString t ≠ "__name__" ∧ (Str.ofString t == ("__debug__" : Str)) = false ∧ Str.ofString t ∈ bltNames := by
  simp only [tyNames, List.mem_cons, List.not_mem_nil, or_false] at h
  rcases h with rfl | rfl | rfl | rfl | rfl | rfl <;> exact ⟨by decide +kernel, by decide, by decide +kernel, by decide +kernel, by decide +kernel⟩
/-- the class part of a test, by its names -/
def tCls (X : Cx) (ts : List String) : TE := fun σ H Q => (∃ t, ts = [t] ∧ Q (.ty t) H) ∨ ∀ p, H p = none → Q (.ref p) (upd H p (.tup (ts.map V.ty)))
theorem pe_tys (c : Cok X xa Γ C sc) : ∀ {es : List Expr} {ts : List String}, es.length = ts.length → ((es.zip ts).all fun p => match p.1 with
    | .Name x _ => decide (x = Str.ofString p.2) && gloB sc x
    | _ => false) = true → (∀ t ∈ ts, t ∈ tyNames) → PA X es (fun _ H Q => Q (ts.map V.ty) H)
  | [], [], _, _, _ => pa_nil
  | e :: es, t :: ts, hl, h, hts => by
    rw [List.zip_cons_cons, List.all_cons, Bool.and_eq_true] at h
    have ih := pe_tys c (es := es) (ts := ts) (by simpa using hl) h.2 fun u hu => hts u (List.mem_cons_of_mem _ hu)
    obtain ⟨h1, _⟩ := h
    split at h1
    · rename_i x pos ex
      have ee : e = .Name x pos := ex
      subst ee
      rw [Bool.and_eq_true, decide_eq_true_eq] at h1
      have ex : x = Str.ofString t := h1.1
      subst ex
      obtain ⟨b, _, n1, n2, m⟩ := ty_facts (hts t List.mem_cons_self)
      exact pa_cons (pe_bltn (c.gl h1.2) (c.blt _ m) b (v := .ty t) rfl n1 n2) ih
    · cases h1
theorem pe_cls (c : Cok X xa Γ C sc) {e : Expr} {ts : List String} (h : clsNames sc e ts = true) (hts : ∀ t ∈ ts, t ∈ tyNames) (hz : ts.length ≤ sizeLine) : PE X e (fun σ H Q => (∀ t, ts = [t] → Q (.ty t) H) ∧ ∀ p, H p = none → Q (.ref p) (upd H p (.tup (ts.map V.ty)))) := by
  unfold clsNames at h
  split at h
  · rename_i x pos t
    rw [Bool.and_eq_true, decide_eq_true_eq] at h
    obtain ⟨rfl, hg⟩ := h
    obtain ⟨b, _, n1, n2, m⟩ := ty_facts (hts t List.mem_cons_self)
    have P := pe_bltn (pos := pos) (c.gl hg) (c.blt _ m) b (v := .ty t) rfl n1 n2
    exact ⟨fun pins s σ H Q I q => P.run pins s σ H Q I (q.1 t rfl)⟩
  · rw [Bool.and_eq_true, decide_eq_true_eq] at h
    have P := pe_tys c h.1 h.2 hts
    exact ⟨fun pins s σ H Q I q => (pe_tup P).run pins s σ H Q I ⟨by rw [List.length_map]; exact hz, q.2⟩⟩
  · cases h
theorem se_isT (ek : EXok EX) (c : Cok X xa Γ C sc) {ts : List String} {a : Ex} {e t : Expr} {p pos : Pos} (hg : gloB sc (Str.ofString "isinstance") = true) (hn : nst e = true) (hnt : nst t = true) (hc : clsNames sc t ts = true) (hts : ∀ t ∈ ts, t ∈ tyNames) (hz : ts.length ≤ sizeLine) (ha : SE X EX Γ H0 E a e) :
    SE X EX Γ H0 E (.isT ts a) (.Call (.Name (Str.ofString "isinstance") p) [e, t] [] pos) := fun ρ σ Hf H Q QV R w k => by
  refine mE.of (pe_callB (id := "isinstance") mCa_ok (c.gl hg) (c.blt _ (by decide +kernel)) (by decide +kernel) (pa_cons (PE.m e) (pa_cons (pe_cls c hc hts hz) pa_nil (star_cons hnt)) (star_cons hn)) (by decide +kernel) (by decide +kernel) (star_cons hn) (by rw [star_cons hnt]; rfl)) ?_
  refine ha ρ σ Hf H _ _ R w fun d1 ρ1 v1 Hf1 H1 R1 s1 t1 r1 w1 => ?_
  obtain ⟨ty, hty, q⟩ := w1
  have hts' : ∀ u ∈ ts, u ∈ tyOk := fun u hu => (ty_facts (hts u hu)).2.1
  obtain ⟨b, hb, hT, hk⟩ := isT_ok R1 r1.toB hty hts'
  rw [← hb] at q
  refine ⟨fun u hu => ?_, fun tp htp => ?_⟩
  · subst hu
    have hk1 : PySem.W.kitOne X.K (.type ty) (.type u) = some b := by
      rw [kit_sub (tyD_mem hty) (hts' u List.mem_cons_self), hb, List.any_cons, List.any_nil, Bool.or_false]
    exact mCa.of call_isi ⟨v1, .ty u, .type ty, .type u, b, rfl, .ty u, hT, hk1, k _ ρ1 _ Hf1 H1 R1 s1 t1 (Rep.bl b) q⟩
  · have sm := same_new htp (.tup (ts.map V.ty))
    have hT2 : TyX X.K (upd H1 tp (.tup (ts.map V.ty))) v1 (.type ty) := ((r1.toB.rep R1.sub).same sm).ty hty
    have cl : ∀ l : List String, Paired ClsV (l.map V.ty) (l.map Value.type) := fun l => by
      induction l with
      | nil => exact .nil
      | cons u r ih => exact .cons (.ty u) ih
    exact mCa.of call_isiT ⟨v1, tp, ts.map V.ty, .type ty, ts.map Value.type, b, rfl, upd_same, cl ts, hT2, hk, k _ ρ1 _ Hf1 _ (R1.newO ek htp _) s1 (t1.trans sm) (Rep.bl b) q⟩
end

/-! ### targets -/
/-- where a target stands: none: a def's body; some b: the block b of a comprehension -/
structure Gok (X : Cx) (N : List Str) (bs : Option Scope) (sc : Scope) : Prop where
  hN : X.N = N
  nd : N.Nodup
  scp : X.env.scope = sc
  calm : X.calm = true
  fn : ∀ x, (match bs with
    | none => true
    | some b => decide (b.names.lookup x = some .cell)) = true → X.fn x = true
def mGs (X : Cx) (es : List Expr) : TGs := fun vs σ H Q => ∀ (pins : List (Addr × Obj)) (s : Shared) (us : List Value), Inv X pins σ H s → Vals vs us → wpAny (model X.prog X.w) X.A (assignInOrder ((assignEach es X.env).map (·.2)) us) (fun _ s' => ∃ σ' H', Inv X pins σ' H' s' ∧ Q σ' H') X.xe s
theorem PGs.m {X : Cx} (es : List Expr) : PGs X es (mGs X es) := ⟨fun pins s σ H vs us Q I r h => h pins s us I r⟩
/-- what a store leaves -/
def KG (K : PySem.W.Frag) (EX : EXT) (H0 : Ent) (sl : List Nat) (ρ : DEnv) (σ : L2.St) (Hf H : Hp) (Q : DEnv → Prop) (QS : L2.St → Hp → Prop) : Prop :=
  ∀ ρ' σ', SR K EX H0 ρ' σ' Hf H → (∀ i, i ∉ sl → ρ'[i]? = ρ[i]? ∧ σ'[i]? = σ[i]?) → (∀ l : List Nat, (∀ i ∈ sl, i ∈ l) → L2.wipe σ' l = L2.wipe σ l) → Q ρ' → QS σ' H
theorem each_cons {e : Expr} {es : List Expr} {env : Env} {N : List Str} {bs : Option Scope} {sc : Scope} {t : Tg} (h : ckG N bs sc t e = true) : assignEach (e :: es) env = (false, assign e env) :: assignEach es env := by
  cases t with
  | nm i => cases e <;> first | rfl | (cases h; done)
  | tup l => cases e <;> first | rfl | (cases h; done)
theorem ckGs_cons {N : List Str} {bs : Option Scope} {sc : Scope} {t : Tg} {l : List Tg} {es : List Expr} (h : ckGs N bs sc (t :: l) es = true) : ∃ e r, es = e :: r ∧ ckG N bs sc t e = true ∧ ckGs N bs sc l r = true := by
  cases es with
  | nil => cases h
  | cons e r =>
    have h' : ckG N bs sc t e = true ∧ ckGs N bs sc l r = true := by simpa [ckGs] using h
    exact ⟨e, r, rfl, h'.1, h'.2⟩
theorem each_len {env : Env} {N : List Str} {bs : Option Scope} {sc : Scope} : ∀ {l : List Tg} {es : List Expr}, ckGs N bs sc l es = true → (assignEach es env).length = l.length ∧ (assignEach es env).findIdx? (·.1) = none
  | [], [], _ => ⟨rfl, rfl⟩
  | [], _ :: _, h => by cases h
  | t :: l, es, h => by
    obtain ⟨e, r, rfl, h1, h2⟩ := ckGs_cons h
    obtain ⟨a, b⟩ := each_len (env := env) h2
    rw [each_cons h1]
    refine ⟨congrArg (· + 1) a, ?_⟩
    rw [List.findIdx?_cons]
    simp [b]
section
variable {X : Cx} {EX : EXT} {H0 : Ent} {N : List Str} {bs : Option Scope} {sc : Scope}
theorem ckG_nm {i : Nat} {e : Expr} (h : ckG N bs sc (.nm i) e = true) : ∃ x pos, e = .Name x pos ∧ N[i]? = some x ∧ locB sc x = true ∧ fnB bs sc x = true := by
  cases e <;> first | (cases h; done) | skip
  rename_i x pos
  have h' : (decide (N[i]? = some x) && locB sc x && fnB bs sc x) = true := h
  rw [Bool.and_eq_true, Bool.and_eq_true, decide_eq_true_eq] at h'
  exact ⟨x, pos, rfl, h'.1.1, h'.1.2, h'.2⟩
theorem ckG_tup {l : List Tg} {e : Expr} (h : ckG N bs sc (.tup l) e = true) : ∃ es k pos, e = .Tuple es k pos ∧ ckGs N bs sc l es = true := by
  cases e <;> first | (cases h; done) | skip
  exact ⟨_, _, _, rfl, h⟩
mutual
theorem sg (ok : Gok X N bs sc) : ∀ (g : Tg) (tg : Expr), ckG N bs sc g tg = true → ∀ (ρ : DEnv) (σ : L2.St) (Hf H : Hp) (d : D) (v : V) (Q : DEnv → Prop) (QS : L2.St → Hp → Prop), SR X.K EX H0 ρ σ Hf H → Rep X.K Hf d v → wG g d ρ Q → KG X.K EX H0 g.slots ρ σ Hf H Q QS → mG X tg v σ H QS
  | .nm i, tg, h, ρ, σ, Hf, H, d, v, Q, QS, R, r, w, k => by
    obtain ⟨x, pos, rfl, h1, h2, h3⟩ := ckG_nm h
    have hf : X.fn x = true ∨ X.env.scope.names.lookup x = some .local := by
      cases bs with
      | none => exact .inl (ok.fn x rfl)
      | some b =>
        have h4 : (decide (b.names.lookup x = some .cell) || decide (sc.names.lookup x = some .local)) = true := h3
        rw [Bool.or_eq_true, decide_eq_true_eq, decide_eq_true_eq] at h4
        rcases h4 with z | z
        · exact .inl (ok.fn x (decide_eq_true z))
        · exact .inr (by rw [ok.scp]; exact z)
    have P := pg_name (X := X) (i := i) (x := x) (pos := pos) (by rw [ok.hN]; exact ok.nd) (by rw [ok.hN]; exact h1) (by rw [ok.scp]; exact loc_of h2) hf
    intro pins s u I rv
    refine P.run pins s σ H v u QS I rv ?_
    refine k _ _ (R.setSh r i) (fun j hj => ?_) (fun l hl => wipe_set (hl i (by simp [Tg.slots]))) w
    have hne : i ≠ j := fun z => hj (by simp [Tg.slots, z])
    exact ⟨List.getElem?_set_ne hne, List.getElem?_set_ne hne⟩
  | .tup l, tg, h, ρ, σ, Hf, H, d, v, Q, QS, R, r, w, k => by
    obtain ⟨es, k0, pos, rfl, h'⟩ := ckG_tup h
    obtain ⟨a1, a2⟩ := each_len (env := X.env) h'
    have P := pg_tup (X := X) (k := k0) (pos := pos) ok.calm (PGs.m es) a1 a2
    intro pins s u I rv
    cases d with
    | tup ds =>
      cases r with
      | tup hs rs =>
        have w' : ds.length = l.length ∧ wGs l ds ρ Q := w
        refine P.run pins s σ H _ u QS I rv ?_
        exact ⟨_, _, rfl, (Sim.of R.sub).seqT hs, by rw [← rs.length]; exact w'.1, sgs ok l es h' ρ σ Hf H ds _ Q QS R rs w'.2 k⟩
    | _ => exact (show False from w).elim
theorem sgs (ok : Gok X N bs sc) : ∀ (l : List Tg) (es : List Expr), ckGs N bs sc l es = true → ∀ (ρ : DEnv) (σ : L2.St) (Hf H : Hp) (ds : List D) (vs : List V) (Q : DEnv → Prop) (QS : L2.St → Hp → Prop), SR X.K EX H0 ρ σ Hf H → Reps X.K Hf ds vs → wGs l ds ρ Q → KG X.K EX H0 (slotsL l) ρ σ Hf H Q QS → mGs X es vs σ H QS
  | [], es, h, ρ, σ, Hf, H, ds, vs, Q, QS, R, r, w, k => by
    cases es with
    | cons _ _ => cases h
    | nil =>
      cases r with
      | cons _ _ => exact (show False from w).elim
      | nil =>
        intro pins s us I rv
        exact pgs_nil.run pins s σ H [] us QS I rv ⟨rfl, k ρ σ R (fun _ _ => ⟨rfl, rfl⟩) (fun _ _ => rfl) w⟩
  | t :: l, es, h, ρ, σ, Hf, H, ds, vs, Q, QS, R, r, w, k => by
    obtain ⟨e, es', rfl, h1, h2⟩ := ckGs_cons h
    cases r with
    | nil => exact (show False from w).elim
    | cons r rs =>
      intro pins s us I rv
      refine (pgs_cons (PG.m e) (PGs.m es') (by rw [each_cons h1]; rfl)).run pins s σ H _ us QS I rv ⟨_, _, rfl, ?_⟩
      refine sg ok t e h1 ρ σ Hf H _ _ _ _ R r w fun ρ1 σ1 R1 g1 z1 w1 => ?_
      refine sgs ok l es' h2 ρ1 σ1 Hf H _ _ _ _ R1 rs w1 fun ρ2 σ2 R2 g2 z2 w2 => ?_
      refine k ρ2 σ2 R2 (fun i hi => ?_) (fun m hm => ?_) w2
      · have i1 : i ∉ t.slots := fun z => hi (by simp [slotsL, z])
        have i2 : i ∉ slotsL l := fun z => hi (by simp [slotsL, z])
        exact ⟨(g2 i i2).1.trans (g1 i i1).1, (g2 i i2).2.trans (g1 i i1).2⟩
      · rw [z2 m fun i hi => hm i (by simp [slotsL, hi]), z1 m fun i hi => hm i (by simp [slotsL, hi])]
end
end
end DL
/-! DL1: comprehensions -/
namespace DL
open PySem PySem.Spec PyProof.Rows L2
open Classical in
/-- a frame entered anew: all that stands is the caller's, but the frame's own lists and dicts -/
noncomputable def entOf (ρ : DEnv) (σ : L2.St) (Hf H : Hp) : Ent := ⟨Hf, fun b => if ∃ (i : Nat) (s : Sl), ρ[i]? = some s ∧ s.isOwn = true ∧ σ[i]? = some (some (V.ref b)) then none else H b⟩
section
variable {K : PySem.W.Frag} {EX : EXT} {H0 : Ent} {ρ ρ' : DEnv} {σ σ' : L2.St} {Hf H Hf' H' : Hp}
open Classical in
theorem entOf_own {i : Nat} {s : Sl} {a : Addr} (h : ρ[i]? = some s) (o : s.isOwn = true) (e : σ[i]? = some (some (V.ref a))) : (entOf ρ σ Hf H).h a = none := if_pos ⟨i, s, h, o, e⟩
open Classical in
theorem SR.enter (R : SR K EX H0 ρ σ Hf H) : SR K EX (entOf ρ σ Hf H) ρ σ Hf H := by
  refine ⟨Same.refl _, fun b u q => ?_, fun a _ h => h, R.sub, R.len, R.sh, fun i p l e => ?_, fun i p l e => ?_, R.exc, R.apart⟩
  · have q' : (if ∃ (i : Nat) (s : Sl), ρ[i]? = some s ∧ s.isOwn = true ∧ σ[i]? = some (some (V.ref b)) then none else H b) = some u := q
    split at q'
    · cases q'
    · exact q'
  · obtain ⟨a, xs, h1, h2, h3, r, _, hp⟩ := R.own i p l e
    exact ⟨a, xs, h1, h2, h3, r, entOf_own e rfl h1, hp⟩
  · obtain ⟨a, xs, h1, h2, h3, r, _, hp⟩ := R.ownK i p l e
    exact ⟨a, xs, h1, h2, h3, r, entOf_own e rfl h1, hp⟩
open Classical in
/-- nothing that stood was frozen -/
theorem SR.leave (R : SR K EX (entOf ρ σ Hf H) ρ' σ' Hf' H') (keep : ∀ (i : Nat) (s : Sl), ρ[i]? = some s → s.isOwn = true → ρ'[i]? = some s ∧ σ'[i]? = σ[i]?) (a : Addr) (h1 : H a ≠ none) (h2 : Hf a = none) : Hf' a = none := by
  by_cases o : ∃ (i : Nat) (s : Sl), ρ[i]? = some s ∧ s.isOwn = true ∧ σ[i]? = some (some (V.ref a))
  · obtain ⟨i, s, e, ho, es⟩ := o
    obtain ⟨k1, k2⟩ := keep i s e ho
    rw [es] at k2
    cases s with
    | own p l =>
      obtain ⟨b, xs, q1, q2, _⟩ := R.own i p l k1
      rw [k2] at q1; cases q1; exact q2
    | ownK p l =>
      obtain ⟨b, xs, q1, q2, _⟩ := R.ownK i p l k1
      rw [k2] at q1; cases q1; exact q2
    | un => cases ho
    | sh _ => cases ho
    | exc _ _ => cases ho
  · exact R.nof a (by show (if _ then none else H a) ≠ none; rw [if_neg o]; exact h1) h2
/-- an object that is not of the frozen part, nor a slot's, is changed -/
theorem SR.other (R : SR K EX H0 ρ σ Hf H) {p : Addr} {o : HO} (n : Hf p = none) (n0 : H0.h p = none) (f : ∀ (i : Nat) (s : Sl), ρ[i]? = some s → s.isOwn = true → σ[i]? ≠ some (some (V.ref p))) : SR K EX H0 ρ σ Hf (upd H p o) := by
  have st : ∀ {G : Hp}, G p = none → Same G H → Same G (upd H p o) := fun {G} z s b u q => by
    rw [upd_ne (fun e => by rw [e, z] at q; cases q)]; exact s b u q
  refine ⟨R.base, st n0 R.ent, R.nof, st n R.sub, R.len, R.sh, fun i p l e => ?_, fun i p l e => ?_, R.exc, R.apart⟩
  · obtain ⟨a, xs, h1, h2, h3, r⟩ := R.own i p l e
    exact ⟨a, xs, h1, h2, by rw [upd_ne (fun z => f i _ e rfl (by rw [h1, z]))]; exact h3, r⟩
  · obtain ⟨a, xs, h1, h2, h3, r⟩ := R.ownK i p l e
    exact ⟨a, xs, h1, h2, by rw [upd_ne (fun z => f i _ e rfl (by rw [h1, z]))]; exact h3, r⟩
theorem same_other {G : Hp} {p : Addr} {o : HO} (z : G p = none) (s : Same G H) : Same G (upd H p o) := fun b u q => by
  rw [upd_ne (fun e => by rw [e, z] at q; cases q)]; exact s b u q
end
section
variable {X : Cx} {EX : EXT} {Γ : Gm} {H0 : Ent} {E : DX → DEnv → Prop}
/-- what is walked, by data -/
def SI (X : Cx) (EX : EXT) (Γ : Gm) (H0 : Ent) (E : DX → DEnv → Prop) (k : ItK) (l : Exs) (tg iter : Expr) : Prop := ∀ (ρ : DEnv) (σ : L2.St) (Hf H : Hp) (Q : DEnv → List D → Prop) (R : It → Hp → Prop), SR X.K EX H0 ρ σ Hf H →
  (wA Γ E l ρ fun ds ρ1 => itW k ds (Q ρ1)) → (∀ ρ1 Hf1 H1 J items b, SR X.K EX H0 ρ1 σ Hf1 H1 → Same Hf Hf1 → Same H H1 → ItD X.K EX b Hf1 H1 J items → (nbA l = true → b = false) → Q ρ1 items → R J H1) → mI X tg iter σ H R
/-- tests of a comprehension -/
def STs (X : Cx) (EX : EXT) (Γ : Gm) (H0 : Ent) (E : DX → DEnv → Prop) (t : Exs) (ifs : List Expr) : Prop := ∀ (ρ : DEnv) (σ : L2.St) (Hf H : Hp) (Q : Bool → DEnv → Prop) (QB : Bool → Hp → Prop), SR X.K EX H0 ρ σ Hf H → wTs Γ E t ρ Q →
  (∀ b ρ' Hf' H', SR X.K EX H0 ρ' σ Hf' H' → Same Hf Hf' → Same H H' → Q b ρ' → QB b H') → mTs X ifs σ H QB
theorem lc_core' (ek : EXok EX) {g : Tg} {k : ItK} {l t : Exs} {x : Ex} {tg iter elt : Expr} {ifs : List Expr} {scope : Scope} {own : List (Str × Nat)} (ho : own.map (·.2) = g.slots) (nx : nb x = true)
    (hI : SI X EX Γ H0 E k l tg iter)
    (hG : ∀ (s : Shared) (H : Hp) (C : Addr) (cl : List (Str × Addr)) (fp : List Addr) (H0 : Ent) (ρ : DEnv) (σ : L2.St) (Hf H' : Hp) (d : D) (v : V) (Q : DEnv → Prop) (QS : L2.St → Hp → Prop), SR X.K EX H0 ρ σ Hf H' → Rep X.K Hf d v → wG g d ρ Q → KG X.K EX H0 g.slots ρ σ Hf H' Q QS → mG (X.blk s H scope (compEnvC scope cl C X.env) fp) tg v σ H' QS)
    (hT : ∀ (s : Shared) (H : Hp) (C : Addr) (cl : List (Str × Addr)) (fp : List Addr) (H0 : Ent), STs (X.blk s H scope (compEnvC scope cl C X.env) fp) EX Γ H0 (fun _ _ => False) t ifs)
    (hE : ∀ (s : Shared) (H : Hp) (C : Addr) (cl : List (Str × Addr)) (fp : List Addr) (H0 : Ent), SE (X.blk s H scope (compEnvC scope cl C X.env) fp) EX Γ H0 (fun _ _ => False) x elt)
    {ρ : DEnv} {σ : L2.St} {Hf H : Hp} {Q : D → DEnv → Prop} {QV : VK} (R : SR X.K EX H0 ρ σ Hf H) (w : wE Γ E (.lc g k l t x) ρ Q)
    (kk : ∀ d ρ' v Hf' H', SR X.K EX H0 ρ' σ Hf' H' → Same Hf Hf' → Same H H' → RepF X.K H0 ρ' σ Hf' H' d v → Q d ρ' → QV v H') :
    tLc (mI X tg iter) (fun v σ H' Q => ∀ s H C cl fp, mG (X.blk s H scope (compEnvC scope cl C X.env) fp) tg v σ H' Q) (fun σ H' Q => ∀ s H C cl fp, mTs (X.blk s H scope (compEnvC scope cl C X.env) fp) ifs σ H' Q)
      (fun σ H' Q => ∀ s H C cl fp, mE (X.blk s H scope (compEnvC scope cl C X.env) fp) elt σ H' Q) (own.map (·.2)) σ H QV := by
  rw [ho]
  refine hI ρ σ Hf H (fun ρ1 items => lcL (wG g) (wTs Γ (fun _ _ => False) t) (wE Γ (fun _ _ => False) x) (wipeD ρ1 g.slots) (fun acc => Q (.lst acc) ρ1) items []) _ R w fun ρ1 Hf1 H1 J items b R1 s1 t1 it _ w1 => ?_
  intro L hD
  -- the state between two turns
  let Inv1 : Nat → Hp → Prop := fun i H => ∃ (Hf : Hp) (acc : List D) (vs : List V), SR X.K EX H0 ρ1 σ Hf H ∧ Same Hf1 Hf ∧ Same H1 H ∧ H L = some (.lst vs) ∧ Hf L = none ∧ Reps X.K Hf acc vs ∧
    lcL (wG g) (wTs Γ (fun _ _ => False) t) (wE Γ (fun _ _ => False) x) (wipeD ρ1 g.slots) (fun acc => Q (.lst acc) ρ1) (items.drop i) acc
  have D0 : H0.h L = none := R1.ent.free hD
  have DO := R1.notOwn hD
  refine ⟨fun i m H => m = items.length - i ∧ i ≤ items.length ∧ Inv1 i H, ⟨items.length, by simp, Nat.zero_le _, Hf1, [], [], R1.newO ek hD _, Same.refl _, same_new hD _, upd_same, R1.fresh hD, .nil, w1⟩, ?_⟩
  rintro i m H2 ⟨rfl, hi, Hf2, acc, vs, R2, s2, t2, e2, n2, r2, w2⟩
  by_cases hlt : i < items.length
  · refine .inr ⟨it.go i Hf2 H2 s2 R2.sub (fun _ => t2) hlt, Inv1 (i + 1), fun H' p => ⟨items.length - (i + 1), by omega, rfl, hlt, p⟩, fun v H3 y => ?_⟩
    have hget : items[i]? = some items[i] := by simp [hlt]
    rw [List.drop_eq_getElem_cons hlt] at w2
    obtain ⟨Hf3, R3e, s3, t3, r3⟩ := it.yld _ i items[i] H2 v H3 Hf2 ρ1 σ R2.enter s2 (fun _ => t2) hget y
    have nof3 := SR.leave R3e fun i s e o => ⟨e, rfl⟩
    have R3 := R2.grow ek s3 t3 R3e.sub nof3
    have n3 : Hf3 L = none := nof3 L (by rw [e2]; exact nofun) n2
    have e3 := t3 _ _ e2
    have Rw := (R3.wipe g.slots).enter
    have w3 : wG g items[i] (wipeD ρ1 g.slots) fun ρ2 => wTs Γ (fun _ _ => False) t ρ2 fun b ρ3 => ρ3 = ρ2 ∧ if b = true then wE Γ (fun _ _ => False) x ρ3 fun y ρ4 => ρ4 = ρ3 ∧ acc.length < sizeLine ∧ lcL (wG g) (wTs Γ (fun _ _ => False) t) (wE Γ (fun _ _ => False) x) (wipeD ρ1 g.slots) (fun acc => Q (.lst acc) ρ1) (items.drop (i + 1)) (acc ++ [y]) else lcL (wG g) (wTs Γ (fun _ _ => False) t) (wE Γ (fun _ _ => False) x) (wipeD ρ1 g.slots) (fun acc => Q (.lst acc) ρ1) (items.drop (i + 1)) acc := w2
    intro s0 Hb Cb cl fp
    refine hG s0 Hb Cb cl fp _ _ _ Hf3 H3 _ v _ _ Rw r3 w3 fun ρ2 σ2 R4 g4 z4 w4 => ?_
    have keep : ∀ (i : Nat) (s : Sl), (wipeD ρ1 g.slots)[i]? = some s → s.isOwn = true → ρ2[i]? = some s ∧ σ2[i]? = (L2.wipe σ g.slots)[i]? := fun i s e o => by
      have hi : i ∉ g.slots := fun z => by
        rw [wipeD_un z e] at o; cases o
      obtain ⟨a1, a2⟩ := g4 i hi
      exact ⟨a1.trans e, a2⟩
    refine ⟨(z4 g.slots fun _ h => h).trans (wipe_idem fun _ h => h), ?_⟩
    intro s0 Hb Cb cl fp
    refine hT s0 Hb Cb cl fp _ ρ2 σ2 Hf3 H3 _ _ R4 w4 fun bb ρ3 Hf5 H5 R5 s5 t5 w5 => ?_
    obtain ⟨rfl, w5⟩ := w5
    cases bb with
    | false =>
      rw [if_neg Bool.false_ne_true] at w5 ⊢
      have nof5 := SR.leave R5 keep
      exact ⟨Hf5, acc, vs, R3.grow ek s5 t5 R5.sub nof5, s2.trans (s3.trans s5), t2.trans (t3.trans t5), t5 _ _ e3, nof5 L (by rw [e3]; exact nofun) n3, (r2.same s3).same s5, w5⟩
    | true =>
      rw [if_pos rfl] at w5 ⊢
      intro s0 Hb Cb cl fp
      refine hE s0 Hb Cb cl fp _ ρ3 σ2 Hf5 H5 _ _ R5 w5 fun y ρ4 u Hf6 H6 R6 s6 t6 r6 w6 => ?_
      obtain ⟨rfl, hz, w6⟩ := w6
      obtain ⟨Hf7, R7, s7, r7⟩ := r6.freeze (nb_md nx) R6 ek
      have nof7 := SR.leave R7 keep
      have sA : Same Hf3 Hf7 := s5.trans (s6.trans s7)
      have tA : Same H3 H6 := t5.trans t6
      have R8 := R3.grow ek sA tA R7.sub nof7
      have e6 := tA _ _ e3
      have n7 : Hf7 L = none := nof7 L (by rw [e3]; exact nofun) n3
      refine ⟨vs, e6, by rw [← r2.length]; exact hz, Hf7, acc ++ [y], vs ++ [u], R8.other n7 D0 DO, s2.trans (s3.trans sA), same_other hD (t2.trans (t3.trans tA)), upd_same, n7, ((r2.same s3).same sA).append (.one r7), w6⟩
  · have e : i = items.length := by omega
    subst e
    rw [List.drop_length] at w2
    refine .inl ⟨it.stop Hf2 H2 s2 R2.sub (fun _ => t2), kk _ ρ1 _ Hf2 H2 R2 (s1.trans s2) (t1.trans t2) (.own D0 n2 e2 r2 DO) w2⟩
end
end DL
/-! DL2: walks, comprehensions -/
namespace DL
open PySem PySem.Spec PyProof.Rows L2
/-- the same but for the frame -/
structure Like (X X' : Cx) : Prop where
  prog : X'.prog = X.prog
  w : X'.w = X.w
  K : X'.K = X.K
  mg : X'.mg = X.mg
  base : X'.base = X.base
section
variable {X : Cx} {EX : EXT} {Γ : Gm} {H0 : Ent} {E : DX → DEnv → Prop} {xa : Nat → Addr} {C : Cn} {sc : Scope}
theorem itW_seq {d : D} {P : List D → Prop} (w : itW .seq [d] P) : ∃ l, strsD d = some l ∧ P l := by
  cases d with
  | tup l => exact ⟨l, rfl, w⟩
  | lst l => exact ⟨l, rfl, w⟩
  | _ => exact (show False from w).elim
theorem si_seq (ek : EXok EX) {x : Ex} {tg e : Expr} (hx : SE X EX Γ H0 E x e) : SI X EX Γ H0 E .seq (.cons x .nil) tg e := fun ρ σ Hf H Q R S w k => by
  refine mI.of (pi_seq (PE.m e)) ?_
  refine hx ρ σ Hf H (fun d ρ1 => itW .seq [d] (Q ρ1)) _ S w fun d ρ1 v Hf1 H1 R1 s1 t1 r1 w1 => ?_
  obtain ⟨l, hl, q⟩ := itW_seq w1
  by_cases hb : nb x = true
  · obtain ⟨Hf2, R2, s2, r2⟩ := r1.freeze (nb_md hb) R1 ek
    obtain ⟨k', a, xs, rfl, hq, rs⟩ := seq_sh r2 hl
    exact ⟨k', a, xs, rfl, hq.same R2.sub, k ρ1 Hf2 H1 _ l false R2 (s1.trans s2) t1 (itD_seq (hq.same R2.sub) (fun _ => hq) rs) (fun _ => rfl) q⟩
  · obtain ⟨k', b, a, xs, rfl, hq, rs, _, h0⟩ := seq_inv r1.toB R1.sub hl
    exact ⟨k', a, xs, rfl, hq, k ρ1 Hf1 H1 _ l b R1 s1 t1 (itD_seq hq h0 rs) (fun z => absurd (show nb x = true from (Bool.and_eq_true_iff.mp (show (nb x && nbA .nil) = true from z)).1) hb) q⟩
theorem si_str {x : Ex} {tg e : Expr} (hx : SE X EX Γ H0 E x e) : SI X EX Γ H0 E .str (.cons x .nil) tg e := fun ρ σ Hf H Q R S w k => by
  refine mI.of (pi_str (PE.m e)) ?_
  refine hx ρ σ Hf H (fun d ρ1 => itW .str [d] (Q ρ1)) _ S w fun d ρ1 v Hf1 H1 R1 s1 t1 r1 w1 => ?_
  cases d with
  | str z =>
    exact ⟨z, r1.toB.str_inv, k ρ1 Hf1 H1 _ _ false R1 s1 t1 (itD_str z) (fun _ => rfl) w1⟩
  | _ => exact (show False from w1).elim
theorem itW_rng1 {ds : List D} {P : List D → Prop} (w : itW .rng1 ds P) : ∃ n, ds = [.int n] ∧ -(2 ^ 62) ≤ n ∧ n < 2 ^ 62 ∧ P ((List.range n.toNat).map fun (i : Nat) => .int (i : Int)) := by
  unfold itW at w
  split at w
  all_goals first | (exact ⟨_, rfl, w.1, w.2.1, w.2.2⟩) | exact w.elim | (rename_i z _; cases z; done) | (rename_i z; cases z; done) | simp_all
theorem itW_rng2 {ds : List D} {P : List D → Prop} (w : itW .rng2 ds P) : ∃ a b, ds = [.int a, .int b] ∧ (-(2 ^ 62) ≤ a ∧ a < 2 ^ 62 ∧ -(2 ^ 62) ≤ b ∧ b < 2 ^ 62) ∧ P ((List.range (b - a).toNat).map fun (i : Nat) => .int (a + (i : Int))) := by
  unfold itW at w
  split at w
  all_goals first | (exact ⟨_, _, rfl, w.1, w.2⟩) | exact w.elim | (rename_i z _; cases z; done) | (rename_i z; cases z; done) | simp_all
theorem si_rng1 (ek : EXok EX) (c : Cok X xa Γ C sc) {x : Ex} {tg e : Expr} {p pos : Pos} (hg : gloB sc (Str.ofString "range") = true) (hn : nst e = true) (hx : SE X EX Γ H0 E x e) : SI X EX Γ H0 E .rng1 (.cons x .nil) tg (.Call (.Name (Str.ofString "range") p) [e] [] pos) := fun ρ σ Hf H Q R S w k => by
  refine mI.of (pi_range1 (c.gl hg) (c.blt _ (by decide +kernel)) (PA.m [e]) (star_cons hn)) ?_
  refine sa_cons ek hn hx sa_nil ρ σ Hf H _ _ S w fun ds ρ1 vs Hf1 H1 R1 s1 t1 rs _ w1 => ?_
  obtain ⟨n, rfl, a, b, q⟩ := itW_rng1 w1
  cases rs with
  | cons r rs =>
    cases rs with
    | nil =>
      refine ⟨n, by rw [r.int_inv], a, b, ?_⟩
      have it := itD_rng (K := X.K) (EX := EX) (Hf0 := Hf1) (H1 := H1) 0 n.toNat
      refine k ρ1 Hf1 H1 _ _ false R1 s1 t1 it (fun _ => rfl) ?_
      simpa only [Int.zero_add] using q
theorem si_rng2 (ek : EXok EX) (c : Cok X xa Γ C sc) {x y : Ex} {tg e f : Expr} {p pos : Pos} (hg : gloB sc (Str.ofString "range") = true) (hn : nst e = true) (hn2 : nst f = true) (hx : SE X EX Γ H0 E x e) (hy : SE X EX Γ H0 E y f) :
    SI X EX Γ H0 E .rng2 (.cons x (.cons y .nil)) tg (.Call (.Name (Str.ofString "range") p) [e, f] [] pos) := fun ρ σ Hf H Q R S w k => by
  refine mI.of (pi_range2 (c.gl hg) (c.blt _ (by decide +kernel)) (PA.m [e, f]) (by rw [star_cons hn, star_cons hn2]; rfl) (by rw [star_cons hn2]; rfl)) ?_
  refine sa_cons ek hn hx (sa_cons ek hn2 hy sa_nil) ρ σ Hf H _ _ S w fun ds ρ1 vs Hf1 H1 R1 s1 t1 rs _ w1 => ?_
  obtain ⟨a, b, rfl, z, q⟩ := itW_rng2 w1
  cases rs with
  | cons r rs =>
    cases rs with
    | cons r2 rs =>
      cases rs with
      | nil => exact ⟨a, b, by rw [r.int_inv, r2.int_inv], z, k ρ1 Hf1 H1 _ _ false R1 s1 t1 (itD_rng a (b - a).toNat) (fun _ => rfl) q⟩
theorem si_en (ek : EXok EX) (c : Cok X xa Γ C sc) {x : Ex} {es : List Expr} {kk : Nat} {tp : Pos} {e : Expr} {p pos : Pos} (hg : gloB sc (Str.ofString "enumerate") = true) (hn : nst e = true) (hx : SE X EX Γ H0 E x e) :
    SI X EX Γ H0 E .en (.cons x .nil) (.Tuple es kk tp) (.Call (.Name (Str.ofString "enumerate") p) [e] [] pos) := fun ρ σ Hf H Q R S w k => by
  refine mI.of (pi_en (c.gl hg) (c.blt _ (by decide +kernel)) (PA.m [e]) (star_cons hn)) ?_
  refine sa_cons ek hn hx sa_nil ρ σ Hf H _ _ S w fun ds ρ1 vs Hf1 H1 R1 s1 t1 rs rn w1 => ?_
  have g : ∃ d, ds = [d] ∧ ∃ l, strsD d = some l ∧ Q ρ1 (enD 0 l) := by
    cases ds with
    | nil => exact (show False from w1).elim
    | cons d ds =>
      cases ds with
      | nil => exact ⟨d, rfl, w1⟩
      | cons _ _ => exact (show False from w1).elim
  obtain ⟨d, rfl, l, hl, q⟩ := g
  cases rs with
  | cons r rs =>
    cases rs with
    | nil =>
      by_cases hb : nbA (.cons x .nil) = true
      · cases rn hb with
        | cons r' _ =>
          obtain ⟨k', a, xs, rfl, hq, rs⟩ := seq_sh r' hl
          exact ⟨k', a, xs, rfl, hq.same R1.sub, k ρ1 Hf1 H1 _ _ false R1 s1 t1 (itD_en ek (hq.same R1.sub) (fun _ => hq) rs) (fun _ => rfl) q⟩
      · obtain ⟨k', b, a, xs, rfl, hq, rs, _, h0⟩ := seq_inv r R1.sub hl
        exact ⟨k', a, xs, rfl, hq, k ρ1 Hf1 H1 _ _ b R1 s1 t1 (itD_en ek hq h0 rs) (fun z => absurd z hb) q⟩
theorem sts_nil : STs X EX Γ H0 E .nil [] := fun ρ σ Hf H Q QB R w k => mTs.of pts_nil (k true ρ Hf H R (Same.refl _) (Same.refl _) w)
theorem sts_one {x : Ex} {e : Expr} (h : ST X EX Γ H0 E x e) : STs X EX Γ H0 E (.cons x .nil) [e] := fun ρ σ Hf H Q QB R w k => mTs.of (pts_one (PT.m e)) (h ρ σ Hf H Q QB R w k)
theorem nset_fold {iter : Expr} {env : Env} (h : nset iter = true) : ∀ x, foldedSetIterable iter env x = pure x := fun x => by
  cases iter <;> first | rfl | (cases h; done)
/-- the block of a comprehension -/
theorem Cok.blk (c : Cok X xa Γ C sc) (s : Shared) (H : Hp) (scope : Scope) (cl : List (Str × Addr)) (L : Addr) (fp : List Addr) : Cok (X.blk s H scope (compEnvC scope cl L X.env) fp) xa Γ C (relS scope sc) where
  N := c.N
  nd := c.nd
  scp := by
    show (compEnvC scope cl L X.env).scope = relS scope sc
    rw [← c.scp]; rfl
  calm := c.calm
  room := c.room
  fns := c.fns
  opn := c.opn
  gi := c.gi
  gs := c.gs
  blt := c.blt
  un := c.un
  ex := c.ex
  hx := c.hx
  sub := c.sub
  cls := c.cls
theorem Gok.blk (hcm : C.calm = true) (c : Cok X xa Γ C sc) (s : Shared) (H : Hp) (scope : Scope) (cl : List (Str × Addr)) (L : Addr) (fp : List Addr) : Gok (X.blk s H scope (compEnvC scope cl L X.env) fp) C.N (some scope) (relS scope sc) where
  hN := c.N
  nd := c.nd
  scp := (c.blk s H scope cl L fp).scp
  calm := c.calm hcm
  fn := fun x h => by
    have h' := of_decide_eq_true h
    show (scope.names.lookup x == some .cell) = true
    rw [h']; rfl
theorem takesF {K : PySem.W.Frag} : Takes X (lowW K EX H0 xa (fun _ _ => False)) → True := fun _ => trivial
theorem takes_blk {X' : Cx} {H0 : Ent} : Takes X' (lowW X.K EX H0 xa (fun _ _ => False)) := takes0.imp fun _ _ _ _ h => by
  obtain ⟨_, _, _, _, _, _, _, _, _, _, _, _, z⟩ := h
  exact z
theorem tLc_ok (hcm : C.calm = true) (ek : EXok EX) (c : Cok X xa Γ C sc) {g : Tg} {k : ItK} {l t : Exs} {x : Ex} {tg iter elt : Expr} {ifs : List Expr} {scope : Scope} (ho : (ownOf C.N g.slots).map (·.2) = g.slots) (nx : nb x = true) (hcg : ckG C.N (some scope) (relS scope sc) g tg = true)
    (hI : SI X EX Γ H0 E k l tg iter) (hT : ∀ (X' : Cx) (H0 : Ent), Like X X' → Cok X' xa Γ C (relS scope sc) → Takes X' (lowW X.K EX H0 xa (fun _ _ => False)) → STs X' EX Γ H0 (fun _ _ => False) t ifs)
    (hE : ∀ (X' : Cx) (H0 : Ent), Like X X' → Cok X' xa Γ C (relS scope sc) → Takes X' (lowW X.K EX H0 xa (fun _ _ => False)) → SE X' EX Γ H0 (fun _ _ => False) x elt)
    {ρ : DEnv} {σ : L2.St} {Hf H : Hp} {Q : D → DEnv → Prop} {QV : VK} (R : SR X.K EX H0 ρ σ Hf H) (w : wE Γ E (.lc g k l t x) ρ Q)
    (kk : ∀ d ρ' v Hf' H', SR X.K EX H0 ρ' σ Hf' H' → Same Hf Hf' → Same H H' → RepF X.K H0 ρ' σ Hf' H' d v → Q d ρ' → QV v H') :
    tLc (mI X tg iter) (fun v σ H' Q => ∀ s H C cl fp, mG (X.blk s H scope (compEnvC scope cl C X.env) fp) tg v σ H' Q) (fun σ H' Q => ∀ s H C cl fp, mTs (X.blk s H scope (compEnvC scope cl C X.env) fp) ifs σ H' Q)
      (fun σ H' Q => ∀ s H C cl fp, mE (X.blk s H scope (compEnvC scope cl C X.env) fp) elt σ H' Q) ((ownOf C.N g.slots).map (·.2)) σ H QV :=
  lc_core' ek ho nx hI (fun s H L cl fp H0 ρ σ Hf H' d v Q QS R r w kg => sg (Gok.blk hcm c s H scope cl L fp) g tg hcg ρ σ Hf H' d v Q QS R r w kg)
    (fun s H L cl fp H0 => hT _ H0 ⟨rfl, rfl, rfl, rfl, rfl⟩ (c.blk s H scope cl L fp) takes_blk) (fun s H L cl fp H0 => hE _ H0 ⟨rfl, rfl, rfl, rfl, rfl⟩ (c.blk s H scope cl L fp) takes_blk) R w kk
/-- the parts of a block, at every block -/
def bG (X : Cx) (scope : Scope) (tg : Expr) : TG := fun v σ H' Q => ∀ s H C cl fp, mG (X.blk s H scope (compEnvC scope cl C X.env) fp) tg v σ H' Q
def bT (X : Cx) (scope : Scope) (ifs : List Expr) : TT := fun σ H' Q => ∀ s H C cl fp, mTs (X.blk s H scope (compEnvC scope cl C X.env) fp) ifs σ H' Q
def bE (X : Cx) (scope : Scope) (elt : Expr) : TE := fun σ H' Q => ∀ s H C cl fp, mE (X.blk s H scope (compEnvC scope cl C X.env) fp) elt σ H' Q
theorem bG_ok {scope : Scope} {tg : Expr} (s : Shared) (H : Hp) (L : Addr) (cl : List (Str × Addr)) (fp : List Addr) : PG (X.blk s H scope (compEnvC scope cl L X.env) fp) tg (bG X scope tg) := ⟨fun pins s' σ H' v u Q I r h => (PG.m tg).run pins s' σ H' v u Q I r (h s H L cl fp)⟩
theorem bT_ok {scope : Scope} {ifs : List Expr} (s : Shared) (H : Hp) (L : Addr) (cl : List (Str × Addr)) (fp : List Addr) : PTs (X.blk s H scope (compEnvC scope cl L X.env) fp) ifs (bT X scope ifs) := ⟨fun pins s' σ H' Q I h => h s H L cl fp pins s' I⟩
theorem bE_ok {scope : Scope} {elt : Expr} (s : Shared) (H : Hp) (L : Addr) (cl : List (Str × Addr)) (fp : List Addr) : PE (X.blk s H scope (compEnvC scope cl L X.env) fp) elt (bE X scope elt) := ⟨fun pins s' σ H' Q I h => h s H L cl fp pins s' I⟩
theorem se_lc (hcm : C.calm = true) (ek : EXok EX) (c : Cok X xa Γ C sc) {g : Tg} {k : ItK} {l t : Exs} {x : Ex} {tg iter elt : Expr} {ifs : List Expr} {scope : Scope} {pos : Pos} (ho : (ownOf C.N g.slots).map (·.2) = g.slots) (nx : nb x = true) (hcg : ckG C.N (some scope) (relS scope sc) g tg = true)
    (hs : nset iter = true) (hb : blkC C.N sc scope (ownOf C.N g.slots) = true)
    (hI : SI X EX Γ H0 E k l tg iter) (hT : ∀ (X' : Cx) (H0 : Ent), Like X X' → Cok X' xa Γ C (relS scope sc) → Takes X' (lowW X.K EX H0 xa (fun _ _ => False)) → STs X' EX Γ H0 (fun _ _ => False) t ifs)
    (hE : ∀ (X' : Cx) (H0 : Ent), Like X X' → Cok X' xa Γ C (relS scope sc) → Takes X' (lowW X.K EX H0 xa (fun _ _ => False)) → SE X' EX Γ H0 (fun _ _ => False) x elt) :
    SE X EX Γ H0 E (.lc g k l t x) (.ListComp elt [⟨tg, iter, ifs, 0⟩] scope pos) := fun ρ σ Hf H Q QV R w kk => by
  refine mE.of (pe_lc (own := ownOf C.N g.slots) (c.calm hcm) (by rw [c.N]; exact c.nd) (PI.m tg iter) (blkOk_by (by rw [c.N, c.scp]; exact hb)) bG_ok bT_ok bE_ok (nset_fold hs)) ?_
  exact tLc_ok hcm ek c ho nx hcg hI hT hE R w kk
end
end DL
/-! DL3: more walks: a range by steps, backwards -/
namespace DL
open PySem PySem.Spec PyProof.Rows L2
section
variable {K : PySem.W.Frag} {EX : EXT} {Hf0 H1 : Hp}
theorem itD_rngC (lo c : Int) (n : Nat) : ItD K EX false Hf0 H1 (Itc lo c n) ((List.range n).map fun (i : Nat) => .int (lo + (i : Int) * c)) where
  go := fun i Hf H _ _ _ hi => by
    rw [List.length_map, List.length_range] at hi
    exact hi
  stop := fun Hf H _ _ _ => by
    show n ≤ _
    rw [List.length_map, List.length_range]
    exact Nat.le_refl _
  yld := fun H0 i d H x H' Hf ρ σ R _ _ hd y => by
    obtain ⟨rfl, rfl⟩ := y
    rw [List.getElem?_map] at hd
    have hi : i < n := by
      cases e : (List.range n)[i]? with
      | none => rw [e] at hd; cases hd
      | some j =>
        have := (List.getElem?_eq_some_iff.mp e).1
        rwa [List.length_range] at this
    rw [List.getElem?_range hi] at hd
    cases hd
    exact ⟨Hf, R, Same.refl _, Same.refl _, .int _⟩
theorem rev_get {α : Type} {l : List α} {i : Nat} (h : i < l.length) : l.reverse[i]? = l[l.length - 1 - i]? := by
  rw [List.getElem?_reverse h]
theorem itD_rev {k b : Bool} {a : Addr} {xs : List V} {l : List D} (h1 : Sq K k H1 a xs) (h0 : b = false → Sq K k Hf0 a xs) (r : Reps K Hf0 l xs) : ItD K EX b Hf0 H1 (if k = true then Itv K a xs.length else RT.ItvT K a xs.length) l.reverse where
  go := fun i Hf H s t u hi => by
    have q := h1.keep h0 s t u
    have hl : i < xs.length := by rw [← r.length]; rw [List.length_reverse] at hi; exact hi
    have hx : xs[xs.length - 1 - i]? = some (xs[xs.length - 1 - i]'(by omega)) := by
      rw [List.getElem?_eq_getElem]
    cases k with
    | true => exact ⟨hl, xs, _, q, hx⟩
    | false => exact ⟨hl, xs, _, q, hx⟩
  stop := fun Hf H s t u => by
    have z : xs.length ≤ l.reverse.length := by rw [List.length_reverse, r.length]; exact Nat.le_refl _
    cases k with
    | true => exact z
    | false => exact z
  yld := fun H0 i d H x H' Hf ρ σ R s u hd y => by
    have q := h1.keep h0 s R.sub u
    have hi : i < l.length := by
      have := (List.getElem?_eq_some_iff.mp hd).1
      rwa [List.length_reverse] at this
    rw [rev_get hi, r.length] at hd
    obtain ⟨v, hv, rv⟩ := r.get hd
    have z : H' = H ∧ xs[xs.length - 1 - i]? = some x := by
      cases k with
      | true => exact ⟨y.1, y.2 xs q⟩
      | false => exact ⟨y.1, y.2 xs q⟩
    obtain ⟨rfl, hx⟩ := z
    rw [hv] at hx
    cases hx
    exact ⟨Hf, R, Same.refl _, Same.refl _, rv.same s⟩
end
section
variable {X : Cx} {EX : EXT} {Γ : Gm} {H0 : Ent} {E : DX → DEnv → Prop} {xa : Nat → Addr} {C : Cn} {sc : Scope}
theorem itW_rng3 {ds : List D} {P : List D → Prop} (w : itW .rng3 ds P) : ∃ a b c n, ds = [.int a, .int b, .int c] ∧ RgC a b c n ∧ P ((List.range n).map fun (i : Nat) => .int (a + (i : Int) * c)) := by
  unfold itW at w
  split at w
  all_goals first | (exact ⟨_, _, _, _, rfl, w.choose_spec.1, w.choose_spec.2⟩) | exact w.elim | (rename_i z _; cases z; done) | (rename_i z; cases z; done) | simp_all
theorem si_rng3 (ek : EXok EX) (c : Cok X xa Γ C sc) {x y z : Ex} {tg e f g : Expr} {p pos : Pos} (hg : gloB sc (Str.ofString "range") = true) (hn : nst e = true) (hn2 : nst f = true) (hn3 : nst g = true) (hx : SE X EX Γ H0 E x e) (hy : SE X EX Γ H0 E y f) (hz : SE X EX Γ H0 E z g) :
    SI X EX Γ H0 E .rng3 (.cons x (.cons y (.cons z .nil))) tg (.Call (.Name (Str.ofString "range") p) [e, f, g] [] pos) := fun ρ σ Hf H Q R S w k => by
  refine mI.of (pi_range3 (c.gl hg) (c.blt _ (by decide +kernel)) (PA.m [e, f, g]) (by rw [star_cons hn]) (by rw [star_cons hn2, star_cons hn3]; rfl)) ?_
  refine sa_cons ek hn hx (sa_cons ek hn2 hy (sa_cons ek hn3 hz sa_nil)) ρ σ Hf H _ _ S w fun ds ρ1 vs Hf1 H1 R1 s1 t1 rs _ w1 => ?_
  obtain ⟨a, b, d, n, rfl, hc, q⟩ := itW_rng3 w1
  cases rs with
  | cons r rs =>
    cases rs with
    | cons r2 rs =>
      cases rs with
      | cons r3 rs =>
        cases rs with
        | nil => exact ⟨a, b, d, n, by rw [r.int_inv, r2.int_inv, r3.int_inv], hc, k ρ1 Hf1 H1 _ _ false R1 s1 t1 (itD_rngC a d n) (fun _ => rfl) q⟩
theorem itW_rev {d : D} {P : List D → Prop} (w : itW .rev [d] P) : ∃ l, strsD d = some l ∧ P l.reverse := w
theorem si_rev (ek : EXok EX) (c : Cok X xa Γ C sc) {x : Ex} {tg e : Expr} {p pos : Pos} (hg : gloB sc (Str.ofString "reversed") = true) (hn : nst e = true) (hx : SE X EX Γ H0 E x e) : SI X EX Γ H0 E .rev (.cons x .nil) tg (.Call (.Name (Str.ofString "reversed") p) [e] [] pos) := fun ρ σ Hf H Q R S w k => by
  refine mI.of (RT.pi_revA (c.gl hg) (c.blt _ (by decide +kernel)) (PE.m e) (star_cons hn)) ?_
  refine hx ρ σ Hf H (fun d ρ1 => itW .rev [d] (Q ρ1)) _ S w fun d ρ1 v Hf1 H1 R1 s1 t1 r1 w1 => ?_
  obtain ⟨l, hl, q⟩ := itW_rev w1
  have fin : ∀ {Hf2 : Hp} {k' b : Bool} {a : Addr} {xs : List V}, SR X.K EX H0 ρ1 σ Hf2 H1 → Same Hf Hf2 → Sq X.K k' H1 a xs → (b = false → Sq X.K k' Hf2 a xs) → Reps X.K Hf2 l xs → (nbA (.cons x .nil) = true → b = false) → v = .ref a →
      ∃ (a : Addr) (xs : List V), v = .ref a ∧ ((SqL X.K H1 a xs ∧ R (Itv X.K a xs.length) H1) ∨ (SqT X.K H1 a xs ∧ R (RT.ItvT X.K a xs.length) H1)) := fun {Hf2 k' b a xs} R2 s2 h1 h0 rs hb e => by
    have it := itD_rev (EX := EX) h1 h0 rs
    have z := k ρ1 Hf2 H1 _ l.reverse b R2 s2 t1 it hb q
    cases k' with
    | true => exact ⟨a, xs, e, .inl ⟨h1, z⟩⟩
    | false => exact ⟨a, xs, e, .inr ⟨h1, z⟩⟩
  by_cases hb : nb x = true
  · obtain ⟨Hf2, R2, s2, r2⟩ := r1.freeze (nb_md hb) R1 ek
    obtain ⟨k', a, xs, rfl, hq, rs⟩ := seq_sh r2 hl
    exact fin R2 (s1.trans s2) (hq.same R2.sub) (fun _ => hq) rs (fun _ => rfl) rfl
  · obtain ⟨k', b, a, xs, rfl, hq, rs, _, h0⟩ := seq_inv r1.toB R1.sub hl
    exact fin R1 s1 hq h0 rs (fun z => absurd (show nb x = true from (Bool.and_eq_true_iff.mp (show (nb x && nbA .nil) = true from z)).1) hb) rfl
end
end DL
/-! DM: calls with keywords or with borrowed arguments, displays of dicts -/
namespace DL
open PySem PySem.Spec PyProof.Rows L2
theorem flat_rep {K : PySem.W.Frag} {H H' : Hp} {d : D} {v : V} (f : flatD d = true) (r : Rep K H d v) : Rep K H' d v := by
  cases r with
  | non => exact .non
  | bl => exact .bl _
  | int => exact .int _
  | str => exact .str _
  | _ => cases f
theorem flat_repX {K : PySem.W.Frag} {H H' : Hp} : ∀ {l : List (Str × D)} {xs : List (Str × V)}, (∀ p ∈ l, flatD p.2 = true) → RepX K H l xs → RepX K H' l xs
  | _, _, _, .nil => .nil
  | _, _, f, .cons r t => .cons (flat_rep (f _ List.mem_cons_self) r) (flat_repX (fun p h => f p (List.mem_cons_of_mem _ h)) t)
theorem Reps.pick {K : PySem.W.Frag} {H : Hp} {ds : List D} {vs : List V} (r : Reps K H ds vs) : ∀ pm : List Nat, Reps K H (pm.filterMap fun j => ds[j]?) (pm.filterMap fun j => vs[j]?)
  | [] => .nil
  | j :: pm => by
    have ih := Reps.pick r pm
    rw [List.filterMap_cons, List.filterMap_cons]
    cases e : ds[j]? with
    | none =>
      have : vs[j]? = none := by rw [List.getElem?_eq_none_iff] at e ⊢; rw [← r.length]; exact e
      rw [this]; exact ih
    | some d =>
      obtain ⟨v, hv, rv⟩ := r.get e
      rw [hv]; exact .cons rv ih
theorem vals_pick {vs : List V} {us : List Value} (r : Vals vs us) : ∀ pm : List Nat, Vals (pm.filterMap fun j => vs[j]?) (pm.filterMap fun j => us[j]?)
  | [] => .nil
  | j :: pm => by
    have ih := vals_pick r pm
    rw [List.filterMap_cons, List.filterMap_cons]
    cases e : vs[j]? with
    | none =>
      have : us[j]? = none := by rw [List.getElem?_eq_none_iff] at e ⊢; rw [← r.length]; exact e
      rw [this]; exact ih
    | some d =>
      obtain ⟨v, hv, rv⟩ := r.get e
      rw [hv]; exact .cons rv ih
section
variable {X : Cx} {CX : CXT} {k : Nat} {f : Addr} {fd : FuncData} {ps ks : List Str} {pm : List Nat} {sp : Sp} {E : L2.St → XK} {x : Str} {p pos : Pos} {kws : List Keyword} {t : TA}
theorem pe_callS0 (F : FnOk X.prog X.w X.K X.mg X.base CX k f fd ps sp) (hr : Room k X.A) (hg : Gl X x) (hm : X.mg x = some (.ref f)) (hk : PySem.W.keepIn X.K (.ref f) = true) (hb : Binds X.K fd ps []) (hx : ∀ σ, PassesAt CX X σ (E σ))
    (hdb : (x == ("__debug__" : Str)) = false) : PE X (.Call (.Name x p) [] [] pos) (tCallS sp E tNil) := by
  refine ⟨fun pins s σ H Q I h => ?_⟩
  refine wpAny_Call_Name_kw (ld_glob I hg hm ?_ hdb)
  exact PySem.W.callWith_K0 I.kIn hk (run_fnS (us := []) F hr hb (hx σ) I .nil h)
/-- how a call with keywords alone binds -/
def KB (K : PySem.W.Frag) (fd : FuncData) (ps ks : List Str) (pm : List Nat) : Prop := ∀ (s : Shared) (ws : List Value), K.In s.heap → ws.length = ks.length → BindsTo s fd ⟨[], ks.zip ws⟩ (ps.zip (pm.filterMap fun j => ws[j]?))
def tCallKS (sp : Sp) (n : Nat) (pm : List Nat) (E : L2.St → XK) (t : TA) : TE := fun σ H Q => t σ H fun zs H2 => zs.length = n ∧ sp (pm.filterMap fun j => zs[j]?) H2 Q (E σ)
theorem pe_callKS (F : FnOk X.prog X.w X.K X.mg X.base CX k f fd ps sp) (hr : Room k X.A) (hg : Gl X x) (hm : X.mg x = some (.ref f)) (hk : PySem.W.keepIn X.K (.ref f) = true) (hb : KB X.K fd ps ks pm) (hx : ∀ σ, PassesAt CX X σ (E σ))
    (hkw : PK X kws t) (hall : (backToKw pos (keywordEach kws X.env)).all (·.1.isSome) = true) (hks : (backToKw pos (keywordEach kws X.env)).filterMap (·.1) = ks) (hno : (backToKw pos (keywordEach kws X.env)).any (·.1.isNone) = false)
    (hdb : (x == ("__debug__" : Str)) = false) : PE X (.Call (.Name x p) [] kws pos) (tCallKS sp ks.length pm E t) := by
  refine ⟨fun pins s σ H Q I h => ?_⟩
  refine wpAny_Call_Name_kw (ld_glob I hg hm ?_ hdb)
  refine PySem.W.callWith_KW0 (h₀ := X.base) I.ok.mod.kin hk hall (thn (hkw.run pos pins s σ H _ I h) fun ws s2 ⟨zs, H2, I2, rz, hz, q2⟩ => ⟨I2.kIn, ?_⟩) (by rw [hno]; rfl)
  rw [hks]
  have r2 := vals_pick rz pm
  refine wpAny_call (codeAny_mono (F.run X.A X.stack s2 H2 ⟨[], ks.zip ws⟩ (pm.filterMap fun j => ws[j]?) (pm.filterMap fun j => zs[j]?) Q (E σ) hr I2.env0 (hb s2 ws I2.kIn (by rw [← rz.length]; exact hz)) r2 q2) fun r s' hq => ?_)
  cases r with
  | error e => exact hx σ pins H2 s2 e s' I2 hq
  | ok fl =>
    cases fl with
    | ret u => exact I2.after hq
    | next => exact False.elim hq
    | brk => exact False.elim hq
    | cont => exact False.elim hq
end
section
variable {X : Cx} {EX : EXT} {Γ : Gm} {H0 : Ent} {E : DX → DEnv → Prop} {xa : Nat → Addr} {C : Cn} {sc : Scope}
/-- a def keeps its promise when called with keywords -/
def FDK (X : Cx) (xa : Nat → Addr) (Γ : Gm) (C : Cn) (f : Nat) (ks : List Str) (pm : List Nat) : Prop :=
  ∃ (fa : Addr) (fd : FuncData) (ps : List Str), X.mg (C.nm f) = some (.ref fa) ∧ PySem.W.keepIn X.K (.ref fa) = true ∧ KB X.K fd ps ks pm ∧ FnOk X.prog X.w X.K X.mg X.base (L2.CX X.prog X.w) (C.lv f) fa fd ps (low X.K xa (Γ f))
theorem RepBs.reps {K : PySem.W.Frag} {Hf H : Hp} (s : Same Hf H) : ∀ {ds : List D} {vs : List V}, RepBs K Hf H ds vs → Reps K H ds vs
  | _, _, .nil => .nil
  | _, _, .cons r t => .cons (r.rep s) (RepBs.reps s t)
theorem call_core (ek : EXok EX) {f : Nat} {ds : List D} {vs : List V} {ρ1 : DEnv} {σ : L2.St} {Hf1 H1 : Hp} {Q : D → DEnv → Prop} {QV : VK} (R1 : SR X.K EX H0 ρ1 σ Hf1 H1) (rs : Reps X.K Hf1 ds vs)
    (w : Γ f ds (fun d => Q d ρ1) fun dx => E dx ρ1) (k : ∀ d v Hf' H', SR X.K EX H0 ρ1 σ Hf' H' → Same Hf1 Hf' → Same H1 H' → Rep X.K Hf' d v → Q d ρ1 → QV v H') :
    low X.K xa (Γ f) vs H1 QV (WE (lowW X.K EX H0 xa E) σ) :=
  ⟨ds, _, _, Hf1, R1.sub, rs, w, fun d v Hf2 H2 a1 a2 a3 a4 r q => k d v Hf2 H2 (R1.grow ek a2 a1 a3 a4) a2 a1 r q, fun cl l' dd xs Hf2 H2 a1 a2 a3 a4 hn hx rx q => ⟨cl, l', dd, xs, ρ1, Hf2, rfl, rfl, R1.grow ek a2 a1 a3 a4, R1.ent.free hn, hx, rx, q⟩⟩
theorem callB_core (ek : EXok EX) {f : Nat} {ds : List D} {vs : List V} {ρ1 : DEnv} {σ : L2.St} {Hf1 H1 : Hp} {Q : D → DEnv → Prop} {QV : VK} (R1 : SR X.K EX H0 ρ1 σ Hf1 H1) (rs : RepBs X.K Hf1 H1 ds vs)
    (w : Γ f ds (fun d => flatD d = true ∧ Q d ρ1) fun dx => (∀ p ∈ dx.2, flatD p.2 = true) ∧ E dx ρ1) (k : ∀ d v H', SR X.K EX H0 ρ1 σ Hf1 H' → Same H1 H' → Rep X.K Hf1 d v → Q d ρ1 → QV v H') :
    low X.K xa (Γ f) vs H1 QV (WE (lowW X.K EX H0 xa E) σ) := by
  have rr : Reps X.K H1 ds vs := rs.reps R1.sub
  exact ⟨ds, _, _, H1, Same.refl _, rr, w, fun d v Hf2 H2 a1 a2 a3 a4 r q => k d v H2 (R1.grow ek (Same.refl _) a1 (R1.sub.trans a1) fun _ _ z => z) a1 (flat_rep q.1 r) q.2,
    fun cl l' dd xs Hf2 H2 a1 a2 a3 a4 hn hx rx q => ⟨cl, l', dd, xs, ρ1, upd Hf1 dd (.xd xs), rfl, rfl, R1.grow ek (same_new (R1.fresh hn) _) a1 (fun b u z => by
      by_cases e : b = dd
      · subst e; rw [upd_same] at z; cases z; exact a3 _ _ hx
      · rw [upd_ne e] at z; exact a1 _ _ (R1.sub _ _ z)) (fun b z1 z2 => by
      rw [upd_ne (fun e => z1 (by rw [e]; exact hn))]; exact z2), R1.ent.free hn, upd_same, flat_repX q.1 rx, q.2⟩⟩
theorem se_call0 (ek : EXok EX) (hcm : C.calm = true) (c : Cok X xa Γ C sc) (tk : Takes X (lowW X.K EX H0 xa E)) {f : Nat} {x : Str} {p pos : Pos} (hx : x = C.nm f) (hg : gloB sc x = true) (hd : (x == ("__debug__" : Str)) = false) (hl : C.lv f ≤ C.k) (hf : f ∈ C.dep) :
    SE X EX Γ H0 E (.call f .nil) (.Call (.Name x p) [] [] pos) := fun ρ σ Hf H Q QV R w k => by
  obtain ⟨fa, fd, ps, hm, hk, hb, F⟩ := c.fns f hf
  subst hx
  refine mE.of (pe_callS0 F ((c.room hcm).mono hl) (c.gl hg) hm hk hb (fun σ => passAt tk σ) hd) ?_
  exact call_core ek R .nil w fun d v Hf' H' R' s t r q => k d ρ v Hf' H' R' s t r q
theorem se_callB0 (ek : EXok EX) (hcm : C.calm = true) (c : Cok X xa Γ C sc) (tk : Takes X (lowW X.K EX H0 xa E)) {f : Nat} {x : Str} {p pos : Pos} (hx : x = C.nm f) (hg : gloB sc x = true) (hd : (x == ("__debug__" : Str)) = false) (hl : C.lv f ≤ C.k) (hf : f ∈ C.dep) :
    SE X EX Γ H0 E (.callB f .nil) (.Call (.Name x p) [] [] pos) := fun ρ σ Hf H Q QV R w k => by
  obtain ⟨fa, fd, ps, hm, hk, hb, F⟩ := c.fns f hf
  subst hx
  refine mE.of (pe_callS0 F ((c.room hcm).mono hl) (c.gl hg) hm hk hb (fun σ => passAt tk σ) hd) ?_
  exact callB_core ek R .nil w fun d v H' R' t r q => k d ρ v Hf H' R' (Same.refl _) t r q
theorem se_callB (ek : EXok EX) (hcm : C.calm = true) (c : Cok X xa Γ C sc) (tk : Takes X (lowW X.K EX H0 xa E)) {f : Nat} {l : Exs} {x : Str} {p pos : Pos} {e : Expr} {es : List Expr} (hx : x = C.nm f) (hg : gloB sc x = true) (hd : (x == ("__debug__" : Str)) = false) (hl : C.lv f ≤ C.k) (hf : f ∈ C.dep) (hck : ckA C sc l (e :: es) = true)
    (h : SA X EX Γ H0 E l (e :: es)) : SE X EX Γ H0 E (.callB f l) (.Call (.Name x p) (e :: es) [] pos) := fun ρ σ Hf H Q QV R w k => by
  obtain ⟨fa, fd, ps, hm, hk, hb, F⟩ := c.fns f hf
  subst hx
  obtain ⟨z1, z2⟩ := args_plain (env := X.env) (pos := pos) hck
  refine mE.of (pe_callS F ((c.room hcm).mono hl) (c.gl hg) hm hk hb (fun σ => passAt tk σ) (PA.m (e :: es)) hd z1 z2) ?_
  refine h ρ σ Hf H _ _ R w fun ds ρ1 vs Hf1 H1 R1 s1 t1 rs _ w1 => ?_
  exact callB_core ek R1 rs w1 fun d v H' R' t r q => k d ρ1 v Hf1 H' R' s1 (t1.trans t) r q
/-- keywords -/
def mK (X : Cx) (kws : List Keyword) : TA := fun σ H Q => ∀ (pos : Pos) (pins : List (Addr × Obj)) (s : Shared), Inv X pins σ H s → wpAny (model X.prog X.w) X.A (evalAll ((backToKw pos (keywordEach kws X.env)).map (·.2))) (AP X pins σ Q) X.xe s
theorem PK.m (kws : List Keyword) : PK X kws (mK X kws) := ⟨fun pos pins s σ H Q I h => h pos pins s I⟩
theorem mK.of {kws : List Keyword} {t : TA} (h : PK X kws t) {σ : L2.St} {H : Hp} {Q : List V → Hp → Prop} (q : t σ H Q) : mK X kws σ H Q := fun pos pins s I => h.run pos pins s σ H Q I q
def SK (X : Cx) (EX : EXT) (Γ : Gm) (H0 : Ent) (E : DX → DEnv → Prop) (l : Exs) (es : List Keyword) : Prop := ∀ (ρ : DEnv) (σ : L2.St) (Hf H : Hp) (Q : List D → DEnv → Prop) (QA : List V → Hp → Prop), SR X.K EX H0 ρ σ Hf H → wA Γ E l ρ Q →
  (∀ ds ρ' vs Hf' H', SR X.K EX H0 ρ' σ Hf' H' → Same Hf Hf' → Same H H' → Reps X.K Hf' ds vs → Q ds ρ' → QA vs H') → mK X es σ H QA
theorem sk_nil : SK X EX Γ H0 E .nil [] := fun ρ σ Hf H Q QA R w k => mK.of pk_nil (k [] ρ [] Hf H R (Same.refl _) (Same.refl _) .nil w)
theorem sk_cons (ek : EXok EX) {x : Ex} {l : Exs} {e : Keyword} {es : List Keyword} (n : nb x = true) (hx : SE X EX Γ H0 E x e.value) (hl : SK X EX Γ H0 E l es) : SK X EX Γ H0 E (.cons x l) (e :: es) := fun ρ σ Hf H Q QA R w k => by
  obtain ⟨nm, ex, kp⟩ := e
  refine mK.of (pk_cons (PE.m ex) (PK.m es)) ?_
  refine hx ρ σ Hf H _ _ R w fun d1 ρ1 v1 Hf1 H1 R1 s1 t1 r1 w1 => ?_
  obtain ⟨Hf1', R1', s1', r1'⟩ := r1.freeze (nb_md n) R1 ek
  refine hl ρ1 σ Hf1' H1 _ _ R1' w1 fun ds ρ2 vs Hf2 H2 R2 s2 t2 rs w2 => ?_
  exact k (d1 :: ds) ρ2 (v1 :: vs) Hf2 H2 R2 (s1.trans (s1'.trans s2)) (t1.trans t2) (.cons (r1'.same s2) rs) w2
theorem kw_facts {env : Env} {pos : Pos} : ∀ {kws : List Keyword} {ks : List Str}, kws.map (·.arg) = ks.map some → (backToKw pos (keywordEach kws env)).all (·.1.isSome) = true ∧ (backToKw pos (keywordEach kws env)).filterMap (·.1) = ks ∧ (backToKw pos (keywordEach kws env)).any (·.1.isNone) = false
  | [], [], _ => ⟨rfl, rfl, rfl⟩
  | [], _ :: _, h => by cases h
  | _ :: _, [], h => by cases h
  | ⟨a, e, p⟩ :: kws, k :: ks, h => by
    rw [List.map_cons, List.map_cons] at h
    injection h with h1 h2
    have h1 : a = some k := h1
    subst h1
    obtain ⟨a1, a2, a3⟩ := kw_facts (env := env) (pos := pos) h2
    have e1 : backToKw pos (keywordEach (⟨some k, e, p⟩ :: kws) env) = (some k, (do let v ← eval e env; standAt pos; pure v)) :: backToKw pos (keywordEach kws env) := rfl
    rw [e1]
    exact ⟨by rw [List.all_cons, a1]; rfl, by rw [List.filterMap_cons]; exact congrArg _ a2, by rw [List.any_cons, a3]; rfl⟩
theorem se_callK (ek : EXok EX) (hcm : C.calm = true) (c : Cok X xa Γ C sc) (tk : Takes X (lowW X.K EX H0 xa E)) {f : Nat} {ks : List Str} {pm : List Nat} {l : Exs} {x : Str} {p pos : Pos} {kws : List Keyword} (hf : FDK X xa Γ C f ks pm) (hx : x = C.nm f) (hg : gloB sc x = true) (hd : (x == ("__debug__" : Str)) = false) (hl : C.lv f ≤ C.k) (hks : kws.map (·.arg) = ks.map some)
    (h : SK X EX Γ H0 E l kws) : SE X EX Γ H0 E (.callK f ks pm l) (.Call (.Name x p) [] kws pos) := fun ρ σ Hf H Q QV R w k => by
  obtain ⟨fa, fd, ps, hm, hk, hb, F⟩ := hf
  subst hx
  obtain ⟨z1, z2, z3⟩ := kw_facts (env := X.env) (pos := pos) hks
  refine mE.of (pe_callKS F ((c.room hcm).mono hl) (c.gl hg) hm hk hb (fun σ => passAt tk σ) (PK.m kws) z1 z2 z3 hd) ?_
  refine h ρ σ Hf H _ _ R w fun ds ρ1 vs Hf1 H1 R1 s1 t1 rs w1 => ⟨by rw [← rs.length]; exact w1.1, ?_⟩
  exact call_core ek R1 (rs.pick pm) w1.2 fun d v Hf' H' R' s t r q => k d ρ1 v Hf' H' R' (s1.trans s) (t1.trans t) r q
/-- an own dict, new -/
theorem se_dnew (ek : EXok EX) {pos : Pos} : SE X EX Γ H0 E .dnew (.Dict [] [] pos) := fun ρ σ Hf H Q QV R w k => by
  refine mE.of pe_dnewK ?_
  intro p hp
  exact k _ ρ _ Hf _ (R.newO ek hp _) (Same.refl _) (same_new hp _) (RepF.ownK (R.ent.free hp) (R.fresh hp) upd_same .nil (R.notOwn hp)) w
end
end DL
/-! DN: every expression that is checked keeps to what is asked of it -/
namespace DL
open PySem PySem.Spec PyProof.Rows L2
theorem mergeK_new : ∀ {more acc : List (Key × V)}, ((acc ++ more).map (·.1)).Nodup → mergeK acc more = acc ++ more
  | [], acc, _ => by rw [List.append_nil]; rfl
  | p :: r, acc, h => by
    have hp : (acc.any fun kv => decide (kv.1 = p.1)) = false := by
      rw [Bool.eq_false_iff]
      intro z
      obtain ⟨q, hq, e⟩ := List.any_eq_true.mp z
      have e := of_decide_eq_true e
      rw [List.map_append, List.nodup_append] at h
      exact h.2.2 q.1 (List.mem_map_of_mem hq) p.1 (by simp) e
    have e1 : putK acc p.1 p.2 = acc ++ [p] := by unfold putK; rw [if_neg (by rw [hp]; exact Bool.false_ne_true)]
    show mergeK (putK acc p.1 p.2) r = _
    rw [e1, mergeK_new (by rw [List.append_assoc]; exact h), List.append_assoc]
    rfl
section
variable {X : Cx} {EX : EXT} {Γ : Gm} {H0 : Ent} {E : DX → DEnv → Prop} {xa : Nat → Addr} {C : Cn} {sc : Scope}
def SPr (X : Cx) (EX : EXT) (Γ : Gm) (H0 : Ent) (E : DX → DEnv → Prop) (l : Exs) (es : List Expr) : Prop := ∀ (ks : List Str) (ρ : DEnv) (σ : L2.St) (Hf H : Hp) (Q : List D → DEnv → Prop) (QP : List (V × V) → Hp → Prop), ks.length = es.length → SR X.K EX H0 ρ σ Hf H → wA Γ E l ρ Q →
  (∀ ds ρ' vs Hf' H', SR X.K EX H0 ρ' σ Hf' H' → Same Hf Hf' → Same H H' → Reps X.K Hf' ds vs → Q ds ρ' → ds.length = ks.length → QP (List.zipWith (fun k v => (V.str k, v)) ks vs) H') → tPairs (List.zipWith (fun k e => (tC (.str k), mE X e)) ks es) σ H QP
theorem spr_nil : SPr X EX Γ H0 E .nil [] := fun ks ρ σ Hf H Q QP hl R w k => by
  cases ks with
  | nil => exact k [] ρ [] Hf H R (Same.refl _) (Same.refl _) .nil w rfl
  | cons _ _ => cases hl
theorem spr_cons (ek : EXok EX) {x : Ex} {l : Exs} {e : Expr} {es : List Expr} (n : nb x = true) (hx : SE X EX Γ H0 E x e) (hl : SPr X EX Γ H0 E l es) : SPr X EX Γ H0 E (.cons x l) (e :: es) := fun ks ρ σ Hf H Q QP hk R w k => by
  cases ks with
  | nil => cases hk
  | cons k0 ks =>
    show mE X e σ H _
    refine hx ρ σ Hf H _ _ R w fun d1 ρ1 v1 Hf1 H1 R1 s1 t1 r1 w1 => ?_
    obtain ⟨Hf1', R1', s1', r1'⟩ := r1.freeze (nb_md n) R1 ek
    refine hl ks ρ1 σ Hf1' H1 _ _ (by simpa using hk) R1' w1 fun ds ρ2 vs Hf2 H2 R2 s2 t2 rs w2 hlen => ?_
    exact k (d1 :: ds) ρ2 (v1 :: vs) Hf2 H2 R2 (s1.trans (s1'.trans s2)) (t1.trans t2) (.cons (r1'.same s2) rs) w2 (congrArg (· + 1) hlen)
theorem pps_of {pos : Pos} : ∀ {keys : List (Option Expr)} {ks : List Str} {es : List Expr}, keys.length = es.length → ks.length = keys.length → ((keys.zip ks).all fun p => match p.1 with
      | some (.Constant (.str x) _ _) => decide (x = p.2)
      | _ => false) = true → PPs X pos keys es (List.zipWith (fun k e => (tC (.str k), mE X e)) ks es)
  | [], [], [], _, _, _ => pps_nil
  | some k :: keys, k0 :: ks, e :: es, h1, h2, h => by
    rw [List.zip_cons_cons, List.all_cons, Bool.and_eq_true] at h
    have ih := pps_of (pos := pos) (keys := keys) (ks := ks) (es := es) (by simpa using h1) (by simpa using h2) h.2
    obtain ⟨h, _⟩ := h
    split at h
    · rename_i x a b ee
      injection ee with ee
      subst ee
      have ex := of_decide_eq_true h
      have ex : x = k0 := ex
      subst ex
      exact pps_cons pe_str (PE.m e) ih
    · cases h
  | none :: keys, k0 :: ks, e :: es, h1, h2, h => by
    rw [List.zip_cons_cons, List.all_cons, Bool.and_eq_true] at h
    exact absurd h.1 Bool.false_ne_true
theorem zip_rep {K : PySem.W.Frag} {H : Hp} : ∀ {ks : List Str} {ds : List D} {vs : List V}, Reps K H ds vs → RepK K H (List.zipWith (fun k d => ((Sum.inr k : Key), d)) ks ds) (List.zipWith (fun k v => ((Sum.inr k : Key), v)) ks vs)
  | [], _, _, _ => .nil
  | _ :: _, _, _, .nil => .nil
  | k :: ks, _, _, .cons r t => .cons r (zip_rep t)
theorem zip_pairs : ∀ (ks : List Str) (vs : List V), List.zipWith (fun k v => (V.str k, v)) ks vs = (List.zipWith (fun k v => ((Sum.inr k : Key), v)) ks vs).map fun kv => (kV kv.1, kv.2)
  | [], _ => rfl
  | _ :: _, [] => rfl
  | k :: ks, v :: vs => by
    have ih := zip_pairs ks vs
    show (V.str k, v) :: _ = (kV (Sum.inr k), v) :: _
    rw [ih]; rfl
theorem zip_keys : ∀ (ks : List Str) (vs : List V), ((List.zipWith (fun k v => ((Sum.inr k : Key), v)) ks vs).map (·.1)).Sublist (ks.map Sum.inr)
  | [], _ => List.Sublist.refl _
  | _ :: _, [] => List.nil_sublist _
  | k :: ks, v :: vs => (zip_keys ks vs).cons_cons _
theorem se_dsp (ek : EXok EX) {ks : List Str} {l : Exs} {keys : List (Option Expr)} {es : List Expr} {pos : Pos} (h1 : keys.length = es.length) (h2 : ks.length = keys.length) (hd : ks.Nodup) (h15 : keys.length ≤ 15) (hne : keys ≠ [])
    (hk : ((keys.zip ks).all fun p => match p.1 with
      | some (.Constant (.str x) _ _) => decide (x = p.2)
      | _ => false) = true) (h : ∀ H0, SPr X EX Γ H0 (fun _ _ => False) l es) : SE X EX Γ H0 E (.dsp ks l) (.Dict keys es pos) := fun ρ σ Hf H Q QV R w k => by
  have hall : keys.all (·.isSome) = true := by
    rw [List.all_eq_true]
    intro o ho
    obtain ⟨i, hi, e⟩ := List.getElem_of_mem ho
    have z := List.all_eq_true.mp hk (o, ks[i]'(by omega)) (by
      rw [List.mem_iff_getElem]
      exact ⟨i, by simp; omega, by simp [e]⟩)
    cases o with
    | none => cases z
    | some _ => rfl
  refine mE.of (pe_disp (pps_of h1 h2 hk) hall h1 hne h15) ?_
  intro p hp
  have R0 := R.newO ek hp (.dK [])
  refine h _ ks ρ σ Hf _ _ _ (h2.trans h1) R0.enter w fun ds ρ1 vs Hf1 H1 R1 s1 t1 rs w1 hl => ?_
  obtain ⟨rfl, w1⟩ := w1
  have nof := SR.leave R1 fun i s e o => ⟨e, rfl⟩
  have R2 := R0.grow ek s1 t1 R1.sub nof
  have hp1 : H1 p = some (.dK []) := t1 _ _ upd_same
  have n0 : Hf1 p = none := nof p (by rw [upd_same]; exact nofun) (R.fresh hp)
  have hz : H0.h p = none := R.ent.free hp
  have no := R.notOwn hp
  refine ⟨hp1, _, zip_pairs ks vs, ?_, ?_⟩
  · rw [List.length_zipWith]; omega
  · have hnd : (ks.map (Sum.inr : Str → Key)).Nodup := by
      unfold List.Nodup at hd ⊢
      rw [List.pairwise_map]
      exact hd.imp fun n e => n (Sum.inr.inj e)
    rw [mergeK_new (by rw [List.nil_append]; exact hnd.sublist (zip_keys ks vs)), List.nil_append]
    exact k _ ρ1 _ Hf1 _ (R2.other n0 hz no) s1 (same_other hp ((same_new hp _).trans t1)) (RepF.ownK hz n0 upd_same (zip_rep rs) no) w1
end
end DL
/-! DX1: exceptions within a suite -/
namespace DL
open PySem PySem.Spec PyProof.Rows L2
theorem of_and {a b : Bool} (h : (a && b) = true) : a = true ∧ b = true := Bool.and_eq_true_iff.mp h
theorem of_not {a : Bool} (h : (!a) = true) : a = false := by simpa using h
/-- X is the context of a suite, and its exception slots hold what it holds -/
def Sui (X : Cx) (EX : EXT) (xa : Nat → Addr) : Prop := ∃ (X0 : Cx) (a : Addr) (oe : Obj) (cls : Value) (d : Option Addr) (pn : List (Addr × Obj)), X = X0.suite a ((a, oe) :: pn) ∧ Zc cls d oe ∧ (∃ vs, oe.data = .fields vs) ∧
  ∀ v c l H, EX v c l H → v = .ref a ∧ cls = .ref (xa c) ∧ ∃ dd xs, d = some dd ∧ H dd = some (.xd xs) ∧ RepX X.K H l xs
/-- what stands at every place: the context, the keyword calls, what is taken of exceptions -/
structure Kx (X : Cx) (EX : EXT) (H0 : Ent) (xa : Nat → Addr) (Γ : Gm) (C : Cn) (sc : Scope) (E : DX → DEnv → Prop) : Prop where
  c : Cok X xa Γ C sc
  kw : ∀ p ∈ C.kw, FDK X xa Γ C p.1 p.2.1 p.2.2
  tk : Takes X (lowW X.K EX H0 xa E)
  sui : C.calm = false → Sui X EX xa
theorem RepX.look {K : PySem.W.Frag} {H : Hp} {f : Str} {d : D} : ∀ {l : List (Str × D)} {xs : List (Str × V)}, RepX K H l xs → l.lookup f = some d → ∃ v, xs.lookup f = some v ∧ Rep K H d v
  | _, _, .nil, h => by cases h
  | (x, d0) :: l, (_, v0) :: xs, .cons r t, h => by
    by_cases e : (f == x) = true
    · have h' : (match f == x with | true => some d0 | false => l.lookup f) = some d := h
      rw [e] at h'
      cases h'
      exact ⟨v0, by show (match f == x with | true => some v0 | false => xs.lookup f) = some v0; rw [e], r⟩
    · have e := Bool.eq_false_iff.mpr e
      have h' : (match f == x with | true => some d0 | false => l.lookup f) = some d := h
      rw [e] at h'
      obtain ⟨v, q, s⟩ := RepX.look t h'
      exact ⟨v, by show (match f == x with | true => some v0 | false => xs.lookup f) = some v; rw [e]; exact q, s⟩
section
variable {X : Cx} {EX : EXT} {Γ : Gm} {H0 : Ent} {E : DX → DEnv → Prop} {xa : Nat → Addr} {C : Cn} {sc : Scope}
theorem SR.drop {K : PySem.W.Frag} {ρ : DEnv} {σ : L2.St} {Hf H : Hp} (R : SR K EX H0 ρ σ Hf H) (i : Nat) : SR K EX H0 (ρ.set i .un) σ Hf H := by
  refine ⟨R.base, R.ent, R.nof, R.sub, by rw [List.length_set, R.len], fun j d' e => ?_, fun j p l e => ?_, fun j p l e => ?_, fun j c l e => ?_, fun j k s1 t a nn e1 e2 o1 o2 z1 z2 => ?_⟩
  · rcases get_set e with ⟨_, z, _⟩ | ⟨_, e⟩
    · cases z
    · exact R.sh j d' e
  · rcases get_set e with ⟨_, z, _⟩ | ⟨_, e⟩
    · cases z
    · exact R.own j p l e
  · rcases get_set e with ⟨_, z, _⟩ | ⟨_, e⟩
    · cases z
    · exact R.ownK j p l e
  · rcases get_set e with ⟨_, z, _⟩ | ⟨_, e⟩
    · cases z
    · exact R.exc j c l e
  · rcases get_set e1 with ⟨_, z, _⟩ | ⟨n1, e1⟩
    · rw [z] at o1; cases o1
    · rcases get_set e2 with ⟨_, z, _⟩ | ⟨n2, e2⟩
      · rw [z] at o2; cases o2
      · exact R.apart j k s1 t a nn e1 e2 o1 o2 z1 z2
theorem se_mv (c : Kx X EX H0 xa Γ C sc E) {i : Nat} {x : Str} {pos : Pos} (h : nmB C.N sc i x = true) : SE X EX Γ H0 E (.mv i) (.Name x pos) := fun ρ σ Hf H Q QV R w k => by
  have w' : (match ρ[i]? with
    | some (.own _ l) => Q (.lst l) (ρ.set i .un)
    | some (.ownK _ l) => Q (.dct l) (ρ.set i .un)
    | _ => False) := w
  have out : ∀ {s : Sl} {a : Addr}, ρ[i]? = some s → s.isOwn = true → σ[i]? = some (some (V.ref a)) → ∀ (j : Nat) (t : Sl), (ρ.set i .un)[j]? = some t → t.isOwn = true → σ[j]? ≠ some (some (V.ref a)) := fun {s a} e o q j t e2 o2 z => by
    rcases get_set e2 with ⟨_, y, _⟩ | ⟨n2, e2⟩
    · rw [y] at o2; cases o2
    · exact R.apart j i t s a n2 e2 e o2 o z q
  split at w' <;> first | exact w'.elim | skip
  · rename_i p l hx
    obtain ⟨a, xs, h1, h2, h3, r, h0, _⟩ := R.own i p l hx
    exact mE.of (c.c.pv h) ⟨_, h1, k _ _ _ Hf H (R.drop i) (Same.refl _) (Same.refl _) (RepF.own h0 h2 h3 r (out hx rfl h1)) w'⟩
  · rename_i p l hx
    obtain ⟨a, xs, h1, h2, h3, r, h0, _⟩ := R.ownK i p l hx
    exact mE.of (c.c.pv h) ⟨_, h1, k _ _ _ Hf H (R.drop i) (Same.refl _) (Same.refl _) (RepF.ownK h0 h2 h3 r (out hx rfl h1)) w'⟩
theorem se_fld (c : Kx X EX H0 xa Γ C sc E) {i : Nat} {f x : Str} {p pos : Pos} (h1 : nmB C.N sc i x = true) (hc : C.calm = false) : SE X EX Γ H0 E (.fld i f) (.Attribute (.Name x p) f pos) := fun ρ σ Hf H Q QV R w k => by
  obtain ⟨X0, a, oe, cls, d, pn, rfl, hz, hf, hE⟩ := c.sui hc
  have w' : (match ρ[i]? with
    | some (.exc c l) => ∃ fs d, Γ.cls c = some fs ∧ f ∈ fs ∧ l.lookup f = some d ∧ Q d ρ
    | _ => False) := w
  split at w' <;> first | exact w'.elim | skip
  rename_i ci l hx
  obtain ⟨fs, d0, hcl, hm, hl, q⟩ := w'
  obtain ⟨v, hv, ex⟩ := R.exc i ci l hx
  obtain ⟨rfl, hcls, dd, xs, rfl, hdd, rx⟩ := hE _ _ _ _ ex
  have K1 := c.c.cls ci fs hcl
  obtain ⟨u, hu, ru⟩ := rx.look hl
  refine mE.of (pe_xf (C := xa ci) K1.xf (K1.nf f hm) hz hf (c.c.pv h1)) ⟨_, hv, ?_⟩
  exact ⟨rfl, hcls, dd, xs, u, rfl, R.sub _ _ hdd, hu, k _ ρ _ Hf H R (Same.refl _) (Same.refl _) ru q⟩
theorem se_isE (c : Kx X EX H0 xa Γ C sc E) {i : Nat} {x y : Str} {p p1 p2 pos : Pos} (hg : gloB sc (Str.ofString "isinstance") = true) (h1 : nmB C.N sc i x = true) (h2 : gloB sc y = true) (hd : (y == ("__debug__" : Str)) = false) (hc : C.calm = false) :
    SE X EX Γ H0 E (.isE i y) (.Call (.Name (Str.ofString "isinstance") p) [.Name x p1, .Name y p2] [] pos) := fun ρ σ Hf H Q QV R w k => by
  obtain ⟨X0, a, oe, cls, d, pn, rfl, hz, hf, hE⟩ := c.sui hc
  have w' : (match ρ[i]? with
    | some (.exc c _) => ∃ b, Γ.sub c y = some b ∧ (Γ.cls c).isSome = true ∧ Q (.bl b) ρ
    | _ => False) := w
  split at w' <;> first | exact w'.elim | skip
  rename_i ci l hx
  obtain ⟨b, hb, hcs, q⟩ := w'
  obtain ⟨v, hv, ex⟩ := R.exc i ci l hx
  obtain ⟨rfl, hcls, dd, xs, rfl, hdd, rx⟩ := hE _ _ _ _ ex
  obtain ⟨vc, u, hm, ru, uu, hk, _⟩ := c.c.sub ci y b hb
  refine mE.of (pe_callB (id := "isinstance") mCa_ok (c.c.gl hg) (c.c.blt _ (by decide +kernel)) (by decide +kernel) (pa_cons (c.c.pv h1) (pa_cons (PE.m (.Name y p2)) pa_nil rfl) rfl) (by decide +kernel) (by decide +kernel) rfl rfl) ⟨_, hv, ?_⟩
  have P : PE (X0.suite a ((a, oe) :: pn)) (.Name y p2) (fun _ H Q => Q vc H) := ⟨fun pins s σ H Q I q => by
    rcases hm with hm | ⟨hm, hbt, hn⟩
    · exact ld_glob I (c.c.gl h2) hm (show EP _ pins σ Q _ s from ⟨vc, H, I, ru, q⟩) hd
    · exact ld_blt I (c.c.gl h2) hm hbt (show EP _ pins σ Q _ s from ⟨vc, H, I, ru, q⟩) hn hd⟩
  refine mE.of P fun pins s σ' us I r => ?_
  cases r with
  | cons rx' rr =>
    cases rr with
    | cons rt rr =>
      cases rr
      cases rx'
      cases uu _ rt
      obtain ⟨hget, _⟩ := I.pin (a, oe) (List.mem_append.mpr (.inl List.mem_cons_self))
      obtain ⟨vs, hdat⟩ := hf
      obtain ⟨mA, hns, hr⟩ : ObjOk X0.prog X0.w H s.heap dd (.xd xs) := I.hok dd _ (R.sub _ _ hdd)
      obtain ⟨od, ho, hl⟩ := lookIn_ns hns
      have J : PySem.W.InstAt s.heap a oe (xa ci) (some od) := ⟨hget, by rw [hz.1]; exact hcls, by unfold PySem.W.notCls; rw [hdat] <;> rfl, by rw [hz.2]; exact ho⟩
      obtain ⟨fs, hfs⟩ := Option.isSome_iff_exists.mp hcs
      have K1 := c.c.cls ci fs hfs
      exact PySem.W.kia_one (PySem.W.kitx_exc (od := some od) (ox := oe) (x := a) (C := xa ci) (gt := none) (by
        obtain ⟨cdD, hcD, _⟩ := PySem.W.any_some K1.xf.hdC
        rw [hcD]; rfl) K1.xf.ga K1.xf.gg K1.xf.exC K1.ha K1.hn K1.ht K1.hm) I.kIn J hk nofun fun tk => ⟨.bl b, H, I.tok tk, rfl, k _ ρ _ Hf H R (Same.refl _) (Same.refl _) (Rep.bl b) q⟩
end
end DL
/-! DZ2: the set of a tuple's texts, how many there are -/
namespace DL
open PySem PySem.Spec PyProof.Rows L2
theorem addS_any (l : List Str) (x k : Str) : (addS l x).any (· == k) = (l.any (· == k) || decide (k = x)) := by
  unfold addS
  split
  · rename_i h
    by_cases e : k = x
    · subst e; rw [h]; rfl
    · rw [decide_eq_false e, Bool.or_false]
  · rw [List.any_append]
    congr 1
    rw [List.any_cons, List.any_nil, Bool.or_false, Bool.eq_iff_iff, beq_iff_eq, decide_eq_true_eq]
    exact eq_comm
theorem addS_len (l : List Str) (x : Str) : (addS l x).length = if l.any (· == x) then l.length else l.length + 1 := by
  unfold addS; split <;> simp
theorem fold_len : ∀ (l a : List Str), (l.foldl addS a).length ≤ a.length + l.length
  | [], _ => by simp
  | x :: l, a => by
    have h := fold_len l (addS a x)
    have := addS_len a x
    rw [List.foldl_cons, List.length_cons]
    split at this <;> omega
theorem dedS_len (l : List Str) : (dedS l).length ≤ l.length := by
  have := fold_len l []
  simpa [dedS] using this
theorem dedS_snoc (l : List Str) (x : Str) : dedS (l ++ [x]) = addS (dedS l) x := by
  unfold dedS; rw [List.foldl_append]; rfl
theorem setOf_eq {prog : Program} {w : World} {h : Heap} {a : Addr} {S S' : Str → Bool} {n n' : Nat} (x : h.SetOf (PySem.strKind prog w) a S n) (e : ∀ k, S k = S' k) (en : n = n') : h.SetOf (PySem.strKind prog w) a S' n' := by
  obtain rfl : S = S' := funext e
  obtain rfl := en
  exact x
section
variable {prog : Program} {w : World} {A : Around} {R : Result → Shared → Prop} {I : Addr} {fp wr : List Addr} {G : Array GenState → Array GenState → Prop} {n : Nat} {P : Nat → Value → Prop} {St : Nat → Shared → Prop}
/-- all that the walk gives goes into the set at S -/
theorem fill_set (W : WalksS prog w A.in1 I fp wr G n P St) (S : Addr) (hSf : S ∉ fp) (xs : List Str) (hsz : xs.length = n) (hn : n ≤ 100) (hval : ∀ i v, P i v → ∃ t, v = .str (xs.getD i Str.empty) t) :
    ∀ (k i : Nat) (s : Shared), n - i = k → i ≤ n → St i s → s.heap.SetOf (PySem.strKind prog w) S (fun y => (dedS (xs.take i)).any (· == y)) (dedS (xs.take i)).length →
      (∀ s', Moved (S :: wr) G s s' → s'.heap.SetOf (PySem.strKind prog w) S (fun y => (dedS xs).any (· == y)) (dedS xs).length → R (.ok (.ret .none)) s') →
      codeAny (model prog w) A (.builtin "set.update.loop" ⟨[.ref S, .ref I], []⟩) R s := by
  have sw : S ∉ wr := fun h => hSf (W.sub _ h)
  have up : ∀ b ∈ wr, b ∈ S :: wr := fun b hb => List.mem_cons_of_mem _ hb
  have carry : ∀ (s s' : Shared) (T : Str → Bool) (m : Nat), Moved wr G s s' → s.heap.SetOf (PySem.strKind prog w) S T m → s'.heap.SetOf (PySem.strKind prog w) S T m := fun s s' T m hm ⟨o, es, ep, t, ho, rest⟩ => ⟨o, es, ep, t, hm.heap S _ sw ho, rest⟩
  intro k
  induction k with
  | zero =>
    intro i s hk hi hst hS hR
    obtain rfl : i = n := by omega
    rw [List.take_of_length_le (by omega)] at hS
    refine codeAny_builtin PyProof.Rows.F.entry_set_update_loop ?_; rw [Around.under_plainId PyProof.Rows.F.plain_set_update_loop _]
    show wpAny _ A.in1 (pyNext (.ref I) >>= _) _ _ s; refine wpAny_bind (W.done s _ _ hst fun s' hm => ?_)
    show wpAny _ A.in1 (ret Value.none) _ _ s'; exact wpAny_pure (hR s' (hm.mono up) (carry _ _ _ _ hm hS))
  | succ k ih =>
    intro i s hk hi hst hS hR
    have lt : i < n := by omega
    refine codeAny_builtin PyProof.Rows.F.entry_set_update_loop ?_; rw [Around.under_plainId PyProof.Rows.F.plain_set_update_loop _]
    show wpAny _ A.in1 (pyNext (.ref I) >>= _) _ _ s; refine wpAny_bind (W.item i s _ _ lt hst fun v s' hP hst' hm => ?_)
    obtain ⟨t, rfl⟩ := hval i v hP
    have hS' := carry _ _ _ _ hm hS
    have room : (dedS (xs.take i)).length + 1 < scanBound := by
      have := dedS_len (xs.take i)
      rw [List.length_take] at this
      unfold scanBound; omega
    show wpAny _ A.in1 (holding [Value.str (xs.getD i Str.empty) t] (setAdd S (.str (xs.getD i Str.empty) t)) >>= _) _ _ s'; refine wpAny_bind (wpAny_holding ?_)
    unfold setAdd; refine wpAny_holding ?_; refine wpAny_bind ((PySem.strKind prog w).pyHash (k := xs.getD i Str.empty) (strKind_is _ _ _ _) ?_)
    refine wpAny_setAddHashed_of (knd := PySem.strKind prog w) (s := { s' with toks := s'.toks + 1 }) (strKind_is _ _ _ _) rfl hS' room fun h' sb h2 => ?_
    have tk : xs.take (i + 1) = xs.take i ++ [xs.getD i Str.empty] := by
      rw [List.take_succ, List.getElem?_eq_getElem (by omega)]
      simp [List.getD, List.getElem?_eq_getElem (show i < xs.length by omega)]
    have h3 : h'.SetOf (PySem.strKind prog w) S (fun y => (dedS (xs.take (i + 1))).any (· == y)) (dedS (xs.take (i + 1))).length := by
      rw [tk, dedS_snoc]
      exact setOf_eq h2 (fun y => (addS_any _ _ _).symm) (addS_len _ _).symm
    refine wpAny_pure ⟨plainId_quiet PyProof.Rows.F.plain_set_update_loop _, ih (i + 1) _ (by omega) lt (W.frame _ s' _ _ hst' (Nat.le_succ _) fun b hb o e => ?_) h3 fun s'' hm2 hS2 => ?_⟩
    · have hne : b ≠ S := fun z => hSf (z ▸ hb)
      exact (sb.2 b hne).trans e
    · refine hR s'' (Moved.trans W.gtrans ((hm.mono up).then_heap (Nat.le_succ _) fun b o hb e => ?_) hm2) hS2
      have hne : b ≠ S := fun z => hb (z ▸ List.mem_cons_self)
      exact (sb.2 b hne).trans e
end
section
variable {prog : Program} {w : World} {A : Around} {E : Value → Shared → Prop} {s : Shared}
set_option maxHeartbeats 3200000 in
theorem set_of_tup {l : Addr} {items : Array Value} {xs : List Str} {Q : Value → Shared → Prop} (hh : A.handled = none) (hl : s.heap.IsTuple l items) (hi : PyProof.Rows.StrsAre items.toList xs) (hn : xs.length ≤ 100)
    (h : ∀ (h' : Heap) (tk : Nat), h'.SetOf (PySem.strKind prog w) s.heap.objs.size (fun y => (dedS xs).any (· == y)) (dedS xs).length → (∀ b o, b < s.heap.objs.size → s.heap.get? b = some o → h'.get? b = some o) → Q (.ref s.heap.objs.size) { s with heap := h', toks := tk }) :
    wpAny (model prog w) A (call (.type "set") [.ref l]) Q E s := by
  obtain ⟨c, tl, mro⟩ := PySem.F.called_set.mro
  have z1 := PySem.F.called_set.made
  have z2 := PySem.F.called_set.sub
  have hp : Heap := s.heap.push { cls := .type "set", dict := none, data := .set #[] 0 (.fresh 0 0 true) }
  refine wpAny_call (codeAny_of_tree ?_); show wpAny _ _ (callAny (.type "set") _) _ _ _
  refine wpAny_pure ⟨Code.quiet_builtin _ (by decide +kernel), codeAny_builtin PySem.F.entry_type_call ?_⟩; rw [Around.under_plain (weight_type_call_type "set" [.ref l] []) rfl]
  have z3 := PySem.F.called_set.notType
  have z4 := PySem.F.called_set.canCreate
  have z5 := PySem.F.typeCall_set_1 (.ref l)
  repeat (any_goals (first | assumption | wp_step))
  refine codeAny_mono (PySem.code_set_new_1 (.ref l) (E := E) (Q₁ := fun obj s₁ => ∃ led : Bool, obj = .ref s.heap.objs.size ∧ s₁ = { s with heap := s.heap.push { cls := .type "set", dict := none, data := .set #[] 0 (.fresh 0 0 led) } }) fun led => ⟨led, rfl, rfl⟩) fun r s₁ hr => ?_
  cases r with
  | error e => exact hr
  | ok fl =>
    cases fl with
    | ret obj =>
      obtain ⟨led, rfl, rfl⟩ := hr
      have hS : (s.heap.push { cls := .type "set", dict := none, data := .set #[] 0 (.fresh 0 0 led) }).get? s.heap.objs.size = some { cls := .type "set", dict := none, data := .set #[] 0 (.fresh 0 0 led) } := Heap.get?_push_size _ rfl
      have hT : Shared.TypeIs { s with heap := s.heap.push { cls := .type "set", dict := none, data := .set #[] 0 (.fresh 0 0 led) } } (.ref s.heap.objs.size) "set" := ⟨_, hS, rfl⟩
      have z6 := PySem.F.called_set.init.lookup
      have z7 := PySem.F.called_set.init.bind (.ref s.heap.objs.size)
      repeat (any_goals (first | assumption | wp_step))
      refine codeAny_mono (codeAny_call_builtin (R := wants (fun r s₂ => r = .none ∧ ∃ h' tk, s₂ = { s with heap := h', toks := tk } ∧ h'.SetOf (PySem.strKind prog w) s.heap.objs.size (fun y => (dedS xs).any (· == y)) (dedS xs).length ∧
          (∀ b o, b < s.heap.objs.size → s.heap.get? b = some o → h'.get? b = some o)) E) PySem.F.called_set.init.plain PySem.F.entry_set_init (PySem.check_set_init_1 hT ?_)) fun r₂ s₂ hr₂ => ?_
      · obtain ⟨⟨oc, od, oda, os⟩, hol, hcl, nl, hdl⟩ := hl
        simp only at hcl hdl
        subst hcl hdl
        have hol' : (s.heap.push { cls := .type "set", dict := none, data := .set #[] 0 (.fresh 0 0 led) }).get? l = some { cls := .type "tuple", dict := od, data := .seq items nl, slots := os } := Heap.get?_push_of_some _ hol
        have y1 := PySem.F.sub_tuple_set
        have y2 := PySem.F.sub_tuple_frozenset
        have y3 : (Value.type "tuple" == Value.type "dict") = false := by decide
        have hl1 : (s.heap.push { cls := .type "set", dict := none, data := .set #[] 0 (.fresh 0 0 led) }).IsTuple l items := ⟨_, hol', rfl, nl, rfl⟩
        unfold Builtin.«set.__init__» noKeywords Builtin.Frozenset.updateFrom; generalize hPI : pyIter = PI; wp_walk; subst hPI
        refine wpAny_pyIter_tuple hl1 ?_; refine wpAny_bind (wpAny_runValue ?_)
        have hlS : l < s.heap.objs.size := Heap.lt_size hol
        have h3 : A.in1.in1.in1.handled = none := by simp [hh]
        have ne1 : l ≠ (s.heap.push { cls := .type "set", dict := none, data := .set #[] 0 (.fresh 0 0 led) }).objs.size := by rw [Heap.size_push]; exact Nat.ne_of_lt (Nat.lt_succ_of_lt hlS)
        have sz : xs.length = items.size := by rw [← PyProof.Rows.StrsAre.len_eq hi, Array.length_toList]
        refine fill_set ((Walks.tuple h3 _ l ne1 items).toS) s.heap.objs.size ?f1 xs sz (by rw [← sz]; exact hn) (fun i v hv => SS.strs_at hi i v (by rw [Array.getElem?_toList]; exact hv)) (items.size - 0) 0 _ (by omega) (Nat.zero_le _) ⟨⟨_, Heap.get?_push_size _ rfl, rfl, rfl⟩, (hl1.push _)⟩ ?f2 ?f3
        case f1 => rw [Heap.size_push]; simp only [List.mem_cons, List.mem_singleton, List.not_mem_nil, or_false, not_or]; exact ⟨Nat.ne_of_lt (Nat.lt_succ_self _), Nat.ne_of_gt hlS⟩
        case f2 =>
          have g : ((s.heap.push { cls := .type "set", dict := none, data := .set #[] 0 (.fresh 0 0 led) }).push { cls := .type "tuple_iterator", data := .fields #[.ref l, .int 0 0] }).get? s.heap.objs.size = some { cls := .type "set", dict := none, data := .set #[] 0 (.fresh 0 0 led) } := Heap.get?_push_of_some _ hS
          exact setOf_eq ((PyProof.Rows.setObjOf_fresh (knd := PySem.strKind prog w) led).setOf g (by unfold scanBound; omega)) (fun _ => rfl) rfl
        case f3 =>
          rintro ⟨h', g', d', tk', os'⟩ hm hS'
          obtain rfl : g' = s.gens := hm.gens
          obtain rfl : d' = s.drawn := hm.drawn
          obtain rfl : os' = s.os := hm.os
          show wpAny _ _ _ _ _ _; refine wpAny_pure ?_; show wpAny _ _ (ret Value.none) _ _ _
          refine wpAny_pure ⟨rfl, h', tk', rfl, hS', fun b o hb e => hm.heap b o ?_ (Heap.get?_push_of_some _ (Heap.get?_push_of_some _ e))⟩
          simp only [List.mem_cons, List.mem_singleton, List.not_mem_nil, or_false, not_or]; rw [Heap.size_push]; exact ⟨Nat.ne_of_lt hb, Nat.ne_of_lt (Nat.lt_succ_of_lt hb)⟩
      · cases r₂ with
        | error e => exact hr₂
        | ok fl₂ =>
          cases fl₂ with
          | ret r =>
            obtain ⟨rfl, h', tk, rfl, hS', hk'⟩ := hr₂; repeat (any_goals (first | assumption | wp_step))
            exact h _ _ hS' hk'
          | _ => exact hr₂.elim
    | _ => exact hr.elim
end
/-- len(set(xs)), xs a tuple of texts -/
def tNs (K : PySem.W.Frag) (ta : TE) : TE := fun σ H Q => ta σ H fun x H1 => ∃ l, ∃ xs : List Str, x = .ref l ∧ SqT K H1 l (xs.map V.str) ∧ xs.length ≤ 100 ∧ Q (.int (dedS xs).length) H1
theorem pe_ns {X : Cx} {a : Expr} {ta : TE} {p p2 q pos : Pos} (hc : X.calm = true) (hg : Gl X "len") (hm : X.mg "len" = none) (hg2 : Gl X "set") (hm2 : X.mg "set" = none) (ha : PE X a ta) (na : starEach [a] X.env = (false, eval a X.env) :: starEach [] X.env) :
    PE X (.Call (.Name "len" p) [.Call (.Name "set" p2) [a] [] q] [] pos) (tNs X.K ta) := by
  refine ⟨fun pins s σ H Q I h => ?_⟩
  refine Call_ (ld_blt I hg hm boot_len (PyProof.Rows.callWith_builtin1 (PyProof.Rows.args_cons (Call_ (ld_blt I hg2 hm2 boot_set ?_)) rfl) rfl rfl))
  refine PyProof.Rows.callWith_type1 (PyProof.Rows.args_cons (thn (ha.run pins s σ H _ I h) fun v s1 ⟨x, H1, I1, r1, l, xs, ex, hq, h1, q1⟩ => PyProof.Rows.args_nil ?_) na) na rfl
  subst ex
  obtain rfl : v = Value.ref l := r1
  obtain ⟨its, r, pl, hz⟩ := I1.tuple hq
  refine set_of_tup (I1.ok.hd hc) pl (by simpa using strsAre_of r) h1 fun h' tk hS hk => PyProof.Rows.args_nil ?_
  obtain ⟨o, es, ep, t, ho, hex, hd, _, _, _, hf, hn⟩ := hS
  have lt := dedS_len xs
  exact call_len_set ho hex hd hf (by rw [hn] <;> omega) ⟨.int (dedS xs).length, H1, (I1.kept fun b o e => hk b o (Heap.lt_size e) e).tok _, ⟨_, by rw [hn]⟩, q1⟩
end DL
/-! DZ3: the number of different texts; a tuple turned round; a comprehension over a dict's keys -/
namespace DL
open PySem PySem.Spec PyProof.Rows L2
section
variable {X : Cx} {EX : EXT} {Γ : Gm} {H0 : Ent} {E : DX → DEnv → Prop} {xa : Nat → Addr} {C : Cn} {sc : Scope}
theorem se_ns (hcm : C.calm = true) (c : Cok X xa Γ C sc) {a : Ex} {e : Expr} {p p2 q pos : Pos} (hg : gloB sc (Str.ofString "len") = true) (hg2 : gloB sc (Str.ofString "set") = true) (hn : nst e = true) (ha : SE X EX Γ H0 E a e) :
    SE X EX Γ H0 E (.ns a) (.Call (.Name (Str.ofString "len") p) [.Call (.Name (Str.ofString "set") p2) [e] [] q] [] pos) := fun ρ σ Hf H Q QV R w k => by
  refine mE.of (pe_ns (c.calm hcm) (c.gl hg) (c.blt _ (by decide +kernel)) (c.gl hg2) (c.blt _ (by decide +kernel)) (PE.m e) (star_cons hn)) ?_
  refine ha ρ σ Hf H _ _ R w fun d1 ρ1 v1 Hf1 H1 R1 s1 t1 r1 w1 => ?_
  unfold nsW at w1
  split at w1
  · obtain ⟨xs, rfl, hz, q⟩ := w1
    obtain ⟨p, ys, rfl, h1, g1, rr⟩ := r1.toB.tup_inv R1.sub
    cases rr.strs
    exact ⟨p, xs, rfl, h1, hz, k _ ρ1 _ Hf1 H1 R1 s1 t1 (Rep.int _) q⟩
  · exact w1.elim
theorem se_trv (hcm : C.calm = true) (ek : EXok EX) (c : Cok X xa Γ C sc) {a : Ex} {e : Expr} {p p2 q pos : Pos} (hg : gloB sc (Str.ofString "tuple") = true) (hg2 : gloB sc (Str.ofString "reversed") = true) (hn : nst e = true) (ha : SE X EX Γ H0 E a e) :
    SE X EX Γ H0 E (.trv a) (.Call (.Name (Str.ofString "tuple") p) [.Call (.Name (Str.ofString "reversed") p2) [e] [] q] [] pos) := fun ρ σ Hf H Q QV R w k => by
  refine mE.of (RT.pe_tupRev (c.calm hcm) (c.gl hg) (c.blt _ (by decide +kernel)) (c.gl hg2) (c.blt _ (by decide +kernel)) (PE.m e) (star_cons hn) (star_cons rfl)) ?_
  refine ha ρ σ Hf H _ _ R w fun d1 ρ1 v1 Hf1 H1 R1 s1 t1 r1 w1 => ?_
  split at w1
  · obtain ⟨p, xs, rfl, h1, rr⟩ := r1.toB.lst_inv R1.sub
    have k2 : Kt X.K EX H0 ρ1 σ Hf1 H1 .fr (fun d => Q d ρ1) QV := fun d v Hf4 H4 R4 s4 t4 r4 q => k d ρ1 v Hf4 H4 R4 (s1.trans s4) (t1.trans t4) r4 q
    exact ⟨p, xs, rfl, h1, fun q hq => k2.tup R1 ek hq rr.reverse w1⟩
  · exact w1.elim
/-- a comprehension whose walk is known -/
theorem lc_core2 (ek : EXok EX) {g : Tg} {t : Exs} {x : Ex} {tg iter elt : Expr} {ifs : List Expr} {scope : Scope} {own : List (Str × Nat)} (ho : own.map (·.2) = g.slots) (nx : nb x = true)
    (hG : ∀ (s : Shared) (H : Hp) (C : Addr) (cl : List (Str × Addr)) (fp : List Addr) (H0 : Ent) (ρ : DEnv) (σ : L2.St) (Hf H' : Hp) (d : D) (v : V) (Q : DEnv → Prop) (QS : L2.St → Hp → Prop), SR X.K EX H0 ρ σ Hf H' → Rep X.K Hf d v → wG g d ρ Q → KG X.K EX H0 g.slots ρ σ Hf H' Q QS → mG (X.blk s H scope (compEnvC scope cl C X.env) fp) tg v σ H' QS)
    (hT : ∀ (s : Shared) (H : Hp) (C : Addr) (cl : List (Str × Addr)) (fp : List Addr) (H0 : Ent), STs (X.blk s H scope (compEnvC scope cl C X.env) fp) EX Γ H0 (fun _ _ => False) t ifs)
    (hE : ∀ (s : Shared) (H : Hp) (C : Addr) (cl : List (Str × Addr)) (fp : List Addr) (H0 : Ent), SE (X.blk s H scope (compEnvC scope cl C X.env) fp) EX Γ H0 (fun _ _ => False) x elt)
    {ρ1 : DEnv} {σ : L2.St} {Hf1 H1 : Hp} {Q : List D → Prop} {QV : VK} {J : It} {items : List D} {b : Bool} (R1 : SR X.K EX H0 ρ1 σ Hf1 H1) (it : ItD X.K EX b Hf1 H1 J items)
    (hI : ∀ R : It → Hp → Prop, R J H1 → mI X tg iter σ H1 R)
    (w1 : lcL (wG g) (wTs Γ (fun _ _ => False) t) (wE Γ (fun _ _ => False) x) (wipeD ρ1 g.slots) Q items [])
    (kk : ∀ acc v Hf' H', SR X.K EX H0 ρ1 σ Hf' H' → Same Hf1 Hf' → Same H1 H' → RepF X.K H0 ρ1 σ Hf' H' (.lst acc) v → Q acc → QV v H') :
    tLc (mI X tg iter) (fun v σ H' Q => ∀ s H C cl fp, mG (X.blk s H scope (compEnvC scope cl C X.env) fp) tg v σ H' Q) (fun σ H' Q => ∀ s H C cl fp, mTs (X.blk s H scope (compEnvC scope cl C X.env) fp) ifs σ H' Q)
      (fun σ H' Q => ∀ s H C cl fp, mE (X.blk s H scope (compEnvC scope cl C X.env) fp) elt σ H' Q) (own.map (·.2)) σ H1 QV := by
  rw [ho]
  refine hI _ ?_
  intro L hD
  let Inv1 : Nat → Hp → Prop := fun i H => ∃ (Hf : Hp) (acc : List D) (vs : List V), SR X.K EX H0 ρ1 σ Hf H ∧ Same Hf1 Hf ∧ Same H1 H ∧ H L = some (.lst vs) ∧ Hf L = none ∧ Reps X.K Hf acc vs ∧
    lcL (wG g) (wTs Γ (fun _ _ => False) t) (wE Γ (fun _ _ => False) x) (wipeD ρ1 g.slots) Q (items.drop i) acc
  have D0 : H0.h L = none := R1.ent.free hD
  have DO := R1.notOwn hD
  refine ⟨fun i m H => m = items.length - i ∧ i ≤ items.length ∧ Inv1 i H, ⟨items.length, by simp, Nat.zero_le _, Hf1, [], [], R1.newO ek hD _, Same.refl _, same_new hD _, upd_same, R1.fresh hD, .nil, w1⟩, ?_⟩
  rintro i m H2 ⟨rfl, hi, Hf2, acc, vs, R2, s2, t2, e2, n2, r2, w2⟩
  by_cases hlt : i < items.length
  · refine .inr ⟨it.go i Hf2 H2 s2 R2.sub (fun _ => t2) hlt, Inv1 (i + 1), fun H' p => ⟨items.length - (i + 1), by omega, rfl, hlt, p⟩, fun v H3 y => ?_⟩
    have hget : items[i]? = some items[i] := by simp [hlt]
    rw [List.drop_eq_getElem_cons hlt] at w2
    obtain ⟨Hf3, R3e, s3, t3, r3⟩ := it.yld _ i items[i] H2 v H3 Hf2 ρ1 σ R2.enter s2 (fun _ => t2) hget y
    have nof3 := SR.leave R3e fun i s e o => ⟨e, rfl⟩
    have R3 := R2.grow ek s3 t3 R3e.sub nof3
    have n3 : Hf3 L = none := nof3 L (by rw [e2]; exact nofun) n2
    have e3 := t3 _ _ e2
    have Rw := (R3.wipe g.slots).enter
    have w3 : wG g items[i] (wipeD ρ1 g.slots) fun ρ2 => wTs Γ (fun _ _ => False) t ρ2 fun b ρ3 => ρ3 = ρ2 ∧ if b = true then wE Γ (fun _ _ => False) x ρ3 fun y ρ4 => ρ4 = ρ3 ∧ acc.length < sizeLine ∧ lcL (wG g) (wTs Γ (fun _ _ => False) t) (wE Γ (fun _ _ => False) x) (wipeD ρ1 g.slots) Q (items.drop (i + 1)) (acc ++ [y]) else lcL (wG g) (wTs Γ (fun _ _ => False) t) (wE Γ (fun _ _ => False) x) (wipeD ρ1 g.slots) Q (items.drop (i + 1)) acc := w2
    intro s0 Hb Cb cl fp
    refine hG s0 Hb Cb cl fp _ _ _ Hf3 H3 _ v _ _ Rw r3 w3 fun ρ2 σ2 R4 g4 z4 w4 => ?_
    have keep : ∀ (i : Nat) (s : Sl), (wipeD ρ1 g.slots)[i]? = some s → s.isOwn = true → ρ2[i]? = some s ∧ σ2[i]? = (L2.wipe σ g.slots)[i]? := fun i s e o => by
      have hi : i ∉ g.slots := fun z => by
        rw [wipeD_un z e] at o; cases o
      obtain ⟨a1, a2⟩ := g4 i hi
      exact ⟨a1.trans e, a2⟩
    refine ⟨(z4 g.slots fun _ h => h).trans (wipe_idem fun _ h => h), ?_⟩
    intro s0 Hb Cb cl fp
    refine hT s0 Hb Cb cl fp _ ρ2 σ2 Hf3 H3 _ _ R4 w4 fun bb ρ3 Hf5 H5 R5 s5 t5 w5 => ?_
    obtain ⟨rfl, w5⟩ := w5
    cases bb with
    | false =>
      rw [if_neg Bool.false_ne_true] at w5 ⊢
      have nof5 := SR.leave R5 keep
      exact ⟨Hf5, acc, vs, R3.grow ek s5 t5 R5.sub nof5, s2.trans (s3.trans s5), t2.trans (t3.trans t5), t5 _ _ e3, nof5 L (by rw [e3]; exact nofun) n3, (r2.same s3).same s5, w5⟩
    | true =>
      rw [if_pos rfl] at w5 ⊢
      intro s0 Hb Cb cl fp
      refine hE s0 Hb Cb cl fp _ ρ3 σ2 Hf5 H5 _ _ R5 w5 fun y ρ4 u Hf6 H6 R6 s6 t6 r6 w6 => ?_
      obtain ⟨rfl, hz, w6⟩ := w6
      obtain ⟨Hf7, R7, s7, r7⟩ := r6.freeze (nb_md nx) R6 ek
      have nof7 := SR.leave R7 keep
      have sA : Same Hf3 Hf7 := s5.trans (s6.trans s7)
      have tA : Same H3 H6 := t5.trans t6
      have R8 := R3.grow ek sA tA R7.sub nof7
      have e6 := tA _ _ e3
      have n7 : Hf7 L = none := nof7 L (by rw [e3]; exact nofun) n3
      refine ⟨vs, e6, by rw [← r2.length]; exact hz, Hf7, acc ++ [y], vs ++ [u], R8.other n7 D0 DO, s2.trans (s3.trans sA), same_other hD (t2.trans (t3.trans tA)), upd_same, n7, ((r2.same s3).same sA).append (.one r7), w6⟩
  · have e : i = items.length := by omega
    subst e
    rw [List.drop_length] at w2
    refine .inl ⟨it.stop Hf2 H2 s2 R2.sub (fun _ => t2), kk _ _ Hf2 H2 R2 s2 t2 (.own D0 n2 e2 r2 DO) w2⟩
/-! ### the dict that is walked, locked -/
def lkH (d : Addr) (o : HO) (G : Hp) : Hp := fun b => if b = d then (G d).map fun _ => o else G b
theorem lk_same {d : Addr} {o : HO} {F G : Hp} (s : Same F G) : Same (lkH d o F) (lkH d o G) := fun b u q => by
  unfold lkH at q ⊢
  split at q
  · rename_i e
    subst e
    rw [if_pos rfl]
    cases h : F b with
    | none => rw [h] at q; cases q
    | some v => rw [h] at q; rw [s _ _ h]; exact q
  · rename_i e
    rw [if_neg e]; exact s _ _ q
theorem lk_ne {d b : Addr} {o : HO} {F : Hp} (e : b ≠ d) : lkH d o F b = F b := if_neg e
theorem lk_at {d : Addr} {o u : HO} {F : Hp} (h : F d = some u) : lkH d o F d = some o := by unfold lkH; rw [if_pos rfl, h]; rfl
theorem lk_upd {d : Addr} {o u : HO} {F : Hp} (h : F d = some u) : lkH d o F = upd F d o := by
  funext b
  by_cases e : b = d
  · subst e; rw [lk_at h, upd_same]
  · rw [lk_ne e, upd_ne e]
theorem keepD_get : ∀ {m : List Bool} {ρ : DEnv} {i : Nat} {s : Sl}, (keepD m ρ)[i]? = some s → s = .un ∨ (ρ[i]? = some s ∧ m[i]? = some true)
  | _, [], i, s, h => by
    cases i <;> (unfold keepD at h; simp at h)
  | true :: m, a :: r, 0, s, h => by cases h; exact .inr ⟨rfl, rfl⟩
  | false :: m, a :: r, 0, s, h => by cases h; exact .inl rfl
  | [], a :: r, 0, s, h => by cases h; exact .inl rfl
  | true :: m, a :: r, i + 1, s, h => keepD_get (m := m) (ρ := r) (i := i) h
  | false :: m, a :: r, i + 1, s, h => keepD_get (m := m) (ρ := r) (i := i) h
  | [], a :: r, i + 1, s, h => by
    rcases keepD_get (m := []) (ρ := r) (i := i) h with h | ⟨_, h⟩
    · exact .inl h
    · cases h
theorem keepD_len : ∀ (m : List Bool) (ρ : DEnv), (keepD m ρ).length = ρ.length
  | _, [] => by unfold keepD; rfl
  | true :: m, _ :: r => congrArg (· + 1) (keepD_len m r)
  | false :: m, _ :: r => congrArg (· + 1) (keepD_len m r)
  | [], _ :: r => congrArg (· + 1) (keepD_len [] r)
theorem plM_get : ∀ {m : List Bool} {ρ : DEnv} {i : Nat} {s : Sl}, PlM m ρ → ρ[i]? = some s → m[i]? = some true → ∃ d, s = .sh d ∧ Pl d
  | true :: m, a :: r, 0, s, h, e, _ => by cases e; exact h.1
  | true :: m, a :: r, i + 1, s, h, e, k => plM_get (m := m) (ρ := r) (i := i) h.2 e k
  | false :: m, a :: r, i + 1, s, h, e, k => plM_get (m := m) (ρ := r) (i := i) h e k
  | false :: m, a :: r, 0, s, h, e, k => by cases k
  | [], _, i, s, h, e, k => by cases k
  | _ :: _, [], i, s, h, e, k => by cases e
/-- the slots that are looked at, at heaps of another look -/
theorem keep_sr {K : PySem.W.Frag} {ρ : DEnv} {σ : L2.St} {Hf H F G : Hp} {m : List Bool} (R : SR K EX H0 ρ σ Hf H) (hm : PlM m ρ) (sim : Sim Hf F) (s : Same F G) : SR K EX ⟨F, G⟩ (keepD m ρ) σ F G where
  base := Same.refl _
  ent := Same.refl _
  nof := fun a _ h => h
  sub := s
  len := by rw [keepD_len]; exact R.len
  sh := fun i d e => by
    rcases keepD_get e with h | ⟨h, k⟩
    · cases h
    · obtain ⟨d', e', p⟩ := plM_get hm h k
      cases e'
      obtain ⟨v, h1, h2⟩ := R.sh i d h
      exact ⟨v, h1, p _ _ _ _ sim h2⟩
  own := fun i p l e => by
    rcases keepD_get e with h | ⟨h, k⟩
    · cases h
    · obtain ⟨d', e', _⟩ := plM_get hm h k; cases e'
  ownK := fun i p l e => by
    rcases keepD_get e with h | ⟨h, k⟩
    · cases h
    · obtain ⟨d', e', _⟩ := plM_get hm h k; cases e'
  exc := fun i c l e => by
    rcases keepD_get e with h | ⟨h, k⟩
    · cases h
    · obtain ⟨d', e', _⟩ := plM_get hm h k; cases e'
  apart := fun i j s t a _ e1 _ o1 _ _ _ => by
    rcases keepD_get e1 with h | ⟨h, k⟩
    · rw [h] at o1; cases o1
    · obtain ⟨d', e', _⟩ := plM_get hm h k; rw [e'] at o1; cases o1
theorem itD_keys {K : PySem.W.Frag} {d : Addr} {o : Obj} {xs : List (Key × V)} {l : List (Key × D)} {F G : Hp} {H0 : Hp} (h : F d = some (.frz o (.dK xs))) (r : RepK K H0 l xs) : ItD K EX false F G (Itk d o xs) (l.map fun kv => dK kv.1) where
  go := fun i Hf H s t _ hi => ⟨t _ _ (s _ _ h), by rw [List.length_map, r.length] at hi; exact hi⟩
  stop := fun Hf H s t _ => ⟨t _ _ (s _ _ h), by rw [List.length_map, r.length]; exact Nat.le_refl _⟩
  yld := fun H0 i dd H x H' Hf ρ σ R s _ hd y => by
    obtain ⟨rfl, k, v, hk, rfl⟩ := y
    refine ⟨Hf, R, Same.refl _, Same.refl _, ?_⟩
    obtain ⟨u, hu, ru⟩ := Reps.get (r.keys (H' := Hf)) hd
    rw [List.getElem?_map, hk] at hu
    cases hu
    exact ru
theorem se_lcK (hcm : C.calm = true) (ek : EXok EX) (c : Cok X xa Γ C sc) {g : Tg} {i : Nat} {m : List Bool} {t : Exs} {x : Ex} {tg elt : Expr} {n : Str} {p : Pos} {ifs : List Expr} {scope : Scope} {pos : Pos} (ho : (ownOf C.N g.slots).map (·.2) = g.slots) (nx : nb x = true) (hcg : ckG C.N (some scope) (relS scope sc) g tg = true)
    (hv : nmB C.N sc i n = true) (hb : blkC C.N sc scope (ownOf C.N g.slots) = true)
    (hT : ∀ (X' : Cx) (H0 : Ent), Like X X' → Cok X' xa Γ C (relS scope sc) → Takes X' (lowW X.K EX H0 xa (fun _ _ => False)) → STs X' EX Γ H0 (fun _ _ => False) t ifs)
    (hE : ∀ (X' : Cx) (H0 : Ent), Like X X' → Cok X' xa Γ C (relS scope sc) → Takes X' (lowW X.K EX H0 xa (fun _ _ => False)) → SE X' EX Γ H0 (fun _ _ => False) x elt) :
    SE X EX Γ H0 E (.lcK g i m t x) (.ListComp elt [⟨tg, .Name n p, ifs, 0⟩] scope pos) := fun ρ σ Hf H Q QV R w kk => by
  obtain ⟨l, hl, hm, w⟩ := w
  obtain ⟨v, hs, rv⟩ := R.sh i _ hl
  cases rv with
  | @dct d xs _ hd rk =>
    have lc := pe_lc (own := ownOf C.N g.slots) (c.calm hcm) (by rw [c.N]; exact c.nd) (PI.m tg (.Name n p)) (blkOk_by (by rw [c.N, c.scp]; exact hb)) (bG_ok (X := X) (tg := tg)) (bT_ok (ifs := ifs)) (bE_ok (elt := elt)) (nset_fold (by rfl)) (pos := pos)
    have core : ∀ {F G : Hp} {o : Obj} {QV : VK}, F d = some (.frz o (.dK xs)) → Same F G → Sim Hf F →
        (∀ acc v F' G', SR X.K EX ⟨F, G⟩ (keepD m ρ) σ F' G' → RepF X.K ⟨F, G⟩ (keepD m ρ) σ F' G' (.lst acc) v → ((∀ y ∈ acc, Pl y) ∧ Q (.lst acc) ρ) → QV v G') →
        tLc (mI X tg (.Name n p)) (bG X scope tg) (bT X scope ifs) (bE X scope elt) ((ownOf C.N g.slots).map (·.2)) σ G QV := fun {F G o QV} h1 h2 h3 fin =>
      lc_core2 (H0 := ⟨F, G⟩) ek ho nx (fun s H L cl fp H0 ρ σ Hf H' d v Q QS R r w kg => sg (Gok.blk hcm c s H scope cl L fp) g tg hcg ρ σ Hf H' d v Q QS R r w kg)
        (fun s H L cl fp H0 => hT _ H0 ⟨rfl, rfl, rfl, rfl, rfl⟩ (c.blk s H scope cl L fp) takes_blk) (fun s H L cl fp H0 => hE _ H0 ⟨rfl, rfl, rfl, rfl, rfl⟩ (c.blk s H scope cl L fp) takes_blk)
        (keep_sr R hm h3 h2) (itD_keys h1 rk) (fun R0 r0 => mI.of (pi_keys (c.pv hv)) ⟨_, hs, d, o, rfl, .inl ⟨xs, h2 _ _ h1, r0⟩⟩) w fun acc v F' G' R' _ _ r' q => fin acc v F' G' R' r' q
    rcases hd with hd | ⟨o, hd⟩
    · -- it is locked for the while
      have hH : H d = some (.dK xs) := R.sub _ _ hd
      refine mE.of (pe_lock lc) ⟨d, _, hH, trivial, fun od => ?_⟩
      rw [← lk_upd (o := .frz od (.dK xs)) hH]
      have sim : Sim Hf (lkH d (.frz od (.dK xs)) Hf) := fun b u nf h => by
        by_cases e : b = d
        · subst e
          rcases h with h | ⟨o', h⟩
          · rw [hd] at h; cases h; exact .inr ⟨od, lk_at hd⟩
          · rw [hd] at h; cases h
        · rcases h with h | ⟨o', h⟩
          · exact .inl (by rw [lk_ne e]; exact h)
          · exact .inr ⟨o', by rw [lk_ne e]; exact h⟩
      refine core (lk_at hd) (lk_same R.sub) sim fun acc v F' G' R' r' q => ?_
      · have hF' : F' d = some (.frz od (.dK xs)) := R'.base _ _ (lk_at hd)
        have hG' : G' d = some (.frz od (.dK xs)) := R'.ent _ _ (lk_at hH)
        refine ⟨hG', ?_⟩
        rw [← lk_upd (o := .dK xs) hG']
        have back : ∀ {A B : Hp}, A d = some (.dK xs) → Same (lkH d (.frz od (.dK xs)) A) B → Same A (lkH d (.dK xs) B) := fun {A B} ha s b u h => by
          by_cases e : b = d
          · subst e
            rw [ha] at h; cases h
            exact lk_at (s _ _ (lk_at ha))
          · rw [lk_ne e]; exact s _ _ (by rw [lk_ne e]; exact h)
        have s1 := back hd R'.base
        have s2 := back hH R'.ent
        have nof : ∀ a, H a ≠ none → Hf a = none → lkH d (.dK xs) F' a = none := fun a h1 h2 => by
          have e : a ≠ d := fun z => by rw [z, hd] at h2; cases h2
          rw [lk_ne e]
          exact R'.nof a (by show lkH _ _ H a ≠ none; rw [lk_ne e]; exact h1) (by show lkH _ _ Hf a = none; rw [lk_ne e]; exact h2)
        have R2 := R.grow ek s1 s2 (lk_same R'.sub) nof
        have sim2 : Sim F' (lkH d (.dK xs) F') := fun b u nf h => by
          by_cases e : b = d
          · subst e
            rcases h with h | ⟨o', h⟩
            · rw [hF'] at h; cases h; exact absurd rfl (nf _ _)
            · rw [hF'] at h; cases h; exact .inl (lk_at hF')
          · rcases h with h | ⟨o', h⟩
            · exact .inl (by rw [lk_ne e]; exact h)
            · exact .inr ⟨o', by rw [lk_ne e]; exact h⟩
        cases r' with
        | sh nn _ => cases nn
        | @own a _ vs z1 z2 z3 z4 z5 =>
          have za : a ≠ d := fun z => by rw [z, hG'] at z3; cases z3
          have hHa : H a = none := by
            have z1 : lkH d _ H a = none := z1
            rw [lk_ne za] at z1; exact z1
          refine kk _ ρ _ _ _ R2 s1 s2 (.own (R.ent.free hHa) (by rw [lk_ne za]; exact z2) (by rw [lk_ne za]; exact z3) ?_ (R.notOwn hHa)) q.2
          have : ∀ {l : List D} {vs : List V}, (∀ y ∈ l, Pl y) → Reps X.K F' l vs → Reps X.K (lkH d (.dK xs) F') l vs := fun {l} => by
            induction l with
            | nil => intro vs _ h; cases h; exact .nil
            | cons y l ih =>
              intro vs hp h
              cases h with
              | cons r t => exact .cons (hp y List.mem_cons_self _ _ _ _ sim2 r) (ih (fun z hz => hp z (List.mem_cons_of_mem _ hz)) t)
          exact this q.1 z4
    · refine mE.of lc ?_
      refine core hd R.sub (Sim.refl _) fun acc v F' G' R' r' q => ?_
      have R2 := R.grow ek R'.base R'.ent R'.sub R'.nof
      cases r' with
      | sh nn _ => cases nn
      | @own a _ vs z1 z2 z3 z4 z5 => exact kk _ ρ _ _ _ R2 R'.base R'.ent (.own (R.ent.free z1) z2 z3 z4 (R.notOwn z1)) q.2
end
end DL
/-! DY: a try with several clauses, each with a name or without -/
namespace DL
open PySem PySem.Spec PyProof.Rows L2
/-- the slots when a clause begins -/
def exσ (o : Option Nat) (a : Addr) (σ : L2.St) : L2.St := match o with
  | none => σ
  | some i => σ.set i (some (.ref a))
/-- .. and ends -/
def exN (o : Option Nat) (σ : L2.St) : L2.St := match o with
  | none => σ
  | some i => σ.set i none
def exD (o : Option Nat) (D : Ends) : Ends := { nx := fun σ' H' => D.nx (exN o σ') H', rt := D.rt, bk := fun σ' H' => D.bk (exN o σ') H', ct := fun σ' H' => D.ct (exN o σ') H' }
abbrev Cl := Value × Option Nat × (Addr → Value → Option Addr → TS)
/-- what the clauses wish of what was raised -/
def wCl (K : PySem.W.Frag) (Wout : WX) (D : Ends) : List Cl → WX
  | [] => Wout
  | (c, o, ts) :: r => fun cls d σ H => ∃ b, PySem.W.exmOne K cls c = some b ∧ (b = true → ∀ a, H a = none → ts a cls d (exD o D) (exσ o a σ) H) ∧ (b = false → wCl K Wout D r cls d σ H)
/-- a clause's name against its slot -/
def nmOk (X : Cx) : Option Str → Option Nat → Prop
  | none, none => True
  | some n, some i => X.N[i]? = some n ∧ X.env.kindOf n = some .local
  | _, _ => False
inductive ClsOk (X : Cx) : List ExceptHandler → List Cl → Prop
  | nil : ClsOk X [] []
  | cons {x : Str} {c : Value} {on : Option Str} {o : Option Nat} {ts : Addr → Value → Option Addr → TS} {st : Stmt} {sts : List Stmt} {p1 p2 : Pos} {hs : List ExceptHandler} {l : List Cl} (nm : Names X x c) (no : nmOk X on o)
      (su : ∀ (a : Addr) (oe : Obj) (cls : Value) (d : Option Addr) (pn : List (Addr × Obj)), Zc cls d oe → (∃ vs, oe.data = .fields vs) → PSs (X.suite a ((a, oe) :: pn)) (st :: sts) (ts a cls d)) (r : ClsOk X hs l) :
      ClsOk X (.ExceptHandler (some (.Name x p1)) on (st :: sts) p2 :: hs) ((c, o, ts) :: l)
section
variable {X : Cx} {pins : List (Addr × Obj)} {σ : L2.St} {H : Hp} {D : Ends} {Wout : WX}
/-- how a suite's end goes on -/
theorem suite_ends {f : Flow} {s : Shared} {a : Addr} {oe : Obj} (ok : X.Ok) (h : SP (X.suite a ((a, oe) :: (X.pn ++ pins))) [] D f s) : SP X pins D f s := by
  cases f <;> first
    | (obtain ⟨v, σ1, H1, J, r, q⟩ := h; exact ⟨v, σ1, H1, J.unsuite ok, r, q⟩)
    | (obtain ⟨σ1, H1, J, q⟩ := h; exact ⟨σ1, H1, J.unsuite ok, q⟩)
/-- the clauses, one after the other, e held -/
theorem clauses_ok {e : Addr} {B : Heap} {sI sT : Shared} {cls : Value} {d : Option Addr} {h3 : Heap} (hs : X.stack = X.env :: X.outer) (hf : X.env.frame = some X.env.locals) (nd : X.N.Nodup) (tk : Takes X Wout) (ok : X.Ok)
    (J : Inv X pins σ H sI) (nb : ∀ b o, sI.heap.get? b = some o → b ∉ frs X.stack → B.get? b = some o) (up : sI.heap.UpToSlots h3) (held : PySem.HandSPX.FlyingZ B (X.env :: X.outer) e (Zc cls d) h3) (na : H e = none) (os : sT.os = sI.os) (ag : AllBare sT.gens)
    (hT : sT.heap = h3) : ∀ {hds : List ExceptHandler} {l : List Cl}, ClsOk X hds l → wCl X.K Wout D l cls d σ H → wpAny (model X.prog X.w) X.A (handleBy (.ref e) X.env hds) (SP X pins D) X.xe sT := by
  have hTs : sT = { sT with heap := h3 } := by subst hT; rfl
  have Jat : ∀ {h4 : Heap}, PySem.HandSPX.FlyingZ B (X.env :: X.outer) e (Zc cls d) h4 → sI.heap.UpToSlots h4 → Inv X pins σ H { sT with heap := h4 } := fun g u => J.landed nb g.1 u os ag
  have apartL : ∀ {h4 : Heap} {oe : Obj} {vs : Array Value}, PySem.HandSPX.FlyingZ B (X.env :: X.outer) e (Zc cls d) h4 → h4.get? e = some oe → oe.data = .fields vs → e ≠ X.env.locals ∧ e ∉ X.fs := fun {h4 oe vs} g he hd => by
    have out : e ∉ frs (X.env :: X.outer) := fun hm => by
      obtain ⟨_, o', e', hnf⟩ := g.2.2.1.mem hm
      cases he.symm.trans e'
      exact hnf _ hd
    refine ⟨fun z => out (List.mem_filterMap.mpr ⟨X.env, List.mem_cons_self, hf.trans (congrArg some z.symm)⟩), fun hm => ?_⟩
    obtain ⟨e1, he1, q1⟩ := List.mem_filterMap.mp hm
    exact out (List.mem_filterMap.mpr ⟨e1, List.mem_cons_of_mem _ he1, q1⟩)
  obtain ⟨oe3, vs3, he3, hz3, hd3⟩ := held.there
  obtain ⟨nL, nF⟩ := apartL held he3 hd3
  have S3 := (Jat held up).suite he3 hd3 na nL nF
  intro hds l hk
  induction hk with
  | nil =>
    intro w
    rw [hTs]
    refine wpAny_handleBy_nil ?_
    have fin : wpAny (model X.prog X.w) X.A (setFlight (.ref e) X.env.frame) (fun _ s4 => wpAny (model X.prog X.w) X.A (throw (.ref e) : Sem Flow) (SP X pins D) X.xe s4) X.xe { sT with heap := h3 } := by
      rw [hf]
      exact PySem.HandSPX.setFlight_upZ held fun h4 g4 up4 => wpAny_throw (tk _ _ ⟨e, B, sI, pins, σ, H, cls, d, rfl, J, nb, up.trans up4, .inr (.inr (by rw [hs]; exact g4)), na, os, ag, w⟩)
    obtain ⟨k1, k2, k3, oe, vs, T, oT, ts', he, hz, hd, h1, hr⟩ := id held
    unfold PySem.passOn
    refine wpAny_bind (wpAny_field he hd h1 ?_)
    rw [if_neg (show ¬ ((Value.ref T == Value.none) = true) from by simp)]
    first | exact wpAny_bind (wpAny_pure (wpAny_bind fin)) | exact wpAny_bind fin
  | @cons x c on o ts st sts p1 p2 hs2 l2 nm no su r ih =>
    intro w
    obtain ⟨b, hb1, hyes, hno⟩ := w
    rw [hTs]
    refine wpAny_handleBy_cons (codeAny_handlers_test ?_) (by intro q; cases q)
    have LT : PySem.W.Looks (model X.prog X.w) h3 (typeOf (.ref e)) cls := fun A Q E s k q => wpAny_typeOf_ref (k _ _ he3) ((congrArg (fun z => Q z s) hz3.1).mpr q)
    have LM := PySem.W.exm_one (M := model X.prog X.w) S3.kIn LT hb1
    have look : ∀ {Q : Value → Shared → Prop} {E : Value → Shared → Prop}, Q c { sT with heap := h3 } → wpAny (model X.prog X.w) (X.A.mark (some (.ref e))) (eval (.Name x p1) X.env) Q E { sT with heap := h3 } := fun {Q E} q => by
      obtain ⟨hg, hdb, hm | ⟨hm, hv, hnn⟩⟩ := nm
      · exact ld_glob (X := X.suite e ((e, oe3) :: (X.pn ++ pins))) S3 hg hm q hdb
      · exact ld_blt (X := X.suite e ((e, oe3) :: (X.pn ++ pins))) S3 hg hm hv q hnn hdb
    refine look (LM.here ?_)
    cases b with
    | false =>
      have z := ih (hno rfl)
      rw [hTs] at z
      exact z
    | true =>
      have hy := hyes rfl e na
      cases on with
      | none =>
        cases o with
        | some i => exact no.elim
        | none =>
          refine codeAny_handlers_suite (PySem.HandSPX.lands_againZ held fun h4 g4 up4 => ?_)
          obtain ⟨oe4, vs4, he4, hz4, hd4⟩ := g4.there
          have S4 := (Jat g4 (up.trans up4)).suite he4 hd4 na nL nF
          exact wpAny_mono ((su e oe4 cls d (X.pn ++ pins) hz4 ⟨_, hd4⟩).run [] _ _ H D S4 hy) (fun f s6 q6 => suite_ends ok q6) fun _ _ z => False.elim z
      | some n =>
        cases o with
        | none => exact no.elim
        | some i =>
          obtain ⟨hi, hln⟩ := no
          refine codeAny_handlers_suite_as (PySem.HandSPX.lands_againZ held fun h4 g4 up4 => ?_)
          obtain ⟨oe4, vs4, he4, hz4, hd4⟩ := g4.there
          have S4 := (Jat g4 (up.trans up4)).suite he4 hd4 na nL nF
          refine store_ok (X := X.suite e ((e, oe4) :: (X.pn ++ pins))) (v := .ref e) S4 nd hi (.inl hln) rfl (fun s5 S5 => ?_) (.inr hln)
          refine wpAny_mono ((su e oe4 cls d (X.pn ++ pins) hz4 ⟨_, hd4⟩).run [] s5 _ H _ S5 hy) (fun f s6 q6 => ?_) fun _ _ z => False.elim z
          have q7 := suite_ends (pins := pins) ok q6
          cases f <;> first
            | (obtain ⟨v, σ1, H1, J1, r1, q⟩ := q7; exact gone_ok J1 nd hi hln fun s7 J7 => ⟨_, _, _, J7, r1, q⟩)
            | (obtain ⟨σ1, H1, J1, q⟩ := q7; exact gone_ok J1 nd hi hln fun s7 J7 => ⟨_, _, J7, q⟩)
/-- a try whose body runs on when nothing is raised -/
theorem ps_try_cl {body : List Stmt} {h₀ : ExceptHandler} {hds : List ExceptHandler} {l : List Cl} {pos : Pos} {tb : WX → TS} (hs : X.stack = X.env :: X.outer) (hf : X.env.frame = some X.env.locals) (nd : X.N.Nodup) (tk : Takes X Wout)
    (hb : ∀ (W : WX) (pn : List (Addr × Obj)) (xe : Value → Shared → Prop), Takes (X.tr pn xe) W → PassesOwn (model X.prog X.w) X.A X.env xe → PSs (X.tr pn xe) body (tb W))
    (hh : ClsOk X (h₀ :: hds) l) : PS X (.Try body (h₀ :: hds) [] [] pos) (fun D σ H => tb (wCl X.K Wout D l) D σ H) := by
  constructor
  intro pins s σ H D I h
  have ok := I.ok
  refine wpAny_Try_except (wpAny_mono ((hb (wCl X.K Wout D l) (X.pn ++ pins) (fun e s1 => wpAny (model X.prog X.w) X.A (noteFrame e X.env) (fun _ s2 => wpAny (model X.prog X.w) X.A (setFlight e none) (fun _ s3 =>
    wpAny (model X.prog X.w) X.A (handleBy e X.env (h₀ :: hds)) (SP X pins D) X.xe s3) X.xe s2) X.xe s1) (fun u sT xx => ?_) PassesOwn.looking).run [] s σ H D (I.toTry _) h) (fun f s1 q => ?_) fun e s1 z => z)
  · obtain ⟨e, B, sI, pins', σ', H', cls, d, rfl, J', nb, up, sky, na, os, ag, w⟩ := xx
    have J : Inv X pins σ' H' sI := J'.ofTry ok
    refine Sky.land Zc.steady (by rw [ok.frames, hs]) hf (by rw [← hs]; exact sky) fun h3 g3 up3 => ?_
    exact clauses_ok (sT := { sT with heap := h3 }) hs hf nd tk ok J nb (up.trans up3) g3 na os ag rfl hh w
  · cases f <;> first
      | (obtain ⟨v, σ1, H1, J1, r1, q⟩ := q; exact ⟨v, σ1, H1, J1.ofTry ok, r1, q⟩)
      | (obtain ⟨σ1, H1, J1, q⟩ := q; exact wpAny_execs_nil ⟨σ1, H1, J1.ofTry ok, q⟩)
      | (obtain ⟨σ1, H1, J1, q⟩ := q; exact ⟨σ1, H1, J1.ofTry ok, q⟩)
end
end DL
/-! DO: every expression that is checked keeps to what is asked of it -/
namespace DL
open PySem PySem.Spec PyProof.Rows L2
section
variable {EX : EXT} {Γ : Gm} {xa : Nat → Addr} {C : Cn}
theorem se_wk {X : Cx} {H0 : Ent} {E : DX → DEnv → Prop} {x : Ex} {e : Expr} (m : md x = .sh) (h : SE X EX Γ H0 E x e) : SE X EX Γ H0 E (.wk x) e := fun ρ σ Hf H Q QV R w k => by
  refine h ρ σ Hf H _ _ R w fun d ρ1 v Hf1 H1 R1 s1 t1 r1 w1 => ?_
  rw [m] at r1
  obtain ⟨d', hd, q⟩ := w1
  exact k d' ρ1 v Hf1 H1 R1 s1 t1 (hd _ _ _ r1) q
theorem takes_no {X : Cx} {H0 H0' : Ent} {E : DX → DEnv → Prop} (tk : Takes X (lowW X.K EX H0 xa E)) : Takes X (lowW X.K EX H0' xa fun _ _ => False) := takes_blk
theorem se_call' (ek : EXok EX) (hcm : C.calm = true) {X : Cx} {H0 : Ent} {sc : Scope} {E : DX → DEnv → Prop} (c : Cok X xa Γ C sc) (tk : Takes X (lowW X.K EX H0 xa E)) {f : Nat} {l : Exs} {x : Str} {p pos : Pos} {es : List Expr} (hx : x = C.nm f) (hg : gloB sc x = true) (hd : (x == ("__debug__" : Str)) = false) (hl : C.lv f ≤ C.k) (hf : f ∈ C.dep) (hck : ckA C sc l es = true)
    (n : nbA l = true) (h : SA X EX Γ H0 E l es) : SE X EX Γ H0 E (.call f l) (.Call (.Name x p) es [] pos) := by
  cases es with
  | nil => rw [ckA_nil hck]; exact se_call0 ek hcm c tk hx hg hd hl hf
  | cons e es => exact se_call ek hcm c tk hx hg hd hl hf hck n h
theorem se_callB' (ek : EXok EX) (hcm : C.calm = true) {X : Cx} {H0 : Ent} {sc : Scope} {E : DX → DEnv → Prop} (c : Cok X xa Γ C sc) (tk : Takes X (lowW X.K EX H0 xa E)) {f : Nat} {l : Exs} {x : Str} {p pos : Pos} {es : List Expr} (hx : x = C.nm f) (hg : gloB sc x = true) (hd : (x == ("__debug__" : Str)) = false) (hl : C.lv f ≤ C.k) (hf : f ∈ C.dep) (hck : ckA C sc l es = true)
    (h : SA X EX Γ H0 E l es) : SE X EX Γ H0 E (.callB f l) (.Call (.Name x p) es [] pos) := by
  cases es with
  | nil => rw [ckA_nil hck]; exact se_callB0 ek hcm c tk hx hg hd hl hf
  | cons e es => exact se_callB ek hcm c tk hx hg hd hl hf hck h
theorem Like.kx (hcm : C.calm = true) {X X' : Cx} (l : Like X X') {H0 H0' : Ent} {sc sc' : Scope} {E : DX → DEnv → Prop} (c : Kx X EX H0 xa Γ C sc E) (h2 : Cok X' xa Γ C sc') (h3 : Takes X' (lowW X.K EX H0' xa fun _ _ => False)) : Kx X' EX H0' xa Γ C sc' (fun _ _ => False) := by
  refine ⟨h2, fun p hp => ?_, by rw [l.K]; exact h3, fun z => by rw [hcm] at z; cases z⟩
  obtain ⟨fa, fd, ps, a1, a2, a3, a4⟩ := c.kw p hp
  exact ⟨fa, fd, ps, by rw [l.mg]; exact a1, by rw [l.K]; exact a2, by rw [l.K]; exact a3, by rw [l.prog, l.w, l.K, l.mg, l.base]; exact a4⟩
mutual
theorem sE (ek : EXok EX) : ∀ (x : Ex) (X : Cx) (H0 : Ent) (E : DX → DEnv → Prop) (sc : Scope) (e : Expr), Kx X EX H0 xa Γ C sc E → ck C sc x e = true → SE X EX Γ H0 E x e
  | .v i, X, H0, E, sc, e, c, h => by
    unfold ck at h; split at h <;> first | (cases h; done) | skip
    exact se_v ek c.c h
  | .b i, X, H0, E, sc, e, c, h => by
    unfold ck at h; split at h <;> first | (cases h; done) | skip
    exact se_b c.c h
  | .fr i x, X, H0, E, sc, e, c, h => by
    unfold ck at h
    exact se_fr ek (sE ek x X H0 E sc e c h)
  | .tr x, X, H0, E, sc, e, c, h => by
    unfold ck at h
    exact sE ek x X H0 E sc e c (of_and h).1
  | .wk x, X, H0, E, sc, e, c, h => by
    unfold ck at h
    exact se_wk (of_decide_eq_true (of_and h).2) (sE ek x X H0 E sc e c (of_and h).1)
  | .gi x n, X, H0, E, sc, e, c, h => by
    unfold ck at h; split at h <;> first | (cases h; done) | skip
    obtain ⟨h, h4⟩ := of_and h
    obtain ⟨h, h3⟩ := of_and h
    obtain ⟨h1, h2⟩ := of_and h
    cases of_decide_eq_true h1
    obtain ⟨t, ht⟩ := c.c.gi _ (of_decide_eq_true h4)
    exact fun ρ σ Hf H Q QV R w k => mE.of (⟨fun pins s σ H Q I q => ld_glob I (c.c.gl h2) ht (show EP X pins σ Q _ s from ⟨.int n, H, I, ⟨t, rfl⟩, q⟩) (of_not h3)⟩ : PE X _ (tC (.int n))) (k _ ρ _ Hf H R (Same.refl _) (Same.refl _) (Rep.int n) w)
  | .gs x n, X, H0, E, sc, e, c, h => by
    unfold ck at h; split at h <;> first | (cases h; done) | skip
    obtain ⟨h, h4⟩ := of_and h
    obtain ⟨h, h3⟩ := of_and h
    obtain ⟨h1, h2⟩ := of_and h
    cases of_decide_eq_true h1
    obtain ⟨t, ht⟩ := c.c.gs _ (of_decide_eq_true h4)
    exact fun ρ σ Hf H Q QV R w k => mE.of (⟨fun pins s σ H Q I q => ld_glob I (c.c.gl h2) ht (show EP X pins σ Q _ s from ⟨.str n, H, I, ⟨t, rfl⟩, q⟩) (of_not h3)⟩ : PE X _ (tC (.str n))) (k _ ρ _ Hf H R (Same.refl _) (Same.refl _) (Rep.str n) w)
  | .int n, X, H0, E, sc, e, c, h => by
    unfold ck at h; split at h <;> first | (cases h; done) | skip
    cases of_decide_eq_true h
    exact se_int
  | .str n, X, H0, E, sc, e, c, h => by
    unfold ck at h; split at h <;> first | (cases h; done) | skip
    cases of_decide_eq_true h
    exact se_str
  | .bl n, X, H0, E, sc, e, c, h => by
    unfold ck at h; split at h <;> first | (cases h; done) | skip
    cases of_decide_eq_true h
    exact se_bl
  | .non, X, H0, E, sc, e, c, h => by
    unfold ck at h; split at h <;> first | (cases h; done) | skip
    exact se_non
  | .bin o a b, X, H0, E, sc, e, c, h => by
    unfold ck at h; split at h <;> first | (cases h; done) | skip
    obtain ⟨h, h3⟩ := of_and h
    obtain ⟨h1, h2⟩ := of_and h
    exact se_bin ek h1 (sE ek a X H0 E sc _ c h2) (sE ek b X H0 E sc _ c h3)
  | .neg a, X, H0, E, sc, e, c, h => by
    unfold ck at h; split at h <;> first | (cases h; done) | skip
    exact se_neg (sE ek a X H0 E sc _ c h)
  | .not a, X, H0, E, sc, e, c, h => by
    unfold ck at h; split at h <;> first | (cases h; done) | skip
    exact se_not (sE ek a X H0 E sc _ c h)
  | .cmp o a b, X, H0, E, sc, e, c, h => by
    unfold ck at h; split at h <;> first | (cases h; done) | skip
    obtain ⟨h, h4⟩ := of_and h
    obtain ⟨h, h3⟩ := of_and h
    obtain ⟨h1, h2⟩ := of_and h
    exact se_cmp c.c.hu h1 (of_not h4) (sE ek a X H0 E sc _ c h2) (sE ek b X H0 E sc _ c h3)
  | .cmp2 o q a b d, X, H0, E, sc, e, c, h => by
    unfold ck at h; split at h <;> first | (cases h; done) | skip
    obtain ⟨h, h6⟩ := of_and h
    obtain ⟨h, h5⟩ := of_and h
    obtain ⟨h, h4⟩ := of_and h
    obtain ⟨h, h3⟩ := of_and h
    obtain ⟨h1, h2⟩ := of_and h
    exact se_cmp2 c.c.hu h1 h2 (of_not h6) (sE ek a X H0 E sc _ c h3) (sE ek b X H0 E sc _ c h4) (sE ek d X H0 E sc _ c h5)
  | .and a l, X, H0, E, sc, e, c, h => by
    unfold ck at h; split at h <;> first | (cases h; done) | skip
    obtain ⟨h, h4⟩ := of_and h
    obtain ⟨h, h3⟩ := of_and h
    obtain ⟨h1, h2⟩ := of_and h
    exact se_and h3 (sE ek a X H0 E sc _ c h1) (sSV ek l X H0 E sc _ c h2 h4)
  | .or a l, X, H0, E, sc, e, c, h => by
    unfold ck at h; split at h <;> first | (cases h; done) | skip
    obtain ⟨h, h4⟩ := of_and h
    obtain ⟨h, h3⟩ := of_and h
    obtain ⟨h1, h2⟩ := of_and h
    exact se_or h3 (sE ek a X H0 E sc _ c h1) (sSV ek l X H0 E sc _ c h2 h4)
  | .ite t a b, X, H0, E, sc, e, c, h => by
    unfold ck at h; split at h <;> first | (cases h; done) | skip
    obtain ⟨h, h5⟩ := of_and h
    obtain ⟨h, h4⟩ := of_and h
    obtain ⟨h, h3⟩ := of_and h
    obtain ⟨h1, h2⟩ := of_and h
    exact se_ite ek h4 h5 (sT ek t X H0 E sc _ c h1) (sE ek a X H0 E sc _ c h2) (sE ek b X H0 E sc _ c h3)
  | .tup l, X, H0, E, sc, e, c, h => by
    unfold ck at h; split at h <;> first | (cases h; done) | skip
    obtain ⟨h1, h2⟩ := of_and h
    exact se_tup ek h2 (sA ek l X H0 E sc _ c h1)
  | .lst l, X, H0, E, sc, e, c, h => by
    unfold ck at h; split at h <;> first | (cases h; done) | skip
    obtain ⟨h1, h2⟩ := of_and h
    exact se_lst ek h2 (sA ek l X H0 E sc _ c h1)
  | .ix a b, X, H0, E, sc, e, c, h => by
    unfold ck at h; split at h <;> first | (cases h; done) | skip
    obtain ⟨h, h3⟩ := of_and h
    obtain ⟨h1, h2⟩ := of_and h
    exact se_ix h3 (sE ek a X H0 E sc _ c h1) (sE ek b X H0 E sc _ c h2)
  | .sl a lo hi, X, H0, E, sc, e, c, h => by
    unfold ck at h; split at h <;> first | (cases h; done) | skip
    obtain ⟨h, h3⟩ := of_and h
    obtain ⟨h1, h2⟩ := of_and h
    exact se_sl ek (sE ek a X H0 E sc _ c h1) (sO ek lo X H0 E sc _ c h2) (sO ek hi X H0 E sc _ c h3)
  | .call f l, X, H0, E, sc, e, c, h => by
    unfold ck at h; split at h <;> first | (cases h; done) | skip
    obtain ⟨h, h8⟩ := of_and h
    obtain ⟨h, h7⟩ := of_and h
    obtain ⟨h, h6⟩ := of_and h
    obtain ⟨h, h5⟩ := of_and h
    obtain ⟨h, h4⟩ := of_and h
    obtain ⟨h, h3⟩ := of_and h
    obtain ⟨h1, h2⟩ := of_and h
    exact se_call' ek h8 c.c c.tk (of_decide_eq_true h1) h2 (of_not h3) (of_decide_eq_true h4) (List.contains_iff_mem.mp h5) h6 h7 (sA ek l X H0 E sc _ c h6)
  | .callB f l, X, H0, E, sc, e, c, h => by
    unfold ck at h; split at h <;> first | (cases h; done) | skip
    obtain ⟨h, h8⟩ := of_and h
    obtain ⟨h, h6⟩ := of_and h
    obtain ⟨h, h5⟩ := of_and h
    obtain ⟨h, h4⟩ := of_and h
    obtain ⟨h, h3⟩ := of_and h
    obtain ⟨h1, h2⟩ := of_and h
    exact se_callB' ek h8 c.c c.tk (of_decide_eq_true h1) h2 (of_not h3) (of_decide_eq_true h4) (List.contains_iff_mem.mp h5) h6 (sA ek l X H0 E sc _ c h6)
  | .callK f ks pm l, X, H0, E, sc, e, c, h => by
    unfold ck at h; split at h <;> first | (cases h; done) | skip
    obtain ⟨h, h9⟩ := of_and h
    obtain ⟨h, h8⟩ := of_and h
    obtain ⟨h, h7⟩ := of_and h
    obtain ⟨h, h6⟩ := of_and h
    obtain ⟨h, h5⟩ := of_and h
    obtain ⟨h, h4⟩ := of_and h
    obtain ⟨h, h3⟩ := of_and h
    obtain ⟨h1, h2⟩ := of_and h
    exact se_callK ek h9 c.c c.tk (c.kw _ (of_decide_eq_true h5)) (of_decide_eq_true h1) h2 (of_not h3) (of_decide_eq_true h4) (of_decide_eq_true h8) (sK ek l X H0 E sc _ c h6 h7)
  | .dnew, X, H0, E, sc, e, c, h => by
    unfold ck at h; split at h <;> first | (cases h; done) | skip
    exact se_dnew ek
  | .dsp ks l, X, H0, E, sc, e, c, h => by
    unfold ck at h; split at h <;> first | (cases h; done) | skip
    obtain ⟨h, h8⟩ := of_and h
    obtain ⟨h, h7⟩ := of_and h
    obtain ⟨h, h6⟩ := of_and h
    obtain ⟨h, h5⟩ := of_and h
    obtain ⟨h, h4⟩ := of_and h
    obtain ⟨h, h3⟩ := of_and h
    obtain ⟨h1, h2⟩ := of_and h
    exact se_dsp ek (of_decide_eq_true h1) (of_decide_eq_true h2) (of_decide_eq_true h5) (of_decide_eq_true h6) (by intro z; rw [z] at h7; cases h7) h8
      fun H0' => sPr ek l X H0' (fun _ _ => False) sc _ ⟨c.c, c.kw, takes_no c.tk, c.sui⟩ h3 h4
  | .bi f l, X, H0, E, sc, e, c, h => by
    unfold ck at h; split at h <;> first | (cases h; done) | skip
    obtain ⟨h, h4⟩ := of_and h
    obtain ⟨h, h3⟩ := of_and h
    obtain ⟨h1, h2⟩ := of_and h
    exact se_bi ek c.c h4 (of_decide_eq_true h2) h3 h1 (sA ek l X H0 E sc _ c h1)
  | .isT ts a, X, H0, E, sc, e, c, h => by
    unfold ck at h; split at h <;> first | (cases h; done) | skip
    obtain ⟨h, h8⟩ := of_and h
    obtain ⟨h, h7⟩ := of_and h
    obtain ⟨h, h6⟩ := of_and h
    obtain ⟨h, h5⟩ := of_and h
    obtain ⟨h, h4⟩ := of_and h
    obtain ⟨h, h3⟩ := of_and h
    obtain ⟨h1, h2⟩ := of_and h
    cases of_decide_eq_true h1
    exact se_isT ek c.c h2 h4 h5 h6 (fun t ht => List.contains_iff_mem.mp (List.all_eq_true.mp h7 t ht)) (Nat.le_trans (of_decide_eq_true h8) (by decide)) (sE ek a X H0 E sc _ c h3)
  | .me m o l, X, H0, E, sc, e, c, h => by
    unfold ck at h; split at h <;> first | (cases h; done) | skip
    obtain ⟨h, h6⟩ := of_and h
    obtain ⟨h, h5⟩ := of_and h
    obtain ⟨h, h4⟩ := of_and h
    obtain ⟨h, h3⟩ := of_and h
    obtain ⟨h1, h2⟩ := of_and h
    cases of_decide_eq_true h1
    exact se_me ek h3 h4 h5 (of_decide_eq_true h6) (sE ek o X H0 E sc _ c h2) (sA ek l X H0 E sc _ c h4)
  | .lc g k l t x, X, H0, E, sc, e, c, h => by
    unfold ck at h; split at h <;> first | (cases h; done) | skip
    obtain ⟨h, h9⟩ := of_and h
    obtain ⟨h, h8⟩ := of_and h
    obtain ⟨h, h7⟩ := of_and h
    obtain ⟨h, h6⟩ := of_and h
    obtain ⟨h, h5⟩ := of_and h
    obtain ⟨h, h4⟩ := of_and h
    obtain ⟨h, h3⟩ := of_and h
    obtain ⟨h1, h2⟩ := of_and h
    exact se_lc h9 ek c.c (of_decide_eq_true h8) h7 h4 h2 h3 (sI ek l k X H0 E sc _ _ c h1)
      (fun X' H0' hK hX' => fun tk' => sTs ek t X' H0' _ _ _ (hK.kx h9 c hX' tk') h5)
      (fun X' H0' hK hX' => fun tk' => sE ek x X' H0' _ _ _ (hK.kx h9 c hX' tk') h6)
  | .dget d k, X, H0, E, sc, e, c, h => by
    unfold ck at h; split at h <;> first | (cases h; done) | skip
    obtain ⟨h, h3⟩ := of_and h
    obtain ⟨h1, h2⟩ := of_and h
    exact se_dget c.c.hu h3 (sE ek d X H0 E sc _ c h1) (sE ek k X H0 E sc _ c h2)
  | .din k d, X, H0, E, sc, e, c, h => by
    unfold ck at h; split at h <;> first | (cases h; done) | skip
    obtain ⟨h, h3⟩ := of_and h
    obtain ⟨h1, h2⟩ := of_and h
    exact se_din c.c.hu (of_not h3) (sE ek k X H0 E sc _ c h1) (sE ek d X H0 E sc _ c h2)
  | .dnin k d, X, H0, E, sc, e, c, h => by
    unfold ck at h; split at h <;> first | (cases h; done) | skip
    obtain ⟨h, h3⟩ := of_and h
    obtain ⟨h1, h2⟩ := of_and h
    exact se_dnin c.c.hu (of_not h3) (sE ek k X H0 E sc _ c h1) (sE ek d X H0 E sc _ c h2)
  | .dg2 d k x, X, H0, E, sc, e, c, h => by
    unfold ck at h; cases h
  | .rv a, X, H0, E, sc, e, c, h => by
    unfold ck at h; split at h <;> first | (cases h; done) | skip
    exact se_rv ek (sE ek a X H0 E sc _ c h)
  | .ns a, X, H0, E, sc, e, c, h => by
    unfold ck at h; split at h <;> first | (cases h; done) | skip
    obtain ⟨h, h7⟩ := of_and h
    obtain ⟨h, h6⟩ := of_and h
    obtain ⟨h, h5⟩ := of_and h
    obtain ⟨h, h4⟩ := of_and h
    obtain ⟨h, h3⟩ := of_and h
    obtain ⟨h1, h2⟩ := of_and h
    cases of_decide_eq_true h1
    cases of_decide_eq_true h3
    exact se_ns h7 c.c h2 h4 h6 (sE ek a X H0 E sc _ c h5)
  | .trv a, X, H0, E, sc, e, c, h => by
    unfold ck at h; split at h <;> first | (cases h; done) | skip
    obtain ⟨h, h7⟩ := of_and h
    obtain ⟨h, h6⟩ := of_and h
    obtain ⟨h, h5⟩ := of_and h
    obtain ⟨h, h4⟩ := of_and h
    obtain ⟨h, h3⟩ := of_and h
    obtain ⟨h1, h2⟩ := of_and h
    cases of_decide_eq_true h1
    cases of_decide_eq_true h3
    exact se_trv h7 ek c.c h2 h4 h6 (sE ek a X H0 E sc _ c h5)
  | .lcK g i m t x, X, H0, E, sc, e, c, h => by
    unfold ck at h; split at h <;> first | (cases h; done) | skip
    obtain ⟨h, h8⟩ := of_and h
    obtain ⟨h, h7⟩ := of_and h
    obtain ⟨h, h6⟩ := of_and h
    obtain ⟨h, h5⟩ := of_and h
    obtain ⟨h, h4⟩ := of_and h
    obtain ⟨h, h3⟩ := of_and h
    obtain ⟨h1, h2⟩ := of_and h
    exact se_lcK h8 ek c.c (of_decide_eq_true h7) h6 h3 h1 h2
      (fun X' H0' hK hX' => fun tk' => sTs ek t X' H0' _ _ _ (hK.kx h8 c hX' tk') h4)
      (fun X' H0' hK hX' => fun tk' => sE ek x X' H0' _ _ _ (hK.kx h8 c hX' tk') h5)
  | .mv i, X, H0, E, sc, e, c, h => by
    unfold ck at h; split at h <;> first | (cases h; done) | skip
    exact se_mv c h
  | .fld i f, X, H0, E, sc, e, c, h => by
    unfold ck at h; split at h <;> first | (cases h; done) | skip
    obtain ⟨h, h3⟩ := of_and h
    obtain ⟨h1, h2⟩ := of_and h
    cases of_decide_eq_true h1
    exact se_fld c h2 (of_not h3)
  | .isE i x, X, H0, E, sc, e, c, h => by
    unfold ck at h; split at h <;> first | (cases h; done) | skip
    obtain ⟨h, h7⟩ := of_and h
    obtain ⟨h, h6⟩ := of_and h
    obtain ⟨h, h5⟩ := of_and h
    obtain ⟨h, h4⟩ := of_and h
    obtain ⟨h, h3⟩ := of_and h
    obtain ⟨h1, h2⟩ := of_and h
    cases of_decide_eq_true h1
    cases of_decide_eq_true h4
    exact se_isE c h2 h3 h5 (of_not h6) (of_not h7)
theorem sT (ek : EXok EX) : ∀ (x : Ex) (X : Cx) (H0 : Ent) (E : DX → DEnv → Prop) (sc : Scope) (e : Expr), Kx X EX H0 xa Γ C sc E → ck C sc x e = true → ST X EX Γ H0 E x e
  | .not a, X, H0, E, sc, e, c, h => by
    unfold ck at h; split at h <;> first | (cases h; done) | skip
    exact st_not (sT ek a X H0 E sc _ c h)
  | .and a l, X, H0, E, sc, e, c, h => by
    unfold ck at h; split at h <;> first | (cases h; done) | skip
    obtain ⟨h, h4⟩ := of_and h
    obtain ⟨h, h3⟩ := of_and h
    obtain ⟨h1, h2⟩ := of_and h
    exact st_and (sT ek a X H0 E sc _ c h1) (sSL ek l X H0 E sc _ c h2)
  | .or a l, X, H0, E, sc, e, c, h => by
    unfold ck at h; split at h <;> first | (cases h; done) | skip
    obtain ⟨h, h4⟩ := of_and h
    obtain ⟨h, h3⟩ := of_and h
    obtain ⟨h1, h2⟩ := of_and h
    exact st_or (sT ek a X H0 E sc _ c h1) (sSL ek l X H0 E sc _ c h2)
  | .cmp o a b, X, H0, E, sc, e, c, h => by
    unfold ck at h; split at h <;> first | (cases h; done) | skip
    obtain ⟨h, h4⟩ := of_and h
    obtain ⟨h, h3⟩ := of_and h
    obtain ⟨h1, h2⟩ := of_and h
    exact st_cmp c.c.hu h1 (of_not h4) (sE ek a X H0 E sc _ c h2) (sE ek b X H0 E sc _ c h3)
  | .cmp2 o q a b d, X, H0, E, sc, e, c, h => by
    unfold ck at h; split at h <;> first | (cases h; done) | skip
    obtain ⟨h, h6⟩ := of_and h
    obtain ⟨h, h5⟩ := of_and h
    obtain ⟨h, h4⟩ := of_and h
    obtain ⟨h, h3⟩ := of_and h
    obtain ⟨h1, h2⟩ := of_and h
    exact st_cmp2 c.c.hu h1 h2 (of_not h6) (sE ek a X H0 E sc _ c h3) (sE ek b X H0 E sc _ c h4) (sE ek d X H0 E sc _ c h5)
  | .din k d, X, H0, E, sc, e, c, h => by
    unfold ck at h; split at h <;> first | (cases h; done) | skip
    obtain ⟨h, h3⟩ := of_and h
    obtain ⟨h1, h2⟩ := of_and h
    exact st_din c.c.hu (of_not h3) (sE ek k X H0 E sc _ c h1) (sE ek d X H0 E sc _ c h2)
  | .dnin k d, X, H0, E, sc, e, c, h => by
    unfold ck at h; split at h <;> first | (cases h; done) | skip
    obtain ⟨h, h3⟩ := of_and h
    obtain ⟨h1, h2⟩ := of_and h
    exact st_dnin c.c.hu (of_not h3) (sE ek k X H0 E sc _ c h1) (sE ek d X H0 E sc _ c h2)
  | .tr x, X, H0, E, sc, e, c, h => by
    unfold ck at h
    exact st_tr (of_and h).2 (sE ek x X H0 E sc _ c (of_and h).1)
  | .v _, _, _, _, _, _, _, _ => fun _ _ _ _ _ _ _ w _ => (show False from w).elim
  | .b _, _, _, _, _, _, _, _ => fun _ _ _ _ _ _ _ w _ => (show False from w).elim
  | .wk _, _, _, _, _, _, _, _ => fun _ _ _ _ _ _ _ w _ => (show False from w).elim
  | .fr _ _, _, _, _, _, _, _, _ => fun _ _ _ _ _ _ _ w _ => (show False from w).elim
  | .gi _ _, _, _, _, _, _, _, _ => fun _ _ _ _ _ _ _ w _ => (show False from w).elim
  | .gs _ _, _, _, _, _, _, _, _ => fun _ _ _ _ _ _ _ w _ => (show False from w).elim
  | .int _, _, _, _, _, _, _, _ => fun _ _ _ _ _ _ _ w _ => (show False from w).elim
  | .str _, _, _, _, _, _, _, _ => fun _ _ _ _ _ _ _ w _ => (show False from w).elim
  | .bl _, _, _, _, _, _, _, _ => fun _ _ _ _ _ _ _ w _ => (show False from w).elim
  | .non, _, _, _, _, _, _, _ => fun _ _ _ _ _ _ _ w _ => (show False from w).elim
  | .bin _ _ _, _, _, _, _, _, _, _ => fun _ _ _ _ _ _ _ w _ => (show False from w).elim
  | .neg _, _, _, _, _, _, _, _ => fun _ _ _ _ _ _ _ w _ => (show False from w).elim
  | .ite _ _ _, _, _, _, _, _, _, _ => fun _ _ _ _ _ _ _ w _ => (show False from w).elim
  | .tup _, _, _, _, _, _, _, _ => fun _ _ _ _ _ _ _ w _ => (show False from w).elim
  | .lst _, _, _, _, _, _, _, _ => fun _ _ _ _ _ _ _ w _ => (show False from w).elim
  | .ix _ _, _, _, _, _, _, _, _ => fun _ _ _ _ _ _ _ w _ => (show False from w).elim
  | .sl _ _ _, _, _, _, _, _, _, _ => fun _ _ _ _ _ _ _ w _ => (show False from w).elim
  | .call _ _, _, _, _, _, _, _, _ => fun _ _ _ _ _ _ _ w _ => (show False from w).elim
  | .callB _ _, _, _, _, _, _, _, _ => fun _ _ _ _ _ _ _ w _ => (show False from w).elim
  | .callK _ _ _ _, _, _, _, _, _, _, _ => fun _ _ _ _ _ _ _ w _ => (show False from w).elim
  | .dnew, _, _, _, _, _, _, _ => fun _ _ _ _ _ _ _ w _ => (show False from w).elim
  | .dsp _ _, _, _, _, _, _, _, _ => fun _ _ _ _ _ _ _ w _ => (show False from w).elim
  | .bi _ _, _, _, _, _, _, _, _ => fun _ _ _ _ _ _ _ w _ => (show False from w).elim
  | .isT _ _, _, _, _, _, _, _, _ => fun _ _ _ _ _ _ _ w _ => (show False from w).elim
  | .me _ _ _, _, _, _, _, _, _, _ => fun _ _ _ _ _ _ _ w _ => (show False from w).elim
  | .lc _ _ _ _ _, _, _, _, _, _, _, _ => fun _ _ _ _ _ _ _ w _ => (show False from w).elim
  | .dget _ _, _, _, _, _, _, _, _ => fun _ _ _ _ _ _ _ w _ => (show False from w).elim
  | .dg2 _ _ _, _, _, _, _, _, _, _ => fun _ _ _ _ _ _ _ w _ => (show False from w).elim
  | .rv _, _, _, _, _, _, _, _ => fun _ _ _ _ _ _ _ w _ => (show False from w).elim
  | .ns _, _, _, _, _, _, _, _ => fun _ _ _ _ _ _ _ w _ => (show False from w).elim
  | .trv _, _, _, _, _, _, _, _ => fun _ _ _ _ _ _ _ w _ => (show False from w).elim
  | .lcK _ _ _ _ _, _, _, _, _, _, _, _ => fun _ _ _ _ _ _ _ w _ => (show False from w).elim
  | .mv _, _, _, _, _, _, _, _ => fun _ _ _ _ _ _ _ w _ => (show False from w).elim
  | .fld _ _, _, _, _, _, _, _, _ => fun _ _ _ _ _ _ _ w _ => (show False from w).elim
  | .isE _ _, _, _, _, _, _, _, _ => fun _ _ _ _ _ _ _ w _ => (show False from w).elim
theorem sA (ek : EXok EX) : ∀ (l : Exs) (X : Cx) (H0 : Ent) (E : DX → DEnv → Prop) (sc : Scope) (es : List Expr), Kx X EX H0 xa Γ C sc E → ckA C sc l es = true → SA X EX Γ H0 E l es
  | .nil, X, H0, E, sc, es, c, h => by
    unfold ckA at h; split at h <;> first | (cases h; done) | skip
    exact sa_nil
  | .cons x l, X, H0, E, sc, es, c, h => by
    unfold ckA at h; split at h <;> first | (cases h; done) | skip
    obtain ⟨h, h3⟩ := of_and h
    obtain ⟨h1, h2⟩ := of_and h
    exact sa_cons ek h2 (sE ek x X H0 E sc _ c h1) (sA ek l X H0 E sc _ c h3)
theorem sPr (ek : EXok EX) : ∀ (l : Exs) (X : Cx) (H0 : Ent) (E : DX → DEnv → Prop) (sc : Scope) (es : List Expr), Kx X EX H0 xa Γ C sc E → ckA C sc l es = true → nbA l = true → SPr X EX Γ H0 E l es
  | .nil, X, H0, E, sc, es, c, h, n => by
    unfold ckA at h; split at h <;> first | (cases h; done) | skip
    exact spr_nil
  | .cons x l, X, H0, E, sc, es, c, h, n => by
    unfold ckA at h; split at h <;> first | (cases h; done) | skip
    obtain ⟨h, h3⟩ := of_and h
    obtain ⟨h1, h2⟩ := of_and h
    unfold nbA at n
    obtain ⟨n1, n2⟩ := of_and n
    exact spr_cons ek n1 (sE ek x X H0 E sc _ c h1) (sPr ek l X H0 E sc _ c h3 n2)
theorem sK (ek : EXok EX) : ∀ (l : Exs) (X : Cx) (H0 : Ent) (E : DX → DEnv → Prop) (sc : Scope) (es : List Keyword), Kx X EX H0 xa Γ C sc E → ckK C sc l es = true → nbA l = true → SK X EX Γ H0 E l es
  | .nil, X, H0, E, sc, es, c, h, n => by
    unfold ckK at h; split at h <;> first | (cases h; done) | skip
    exact sk_nil
  | .cons x l, X, H0, E, sc, es, c, h, n => by
    unfold ckK at h; split at h <;> first | (cases h; done) | skip
    obtain ⟨h1, h3⟩ := of_and h
    unfold nbA at n
    obtain ⟨n1, n2⟩ := of_and n
    exact sk_cons ek n1 (sE ek x X H0 E sc _ c h1) (sK ek l X H0 E sc _ c h3 n2)
theorem sSV (ek : EXok EX) : ∀ (l : Exs) (X : Cx) (H0 : Ent) (E : DX → DEnv → Prop) (sc : Scope) (es : List Expr), Kx X EX H0 xa Γ C sc E → ckA C sc l es = true → nbA l = true → ∀ {op : BoolOp}, SV X EX Γ H0 E op l es
  | .nil, X, H0, E, sc, es, c, h, n => by
    unfold ckA at h; split at h <;> first | (cases h; done) | skip
    exact sv_nil ek
  | .cons x l, X, H0, E, sc, es, c, h, n => by
    unfold ckA at h; split at h <;> first | (cases h; done) | skip
    obtain ⟨h, h3⟩ := of_and h
    obtain ⟨h1, h2⟩ := of_and h
    unfold nbA at n
    obtain ⟨n1, n2⟩ := of_and n
    exact sv_cons n1 (sE ek x X H0 E sc _ c h1) (sSV ek l X H0 E sc _ c h3 n2)
theorem sSL (ek : EXok EX) : ∀ (l : Exs) (X : Cx) (H0 : Ent) (E : DX → DEnv → Prop) (sc : Scope) (es : List Expr), Kx X EX H0 xa Γ C sc E → ckA C sc l es = true → ∀ {op : BoolOp}, SL X EX Γ H0 E op l es
  | .nil, X, H0, E, sc, es, c, h => by
    unfold ckA at h; split at h <;> first | (cases h; done) | skip
    exact sl_nil
  | .cons x l, X, H0, E, sc, es, c, h => by
    unfold ckA at h; split at h <;> first | (cases h; done) | skip
    obtain ⟨h, h3⟩ := of_and h
    obtain ⟨h1, h2⟩ := of_and h
    exact sl_cons (sT ek x X H0 E sc _ c h1) (sSL ek l X H0 E sc _ c h3)
theorem sO (ek : EXok EX) : ∀ (l : Exs) (X : Cx) (H0 : Ent) (E : DX → DEnv → Prop) (sc : Scope) (o : Option Expr), Kx X EX H0 xa Γ C sc E → ckO C sc l o = true → SO X EX Γ H0 E l o
  | .nil, X, H0, E, sc, o, c, h => by
    unfold ckO at h; split at h <;> first | (cases h; done) | skip
    exact so_none
  | .cons x .nil, X, H0, E, sc, o, c, h => by
    unfold ckO at h; split at h <;> first | (cases h; done) | skip
    exact so_some (sE ek x X H0 E sc _ c h)
  | .cons _ (.cons _ _), X, H0, E, sc, o, c, h => by
    unfold ckO at h; cases h
theorem sTs (ek : EXok EX) : ∀ (l : Exs) (X : Cx) (H0 : Ent) (E : DX → DEnv → Prop) (sc : Scope) (o : List Expr), Kx X EX H0 xa Γ C sc E → ckT C sc l o = true → STs X EX Γ H0 E l o
  | .nil, X, H0, E, sc, o, c, h => by
    unfold ckT at h; split at h <;> first | (cases h; done) | skip
    exact sts_nil
  | .cons x .nil, X, H0, E, sc, o, c, h => by
    unfold ckT at h; split at h <;> first | (cases h; done) | skip
    exact sts_one (sT ek x X H0 E sc _ c h)
  | .cons _ (.cons _ _), X, H0, E, sc, o, c, h => by
    unfold ckT at h; cases h
theorem sI (ek : EXok EX) : ∀ (l : Exs) (k : ItK) (X : Cx) (H0 : Ent) (E : DX → DEnv → Prop) (sc : Scope) (tg e : Expr), Kx X EX H0 xa Γ C sc E → ckI C sc k l tg e = true → SI X EX Γ H0 E k l tg e
  | .cons x .nil, .seq, X, H0, E, sc, tg, e, c, h => by
    unfold ckI at h
    exact si_seq ek (sE ek x X H0 E sc _ c h)
  | .cons x .nil, .str, X, H0, E, sc, tg, e, c, h => by
    unfold ckI at h
    exact si_str (sE ek x X H0 E sc _ c h)
  | .cons x .nil, .rng1, X, H0, E, sc, tg, e, c, h => by
    unfold ckI at h; split at h <;> first | (cases h; done) | skip
    obtain ⟨h, h4⟩ := of_and h
    obtain ⟨h, h3⟩ := of_and h
    obtain ⟨h1, h2⟩ := of_and h
    cases of_decide_eq_true h1
    exact si_rng1 ek c.c h2 h4 (sE ek x X H0 E sc _ c h3)
  | .cons x (.cons y .nil), .rng2, X, H0, E, sc, tg, e, c, h => by
    unfold ckI at h; split at h <;> first | (cases h; done) | skip
    obtain ⟨h, h6⟩ := of_and h
    obtain ⟨h, h5⟩ := of_and h
    obtain ⟨h, h4⟩ := of_and h
    obtain ⟨h, h3⟩ := of_and h
    obtain ⟨h1, h2⟩ := of_and h
    cases of_decide_eq_true h1
    exact si_rng2 ek c.c h2 h4 h6 (sE ek x X H0 E sc _ c h3) (sE ek y X H0 E sc _ c h5)
  | .cons x .nil, .en, X, H0, E, sc, tg, e, c, h => by
    unfold ckI at h; split at h <;> first | (cases h; done) | skip
    obtain ⟨h, h4⟩ := of_and h
    obtain ⟨h, h3⟩ := of_and h
    obtain ⟨h1, h2⟩ := of_and h
    cases of_decide_eq_true h1
    exact si_en ek c.c h2 h4 (sE ek x X H0 E sc _ c h3)
  | .cons x (.cons y (.cons z .nil)), .rng3, X, H0, E, sc, tg, e, c, h => by
    unfold ckI at h; split at h <;> first | (cases h; done) | skip
    obtain ⟨h, h8⟩ := of_and h
    obtain ⟨h, h7⟩ := of_and h
    obtain ⟨h, h6⟩ := of_and h
    obtain ⟨h, h5⟩ := of_and h
    obtain ⟨h, h4⟩ := of_and h
    obtain ⟨h, h3⟩ := of_and h
    obtain ⟨h1, h2⟩ := of_and h
    cases of_decide_eq_true h1
    exact si_rng3 ek c.c h2 h4 h6 h8 (sE ek x X H0 E sc _ c h3) (sE ek y X H0 E sc _ c h5) (sE ek z X H0 E sc _ c h7)
  | .cons x .nil, .rev, X, H0, E, sc, tg, e, c, h => by
    unfold ckI at h; split at h <;> first | (cases h; done) | skip
    obtain ⟨h, h4⟩ := of_and h
    obtain ⟨h, h3⟩ := of_and h
    obtain ⟨h1, h2⟩ := of_and h
    cases of_decide_eq_true h1
    exact si_rev ek c.c h2 h4 (sE ek x X H0 E sc _ c h3)
  | .nil, k, X, H0, E, sc, tg, e, c, h => by cases k <;> (unfold ckI at h; cases h)
  | .cons x .nil, .rng2, X, H0, E, sc, tg, e, c, h => by unfold ckI at h; cases h
  | .cons x .nil, .rng3, X, H0, E, sc, tg, e, c, h => by unfold ckI at h; cases h
  | .cons x .nil, .zip, X, H0, E, sc, tg, e, c, h => by unfold ckI at h; cases h
  | .cons x (.cons y r), .seq, X, H0, E, sc, tg, e, c, h => by unfold ckI at h; cases h
  | .cons x (.cons y r), .str, X, H0, E, sc, tg, e, c, h => by unfold ckI at h; cases h
  | .cons x (.cons y r), .rng1, X, H0, E, sc, tg, e, c, h => by unfold ckI at h; cases h
  | .cons x (.cons y r), .en, X, H0, E, sc, tg, e, c, h => by unfold ckI at h; cases h
  | .cons x (.cons y r), .zip, X, H0, E, sc, tg, e, c, h => by unfold ckI at h; cases h
  | .cons x (.cons y r), .rev, X, H0, E, sc, tg, e, c, h => by unfold ckI at h; cases h
  | .cons x (.cons y .nil), .rng3, X, H0, E, sc, tg, e, c, h => by unfold ckI at h; cases h
  | .cons x (.cons y (.cons z r)), .rng2, X, H0, E, sc, tg, e, c, h => by unfold ckI at h; cases h
  | .cons x (.cons y (.cons z (.cons u r))), .rng3, X, H0, E, sc, tg, e, c, h => by unfold ckI at h; cases h
end
end
end DL
/-! DP: statements -/
namespace DL
open PySem PySem.Spec PyProof.Rows L2
/-! ### against the text -/
/-- the store does not come ahead of the end of a comprehension -/
def swF (sc : Scope) (tg e : Expr) : Bool := match e with
  | .ListComp _ _ s pos => match tg with
    | .Name x px => !(decide (sc.names.lookup x = some .local) && (px.line == pos.line) && !(s.names.any fun (n, k) => n == x && (k == .local || k == .cell)))
    | _ => true
  | .SetComp .. => false
  | .DictComp .. => false
  | _ => true
def swT (sc : Scope) (tg e : Expr) : Bool := match e with
  | .ListComp _ _ s pos => match tg with
    | .Name x px => decide (sc.names.lookup x = some .local) && (px.line == pos.line) && !(s.names.any fun (n, k) => n == x && (k == .local || k == .cell))
    | _ => false
  | _ => false
/-- no tuple or list against a written tuple -/
def ntup (tg e : Expr) : Bool := match tg with
  | .Name .. => true
  | _ => match e with
    | .Tuple .. => false
    | _ => true
def isNm (N : List Str) (sc : Scope) (i : Nat) (tg : Expr) : Bool := match tg with
  | .Name x _ => decide (N[i]? = some x) && locB sc x
  | _ => false
def BOp.isAS : BOp → Bool
  | .add => true
  | .sub => true
  | _ => false
/-- a clause's name against its slot -/
def onB (N : List Str) (sc : Scope) (on : Option Str) (o : Option Nat) : Bool := match on, o with
  | none, none => true
  | some n, some i => decide (N[i]? = some n) && decide (sc.names.lookup n = some .local)
  | _, _ => false
mutual
def ckS (C : Cn) (sc : Scope) : Sx → Stmt → Bool
  | .asg g e, st => match st with
    | .Assign [tg] v _ => ckG C.N none sc g tg && ck C sc e v && nb e && swF sc tg v && ntup tg v && C.calm
    | _ => false
  | .own i e, st => match st with
    | .Assign [tg] v _ => isNm C.N sc i tg && ck C sc e v && decide (md e = .fr) && swF sc tg v && ntup tg v
    | _ => false
  | .lcs _ i g k l t e, st => match st with
    | .Assign [tg] v _ => isNm C.N sc i tg && ck C sc (.lc g k l t e) v && swT sc tg v && C.calm
    | _ => false
  | .aug i o e, st => match st with
    | .AugAssign tg p v _ => isNm C.N sc i tg && o.like p && ck C sc e v && o.isAS
    | _ => false
  | .ret e, st => match st with
    | .Return (some v) _ => ck C sc e v && nb e
    | _ => false
  | .retN, st => match st with
    | .Return none _ => true
    | _ => false
  | .expr e, st => match st with
    | .Expr v _ => ck C sc e v && ncomp v
    | _ => false
  | .exO f i l, st => match st with
    | .Expr (.Call (.Name x _) (.Name y py :: es) [] _) _ => decide (x = C.nm f) && gloB sc x && !(x == ("__debug__" : Str)) && decide (C.lv f ≤ C.k) && C.depO.contains f && nmB C.N sc i y && ckA C sc l es && nbA l && C.calm
    | _ => false
  | .app i e, st => match st with
    | .Expr (.Call (.Attribute (.Name x px) a ap) [v] [] p) _ => decide (a = Str.ofString "append") && nmB C.N sc i x && ck C sc e v && nst v && nb e && (ap.endLine == p.line)
    | _ => false
  | .ext i e, st => match st with
    | .Expr (.Call (.Attribute (.Name x px) a ap) [v] [] p) _ => decide (a = Str.ofString "extend") && nmB C.N sc i x && ck C sc e v && nst v && decide (md e = .fr) && (ap.endLine == p.line)
    | _ => false
  | .put i k e, st => match st with
    | .Assign [.Subscript (.Name x px) ky _] v _ => nmB C.N sc i x && ck C sc k ky && ck C sc e v && nb e
    | _ => false
  | .seti i k e, st => match st with
    | .Assign [.Subscript (.Name x px) ky _] v _ => nmB C.N sc i x && ck C sc k ky && ck C sc e v && nb e && nslice ky
    | _ => false
  | .ife c a b, st => match st with
    | .If t x y _ => ck C sc c t && ckSs C sc a x && ckSs C sc b y
    | _ => false
  | .whl c b, st => match st with
    | .While t x [] _ => ck C sc c t && ckSs C sc b x && C.calm
    | _ => false
  | .for_ g k l b, st => match st with
    | .For tg it x [] _ => ckI C sc k l tg it && nbA l && nset it && ckG C.N none sc g tg && ckSs C sc b x && C.calm
    | _ => false
  | .brk, st => match st with
    | .Break _ => true
    | _ => false
  | .cont, st => match st with
    | .Continue _ => true
    | _ => false
  | .pass, st => match st with
    | .Pass _ => true
    | _ => false
  | .rse c l, st => match st with
    | .Raise (some (.Call (.Name x _) (e :: es) [] _)) none _ => ckA C sc l (e :: es) && nbA l && decide ((c, x) ∈ C.ex) && gloB sc x && !(x == ("__debug__" : Str)) && decide (2 ≤ C.k) && C.calm
    | _ => false
  | .ins i k e, st => match st with
    | .Expr (.Call (.Attribute (.Name x px) a ap) [kx, v] [] p) _ => decide (a = Str.ofString "insert") && nmB C.N sc i x && ck C sc k kx && nst kx && ck C sc e v && nst v && nb e && (ap.endLine == p.line)
    | _ => false
  | .par2 i j a b, st => match st with
    | .Assign [.Tuple [.Name x px, .Name y py] _ _] (.Tuple [u, v] _ _) _ => decide (C.N[i]? = some x) && decide (C.N[j]? = some y) && decide (i ≠ j) && decide (sc.names.lookup x = some .local) && decide (sc.names.lookup y = some .local) && (px.line == py.line) && decide (x ≠ y)
        && !([u, v].all (foldedForSure 8)) && !([u, v].all (constantsAlone 8)) && nst u && nst v && ck C sc a u && ck C sc b v && nb a && nb b && C.calm
    | _ => false
  | .tryA b h, st => match st with
    | .Try x (h0 :: hs) [] [] _ => ckSs C sc b x && ckH { C with calm := false } sc h (h0 :: hs) && C.calm
    | _ => false
def ckSs (C : Cn) (sc : Scope) : Sxs → List Stmt → Bool
  | .nil, l => match l with
    | [] => true
    | _ => false
  | .cons s r, l => match l with
    | x :: l => ckS C sc s x && ckSs C sc r l
    | _ => false
def ckH (C : Cn) (sc : Scope) : Hds → List ExceptHandler → Bool
  | .nil, l => match l with
    | [] => true
    | _ => false
  | .cons x o s r, l => match l with
    | .ExceptHandler (some (.Name y _)) on (st :: sts) _ :: l => decide (y = x) && gloB sc y && !(y == ("__debug__" : Str)) && C.hx.contains y && onB C.N sc on o && ckSs C sc s (st :: sts) && ckH C sc r l
    | _ => false
end
/-! ### slots written -/
section
variable {K : PySem.W.Frag} {EX : EXT} {H0 : Ent} {ρ : DEnv} {σ : L2.St} {Hf H : Hp}
theorem SR.write (R : SR K EX H0 ρ σ Hf H) {i : Nat} {a : Addr} {s s' : Sl} {o : HO} (e : ρ[i]? = some s) (ho : s.isOwn = true) (ho' : s'.isOwn = true) (hs : σ[i]? = some (some (V.ref a))) (n : Hf a = none) (n0 : H0.h a = none)
    (h1 : ∀ p l, s' = .own p l → ∃ xs, o = .lst xs ∧ Reps K Hf l xs ∧ ∀ b, p = some b → b = a)
    (h2 : ∀ p l, s' = .ownK p l → ∃ xs, o = .dK xs ∧ RepK K Hf l xs ∧ ∀ b, p = some b → b = a) : SR K EX H0 (ρ.set i s') σ Hf (upd H a o) := by
  have st : ∀ {G : Hp}, G a = none → Same G H → Same G (upd H a o) := fun {G} z q b u w => by
    rw [upd_ne (fun e => by rw [e, z] at w; cases w)]; exact q b u w
  refine ⟨R.base, st n0 R.ent, R.nof, st n R.sub, by rw [List.length_set]; exact R.len, fun j d' e' => ?_, fun j p l e' => ?_, fun j p l e' => ?_, fun j c l e' => ?_, fun j k s1 t b nn e1 e2 o1 o2 z1 z2 => ?_⟩
  · rcases get_set e' with ⟨rfl, z, _⟩ | ⟨_, e'⟩
    · rw [← z] at ho'; cases ho'
    · exact R.sh j d' e'
  · rcases get_set e' with ⟨rfl, z, _⟩ | ⟨nn, e'⟩
    · obtain ⟨xs, rfl, r, hp⟩ := h1 p l z.symm
      exact ⟨a, xs, hs, n, upd_same, r, n0, hp⟩
    · obtain ⟨b, xs, q1, q2, q3, r⟩ := R.own j p l e'
      exact ⟨b, xs, q1, q2, by rw [upd_ne (fun z => R.apart j i _ _ a nn e' e rfl ho (by rw [q1, z]) hs)]; exact q3, r⟩
  · rcases get_set e' with ⟨rfl, z, _⟩ | ⟨nn, e'⟩
    · obtain ⟨xs, rfl, r, hp⟩ := h2 p l z.symm
      exact ⟨a, xs, hs, n, upd_same, r, n0, hp⟩
    · obtain ⟨b, xs, q1, q2, q3, r⟩ := R.ownK j p l e'
      exact ⟨b, xs, q1, q2, by rw [upd_ne (fun z => R.apart j i _ _ a nn e' e rfl ho (by rw [q1, z]) hs)]; exact q3, r⟩
  · rcases get_set e' with ⟨rfl, z, _⟩ | ⟨_, e'⟩
    · rw [← z] at ho'; cases ho'
    · exact R.exc j c l e'
  · have old : ∀ {j : Nat} {s1 : Sl}, (ρ.set i s')[j]? = some s1 → s1.isOwn = true → ∃ s2, ρ[j]? = some s2 ∧ s2.isOwn = true := fun {j s1} e1 o1 => by
      rcases get_set e1 with ⟨rfl, _, _⟩ | ⟨_, q⟩
      · exact ⟨s, e, ho⟩
      · exact ⟨s1, q, o1⟩
    obtain ⟨s2, q2, w2⟩ := old e1 o1
    obtain ⟨s3, q3, w3⟩ := old e2 o2
    exact R.apart j k s2 s3 b nn q2 q3 w2 w3 z1 z2
end
section
variable (X : Cx)
def mS (st : Stmt) : TS := fun D σ H => ∀ (pins : List (Addr × Obj)) (s : Shared), Inv X pins σ H s → wpAny (model X.prog X.w) X.A (exec st X.env) (SP X pins D) X.xe s
def mSs (st : List Stmt) : TS := fun D σ H => ∀ (pins : List (Addr × Obj)) (s : Shared), Inv X pins σ H s → wpAny (model X.prog X.w) X.A (execs st X.env) (SP X pins D) X.xe s
end
theorem PS.m {X : Cx} (st : Stmt) : PS X st (mS X st) := ⟨fun pins s σ H D I h => h pins s I⟩
theorem PSs.m {X : Cx} (st : List Stmt) : PSs X st (mSs X st) := ⟨fun pins s σ H D I h => h pins s I⟩
theorem mS.of {X : Cx} {st : Stmt} {t : TS} (h : PS X st t) {D : Ends} {σ : L2.St} {H : Hp} (q : t D σ H) : mS X st D σ H := fun pins s I => h.run pins s σ H D I q
theorem mSs.of {X : Cx} {st : List Stmt} {t : TS} (h : PSs X st t) {D : Ends} {σ : L2.St} {H : Hp} (q : t D σ H) : mSs X st D σ H := fun pins s I => h.run pins s σ H D I q
/-- what is wanted behind, by data and by slots -/
structure KZ (K : PySem.W.Frag) (EX : EXT) (H0 : Ent) (Z : EndD) (D : Ends) (Hf : Hp) : Prop where
  nx : ∀ ρ' σ' Hf' H', SR K EX H0 ρ' σ' Hf' H' → Same Hf Hf' → Z.nx ρ' → D.nx σ' H'
  rt : ∀ d ρ' v σ' Hf' H' m, SR K EX H0 ρ' σ' Hf' H' → Same Hf Hf' → m ≠ .bo → (Z.rtF = true → m = .fr) → Res K H0 m ρ' σ' Hf' H' d v → Z.rt d ρ' → D.rt v H'
  bk : ∀ ρ' σ' Hf' H', SR K EX H0 ρ' σ' Hf' H' → Same Hf Hf' → Z.bk ρ' → D.bk σ' H'
  ct : ∀ ρ' σ' Hf' H', SR K EX H0 ρ' σ' Hf' H' → Same Hf Hf' → Z.ct ρ' → D.ct σ' H'
theorem KZ.mono {K : PySem.W.Frag} {EX : EXT} {H0 : Ent} {Z : EndD} {D : Ends} {Hf Hf1 : Hp} (k : KZ K EX H0 Z D Hf) (s : Same Hf Hf1) : KZ K EX H0 Z D Hf1 :=
  ⟨fun ρ' σ' Hf' H' R t q => k.nx ρ' σ' Hf' H' R (s.trans t) q, fun d ρ' v σ' Hf' H' m R t a b r q => k.rt d ρ' v σ' Hf' H' m R (s.trans t) a b r q, fun ρ' σ' Hf' H' R t q => k.bk ρ' σ' Hf' H' R (s.trans t) q, fun ρ' σ' Hf' H' R t q => k.ct ρ' σ' Hf' H' R (s.trans t) q⟩
section
variable (X : Cx) (EX : EXT) (Γ : Gm) (H0 : Ent) (E : DX → DEnv → Prop)
def SS (x : Sx) (st : Stmt) : Prop := ∀ (ρ : DEnv) (σ : L2.St) (Hf H : Hp) (Z : EndD) (D : Ends), SR X.K EX H0 ρ σ Hf H → wS Γ E x Z ρ → KZ X.K EX H0 Z D Hf → mS X st D σ H
def SSs (x : Sxs) (st : List Stmt) : Prop := ∀ (ρ : DEnv) (σ : L2.St) (Hf H : Hp) (Z : EndD) (D : Ends), SR X.K EX H0 ρ σ Hf H → wSs Γ E x Z ρ → KZ X.K EX H0 Z D Hf → mSs X st D σ H
end
section
variable {X : Cx} {EX : EXT} {Γ : Gm} {H0 : Ent} {E : DX → DEnv → Prop} {xa : Nat → Addr} {C : Cn} {sc : Scope}
/-- the context of a def's own block -/
structure Kst (X : Cx) (EX : EXT) (H0 : Ent) (xa : Nat → Addr) (Γ : Gm) (C : Cn) (sc : Scope) (E : DX → DEnv → Prop) : Prop extends Kx X EX H0 xa Γ C sc E where
  own : PassesOwn (model X.prog X.w) X.A X.env X.xe
  fn : ∀ x, X.fn x = true
  kind : X.env.scope.kind = .function
  cal : C.calm = true → X.calm = true
  hs : X.stack = X.env :: X.outer
  hfr : X.env.frame = some X.env.locals
theorem Kst.g (c : Kst X EX H0 xa Γ C sc E) (hcm : C.calm = true) : Gok X C.N none sc := ⟨c.c.N, c.c.nd, c.c.scp, c.cal hcm, fun x _ => c.fn x⟩
theorem sw_false (c : Kst X EX H0 xa Γ C sc E) {tg v : Expr} {l : Nat} (h : swF sc tg v = true) : swapsWithSole [tg] v l X.env = pure false := by
  show swapsWith v (some tg) l X.env = pure false
  have sc' : X.env.scope = sc := c.c.scp
  cases v <;> first | rfl | (cases h; done) | skip
  cases tg <;> first | rfl | skip
  rename_i elt gs s pos x px
  have kx : X.env.kindOf x = sc.names.lookup x := by show X.env.scope.names.lookup x = _; rw [sc']
  have h' : (decide (sc.names.lookup x = some .local) && (px.line == pos.line) && !(s.names.any fun (n, k) => n == x && (k == .local || k == .cell))) = false := by
    exact of_not h
  have hb : X.env.blockKind = .function := by unfold Env.blockKind; rw [c.kind]; rfl
  have e1 : (X.env.kindOf x == some .local) = decide (sc.names.lookup x = some .local) := by
    rw [kx]; cases sc.names.lookup x with
    | none => rfl
    | some k => cases k <;> rfl
  unfold swapsWith
  simp only [hb, e1, Expr.pos]
  exact congrArg pure h'
end
end DL
/-! DQ: statements, one rule a form -/
namespace DL
open PySem PySem.Spec PyProof.Rows L2
section
variable {X : Cx} {EX : EXT} {Γ : Gm} {H0 : Ent} {E : DX → DEnv → Prop} {xa : Nat → Addr} {C : Cn} {sc : Scope}
theorem isNm_inv {N : List Str} {i : Nat} {tg : Expr} (h : isNm N sc i tg = true) : ∃ x p, tg = .Name x p ∧ N[i]? = some x ∧ locB sc x = true := by
  cases tg <;> first | (cases h; done) | skip
  have h' : (decide (N[i]? = some _) && locB sc _) = true := h
  exact ⟨_, _, rfl, of_decide_eq_true (of_and h').1, (of_and h').2⟩
theorem isNm_ckG {N : List Str} {i : Nat} {tg : Expr} (h : isNm N sc i tg = true) : ckG N none sc (.nm i) tg = true := by
  obtain ⟨x, p, rfl, h1, h2⟩ := isNm_inv h
  show (decide (N[i]? = some x) && locB sc x && true) = true
  rw [decide_eq_true h1, h2]; rfl
theorem sole {g : Tg} {tg : Expr} {env : Env} (h : ckG C.N none sc g tg = true) : (assignEach [tg] env).map (·.2) = [assign tg env] := by rw [each_cons h]; rfl
theorem nost {tg v : Expr} {env : Env} (h : ntup tg v = true) : swappedStores [tg] v env = pure none := by
  cases v <;> first | (cases tg <;> rfl) | skip
  cases tg <;> first | rfl | (cases h; done)
theorem ss_asg (ek : EXok EX) (hcm : C.calm = true) (c : Kst X EX H0 xa Γ C sc E) {g : Tg} {e : Ex} {tg v : Expr} {pos : Pos} (h1 : ckG C.N none sc g tg = true) (n : nb e = true) (h2 : swF sc tg v = true) (h3 : ntup tg v = true) (he : SE X EX Γ H0 E e v) : SS X EX Γ H0 E (.asg g e) (.Assign [tg] v pos) := fun ρ σ Hf H Z D R w k => by
  refine mS.of (ps_asg (PE.m v) (PG.m tg) (sw_false c h2) (nost h3) (sole h1)) ?_
  refine he ρ σ Hf H _ _ R w fun d1 ρ1 v1 Hf1 H1 R1 s1 t1 r1 w1 => ?_
  obtain ⟨Hf2, R2, s2, r2⟩ := r1.freeze (nb_md n) R1 ek
  exact sg (c.g hcm) g tg h1 ρ1 σ Hf2 H1 d1 v1 Z.nx D.nx R2 r2 w1 fun ρ2 σ2 R3 _ _ q => k.nx ρ2 σ2 Hf2 H1 R3 (s1.trans s2) q
def ownZ (Z : EndD) (ρ : DEnv) (i : Nat) : D → Prop
  | .lst l => Z.nx (ρ.set i (.own none l))
  | .dct l => Z.nx (ρ.set i (.ownK none l))
  | _ => False
def lcZ (fz : Bool) (Z : EndD) (ρ : DEnv) (i : Nat) : D → Prop
  | .lst l => Z.nx (ρ.set i (if fz = true then .sh (.lst l) else .own none l))
  | _ => False
/-- a fresh list or dict goes to a slot of its own -/
theorem own_set {ρ : DEnv} {σ : L2.St} {Hf H : Hp} {i : Nat} {d : D} {v : V} {Z : EndD} (R : SR X.K EX H0 ρ σ Hf H) (r : RepF X.K H0 ρ σ Hf H d v) (w : ownZ Z ρ i d) : ∃ ρ', SR X.K EX H0 ρ' (σ.set i (some v)) Hf H ∧ Z.nx ρ' := by
  cases r with
  | sh n r =>
    cases d <;> first | exact w.elim | (cases n; done)
  | own n0 n h r f =>
    exact ⟨_, R.setO (s := .own none _) rfl (fun p l e => by cases e; exact ⟨_, n, h, r, n0, nofun⟩) (fun p l e => by cases e) i fun j t _ e o => f j t e o, w⟩
  | ownK n0 n h r f =>
    exact ⟨_, R.setO (s := .ownK none _) rfl (fun p l e => by cases e) (fun p l e => by cases e; exact ⟨_, n, h, r, n0, nofun⟩) i fun j t _ e o => f j t e o, w⟩
theorem ss_own (c : Kst X EX H0 xa Γ C sc E) {i : Nat} {e : Ex} {tg v : Expr} {pos : Pos} (h1 : isNm C.N sc i tg = true) (m : md e = .fr) (h2 : swF sc tg v = true) (h3 : ntup tg v = true) (he : SE X EX Γ H0 E e v) : SS X EX Γ H0 E (.own i e) (.Assign [tg] v pos) := fun ρ σ Hf H Z D R w k => by
  have hg := isNm_ckG h1
  obtain ⟨x, p, rfl, hN, hl⟩ := isNm_inv h1
  refine mS.of (ps_asg (PE.m v) (pg_name (i := i) (by rw [c.c.N]; exact c.c.nd) (by rw [c.c.N]; exact hN) (by rw [c.c.scp]; exact loc_of hl) (.inl (c.fn x))) (sw_false c h2) (nost h3) (sole hg)) ?_
  refine he ρ σ Hf H _ _ R w fun d1 ρ1 v1 Hf1 H1 R1 s1 t1 r1 w1 => ?_
  rw [m] at r1
  have w2 : ownZ Z ρ1 i d1 := by cases d1 <;> exact w1
  obtain ⟨ρ2, R2, q⟩ := own_set (i := i) R1 r1 w2
  exact k.nx _ _ _ _ R2 s1 q
theorem ss_lcs (ek : EXok EX) (hcm : C.calm = true) (c : Kst X EX H0 xa Γ C sc E) {fz : Bool} {i : Nat} {g : Tg} {kk : ItK} {l t : Exs} {x : Ex} {tg0 v : Expr} {pos : Pos} (h1 : isNm C.N sc i tg0 = true) (h2 : swT sc tg0 v = true) (hck : ck C sc (.lc g kk l t x) v = true) : SS X EX Γ H0 E (.lcs fz i g kk l t x) (.Assign [tg0] v pos) := fun ρ σ Hf H Z D R w k => by
  obtain ⟨y, py, rfl, hN, hl⟩ := isNm_inv h1
  unfold ck at hck; split at hck <;> first | (cases hck; done) | skip
  rename_i elt tg iter ifs scope lpos
  obtain ⟨h, h9⟩ := of_and hck
  obtain ⟨h, h8⟩ := of_and h
  obtain ⟨h, h7⟩ := of_and h
  obtain ⟨h, h6⟩ := of_and h
  obtain ⟨h, h5⟩ := of_and h
  obtain ⟨h, h4⟩ := of_and h
  obtain ⟨h, h3⟩ := of_and h
  obtain ⟨ha, hb⟩ := of_and h
  have h2' : (decide (sc.names.lookup y = some .local) && (py.line == lpos.line) && !(scope.names.any fun (n, k) => n == y && (k == .local || k == .cell))) = true := h2
  obtain ⟨h2', z3⟩ := of_and h2'
  obtain ⟨z1, z2⟩ := of_and h2'
  have hyl : X.env.scope.names.lookup y = some .local := by rw [c.c.scp]; exact of_decide_eq_true z1
  refine mS.of (ps_setLc (i := i) (own := ownOf C.N g.slots) (c.cal hcm) (by rw [c.c.N]; exact c.c.nd) (by rw [c.c.N]; exact hN) hyl (sw_true c.kind hyl z2 (of_not z3)) (PI.m tg iter) (blkOk_by (by rw [c.c.N, c.c.scp]; exact h3)) bG_ok bT_ok bE_ok (nset_fold hb)) ?_
  have K0 := c.toKx
  have wl : wE Γ E (.lc g kk l t x) ρ fun d ρ1 => lcZ fz Z ρ1 i d := w
  refine tLc_ok h9 ek c.c (of_decide_eq_true h8) h7 h4 (sI ek l kk X H0 E sc _ _ K0 ha) (fun X' H0' hK hX' => fun tk' => sTs ek t X' H0' _ _ _ (hK.kx h9 K0 hX' tk') h5) (fun X' H0' hK hX' => fun tk' => sE ek x X' H0' _ _ _ (hK.kx h9 K0 hX' tk') h6) R
    wl fun d1 ρ1 v1 Hf1 H1 R1 s1 t1 r1 w1 => ?_
  cases fz with
  | false =>
    have w2 : ownZ Z ρ1 i d1 := by
      cases d1 <;> first | exact w1 | exact (show False from w1).elim
    obtain ⟨ρ2, R2, q⟩ := own_set (i := i) R1 r1 w2
    exact k.nx _ _ _ _ R2 s1 q
  | true =>
    cases d1 <;> first | exact (show False from w1).elim | skip
    obtain ⟨Hf2, R2, s2, r2⟩ := r1.freeze R1 ek
    exact k.nx _ _ _ _ (R2.setSh r2 i) (s1.trans s2) w1
theorem ss_aug (c : Kst X EX H0 xa Γ C sc E) {i : Nat} {o : BOp} {e : Ex} {tg v : Expr} {p : Operator} {pos : Pos} (h1 : isNm C.N sc i tg = true) (h2 : o.like p = true) (h3 : o.isAS = true) (he : SE X EX Γ H0 E e v) : SS X EX Γ H0 E (.aug i o e) (.AugAssign tg p v pos) := fun ρ σ Hf H Z D R w k => by
  obtain ⟨y, py, rfl, hN, hl⟩ := isNm_inv h1
  cases like_b h2
  have w' : (match ρ[i]? with
    | some (.sh x) => wE Γ E e ρ fun y ρ1 => augW o x y fun d => Z.nx (ρ1.set i (.sh d))
    | _ => False) := w
  split at w' <;> first | exact w'.elim | skip
  rename_i x hx
  obtain ⟨v0, hv0, r0⟩ := R.sh i x hx
  have nN : X.N.Nodup := by rw [c.c.N]; exact c.c.nd
  have hN' : X.N[i]? = some y := by rw [c.c.N]; exact hN
  have hL : Loc X.env.scope y := by rw [c.c.scp]; exact loc_of hl
  have fin : ∀ {ρ1 : DEnv} {Hf1 H1 : Hp} {d : DL.D} {z : V}, SR X.K EX H0 ρ1 σ Hf1 H1 → Same Hf Hf1 → Rep X.K Hf1 d z → Z.nx (ρ1.set i (.sh d)) → D.nx (σ.set i (some z)) H1 := fun R1 s1 r q => k.nx _ _ _ _ (R1.setSh r i) s1 q
  cases o with
  | add =>
    cases x with
    | int a =>
      refine mS.of (ps_aug nN hN' hL (PE.m v) ip_add (.inl (c.fn y))) ⟨v0, hv0, ?_⟩
      refine he ρ σ Hf H _ _ R w' fun d1 ρ1 v1 Hf1 H1 R1 s1 t1 r1 w1 => ?_
      cases d1 with
      | int b =>
        cases r0
        exact ⟨_, _, rfl, r1.toB.int_inv, fin R1 s1 (.int _) w1⟩
      | _ => exact (show False from w1).elim
    | str a =>
      refine mS.of (ps_aug nN hN' hL (PE.m v) iop_add_str (.inl (c.fn y))) ⟨v0, hv0, ?_⟩
      refine he ρ σ Hf H _ _ R w' fun d1 ρ1 v1 Hf1 H1 R1 s1 t1 r1 w1 => ?_
      cases d1 with
      | str b =>
        cases r0
        exact ⟨_, _, rfl, r1.toB.str_inv, w1.1, fin R1 s1 (.str _) w1.2⟩
      | _ => exact (show False from w1).elim
    | _ =>
      refine mS.of (ps_aug nN hN' hL (PE.m v) ip_add (.inl (c.fn y))) ⟨v0, hv0, ?_⟩
      refine he ρ σ Hf H _ _ R w' fun d1 ρ1 v1 Hf1 H1 R1 s1 t1 r1 w1 => ?_
      cases d1 <;> exact (show False from w1).elim
  | sub =>
    refine mS.of (ps_aug nN hN' hL (PE.m v) ip_sub (.inl (c.fn y))) ⟨v0, hv0, ?_⟩
    refine he ρ σ Hf H _ _ R w' fun d1 ρ1 v1 Hf1 H1 R1 s1 t1 r1 w1 => ?_
    cases x with
    | int a =>
      cases d1 with
      | int b =>
        cases r0
        exact ⟨_, _, rfl, r1.toB.int_inv, fin R1 s1 (.int _) w1⟩
      | _ => exact (show False from w1).elim
    | _ => cases d1 <;> exact (show False from w1).elim
  | _ => cases h3
end
end DL
/-! DR: the rest of the statements -/
namespace DL
open PySem PySem.Spec PyProof.Rows L2
section
variable {X : Cx} {EX : EXT} {Γ : Gm} {H0 : Ent} {E : DX → DEnv → Prop} {xa : Nat → Addr} {C : Cn} {sc : Scope}
theorem ss_ret (ek : EXok EX) {e : Ex} {v : Expr} {pos : Pos} (n : nb e = true) (he : SE X EX Γ H0 E e v) : SS X EX Γ H0 E (.ret e) (.Return (some v) pos) := fun ρ σ Hf H Z Y R w k => by
  refine mS.of (ps_ret (PE.m v)) ?_
  refine he ρ σ Hf H _ _ R w fun d1 ρ1 v1 Hf1 H1 R1 s1 t1 r1 w1 => ?_
  exact k.rt d1 ρ1 v1 σ Hf1 H1 (md e) R1 s1 (nb_md n) w1.1 r1 w1.2
theorem ss_retN {pos : Pos} : SS X EX Γ H0 E .retN (.Return none pos) := fun ρ σ Hf H Z Y R w k =>
  mS.of ps_retN (k.rt .non ρ _ σ Hf H .sh R (Same.refl _) nofun (fun z => by rw [w.1] at z; cases z) Rep.non w.2)
theorem ncomp_sw {v : Expr} {l : Nat} {env : Env} (h : ncomp v = true) : swapsWith v none l env = pure false := by
  cases v <;> first | rfl | (cases h; done)
theorem ss_expr {e : Ex} {v : Expr} {pos : Pos} (n : ncomp v = true) (he : SE X EX Γ H0 E e v) : SS X EX Γ H0 E (.expr e) (.Expr v pos) := fun ρ σ Hf H Z Y R w k => by
  refine mS.of (ps_expr (PE.m v) (ncomp_sw n)) ?_
  exact he ρ σ Hf H _ _ R w fun d1 ρ1 v1 Hf1 H1 R1 s1 t1 r1 w1 => k.nx _ _ _ _ R1 s1 w1
theorem few1 {v : Expr} {env : Env} {pos : Pos} (h : nst v = true) : ((backTo pos (starEach [v] env)).all (fun x => !x.1) && (backToKw pos (keywordEach [] env)).all (fun x => x.1.isSome)
      && decide (([v] : List Expr).length + ([] : List Keyword).length + (if ([] : List Keyword).isEmpty then 0 else 1) < 30)) = true := by
  rw [star_cons h]; rfl
theorem ss_app (ek : EXok EX) (c : Kst X EX H0 xa Γ C sc E) {i : Nat} {e : Ex} {x : Str} {v : Expr} {px ap p pos : Pos} (h1 : nmB C.N sc i x = true) (hn : nst v = true) (n : nb e = true) (hl : (ap.endLine == p.line) = true) (he : SE X EX Γ H0 E e v) :
    SS X EX Γ H0 E (.app i e) (.Expr (.Call (.Attribute (.Name x px) (Str.ofString "append") ap) [v] [] p) pos) := fun ρ σ Hf H Z Y R w k => by
  refine mS.of (ps_expr (pe_bm PySem.F.plainAttrs_list PySem.F.slot_list_append PySem.F.type_list_append mt_append (c.c.pv h1) (PA.m [v]) rfl (few1 hn) hl (star_cons hn) rfl) rfl) ?_
  have w' : (match ρ[i]? with
    | some (.own p l) => wE Γ E e ρ fun d ρ1 => ρ1[i]? = some (.own p l) ∧ l.length < sizeLine ∧ Z.nx (ρ1.set i (.own p (l ++ [d])))
    | _ => False) := w
  split at w' <;> first | exact w'.elim | skip
  rename_i pa l hx
  obtain ⟨a, xs, q1, q2, q3, q4, q5, q6⟩ := R.own i pa l hx
  refine ⟨.ref a, q1, .inl ⟨rfl, xs, .of q3⟩, ?_⟩
  refine mA.of (pa_cons (PE.m v) pa_nil (star_cons hn)) ?_
  refine he ρ σ Hf H _ _ R w' fun d1 ρ1 v1 Hf1 H1 R1 s1 t1 r1 w1 => ?_
  obtain ⟨z1, z2, z3⟩ := w1
  obtain ⟨Hf2, R2, s2, r2⟩ := r1.freeze (nb_md n) R1 ek
  obtain ⟨b, ys, p1, p2, p3, p4, p5, p6⟩ := R2.own i pa l z1
  rw [q1] at p1
  cases p1
  refine ⟨a, ys, v1, rfl, rfl, p3, by rw [← p4.length]; exact z2, ?_⟩
  exact k.nx _ _ _ _ (R2.write z1 rfl rfl q1 p2 p5 (fun p' l' e => by cases e; exact ⟨_, rfl, p4.append (.one r2), p6⟩) (fun p' l' e => by cases e)) (s1.trans s2) z3
theorem ss_ext (c : Kst X EX H0 xa Γ C sc E) {i : Nat} {e : Ex} {x : Str} {v : Expr} {px ap p pos : Pos} (h1 : nmB C.N sc i x = true) (hn : nst v = true) (m : md e = .fr) (hl : (ap.endLine == p.line) = true) (he : SE X EX Γ H0 E e v) :
    SS X EX Γ H0 E (.ext i e) (.Expr (.Call (.Attribute (.Name x px) (Str.ofString "extend") ap) [v] [] p) pos) := fun ρ σ Hf H Z Y R w k => by
  refine mS.of (ps_expr (pe_bm PySem.F.plainAttrs_list PySem.F.slot_list_extend PySem.F.type_list_extend mt_extend (c.c.pv h1) (PA.m [v]) rfl (few1 hn) hl (star_cons hn) rfl) rfl) ?_
  have w' : (match ρ[i]? with
    | some (.own p l) => wE Γ E e ρ fun d ρ1 => ρ1[i]? = some (.own p l) ∧ match d with
      | .lst m => l.length + m.length ≤ sizeLine ∧ Z.nx (ρ1.set i (.own p (l ++ m)))
      | _ => False
    | _ => False) := w
  split at w' <;> first | exact w'.elim | skip
  rename_i pa l hx
  obtain ⟨a, xs, q1, q2, q3, q4, q5, q6⟩ := R.own i pa l hx
  refine ⟨.ref a, q1, .inl ⟨rfl, xs, .of q3⟩, ?_⟩
  refine mA.of (pa_cons (PE.m v) pa_nil (star_cons hn)) ?_
  refine he ρ σ Hf H _ _ R w' fun d1 ρ1 v1 Hf1 H1 R1 s1 t1 r1 w1 => ?_
  obtain ⟨z1, w1⟩ := w1
  rw [m] at r1
  obtain ⟨b, ys, p1, p2, p3, p4, p5, p6⟩ := R1.own i pa l z1
  rw [q1] at p1
  cases p1
  cases r1 with
  | sh nn _ =>
    cases d1 <;> first | (cases nn; done) | exact (show False from w1).elim
  | ownK => exact (show False from w1).elim
  | own n0 n h r f =>
    refine ⟨a, _, ys, _, rfl, rfl, p3, h, by rw [← p4.length, ← r.length]; exact w1.1, ?_⟩
    exact k.nx _ _ _ _ (R1.write z1 rfl rfl q1 p2 p5 (fun p' l' e => by cases e; exact ⟨_, rfl, p4.append r, p6⟩) (fun p' l' e => by cases e)) s1 w1.2
theorem putK_rep {K : PySem.W.Frag} {H : Hp} {j : Key} {d : DL.D} {v : V} (r : Rep K H d v) : ∀ {l : List (Key × DL.D)} {xs : List (Key × V)}, RepK K H l xs →
    (l.any fun kv => decide (kv.1 = j)) = (xs.any fun kv => decide (kv.1 = j)) ∧ RepK K H (l.map fun kv => if kv.1 = j then (kv.1, d) else kv) (xs.map fun kv => if kv.1 = j then (kv.1, v) else kv) ∧ RepK K H (l ++ [(j, d)]) (xs ++ [(j, v)])
  | _, _, .nil => ⟨rfl, .nil, .cons r .nil⟩
  | (k, d0) :: l, (_, v0) :: xs, .cons r0 t => by
    obtain ⟨i1, i2, i3⟩ := putK_rep r t
    refine ⟨by rw [List.any_cons, List.any_cons, i1], ?_, .cons r0 i3⟩
    rw [List.map_cons, List.map_cons]
    by_cases e : k = j
    · rw [if_pos e, if_pos e]; exact .cons r i2
    · rw [if_neg e, if_neg e]; exact .cons r0 i2
theorem RepK.put {K : PySem.W.Frag} {H : Hp} {j : Key} {d : DL.D} {v : V} (r : Rep K H d v) {l : List (Key × DL.D)} {xs : List (Key × V)} (h : RepK K H l xs) : RepK K H (putD l j d) (putK xs j v) := by
  obtain ⟨i1, i2, i3⟩ := putK_rep (j := j) r h
  unfold putD putK
  rw [i1]
  by_cases e : (xs.any fun kv => decide (kv.1 = j)) = true
  · rw [if_pos e, if_pos e]; exact i2
  · rw [if_neg e, if_neg e]; exact i3
theorem sub_sw {v o i : Expr} {p : Pos} {l : Nat} {env : Env} : swapsWith v (some (.Subscript o i p)) l env = pure false := by
  cases v <;> rfl
theorem ss_put (ek : EXok EX) (c : Kst X EX H0 xa Γ C sc E) {i : Nat} {kx e : Ex} {x : Str} {ky v : Expr} {px p pos : Pos} (h1 : nmB C.N sc i x = true) (n : nb e = true) (hk : SE X EX Γ H0 E kx ky) (he : SE X EX Γ H0 E e v) :
    SS X EX Γ H0 E (.put i kx e) (.Assign [.Subscript (.Name x px) ky p] v pos) := fun ρ σ Hf H Z Y R w k => by
  refine mS.of (ps_dput (by have := c.c.hu; omega) (c.c.pv h1) (PE.m ky) (PE.m v) sub_sw) ?_
  have w' : (match ρ[i]? with
    | some (.ownK p l) => wE Γ E e ρ fun d ρ1 => wE Γ E kx ρ1 fun y ρ2 => ρ1[i]? = some (.ownK p l) ∧ ρ2[i]? = some (.ownK p l) ∧ ∃ j, keyD y = some j ∧ l.length < sizeLine ∧ Z.nx (ρ2.set i (.ownK p (putD l j d)))
    | _ => False) := w
  split at w' <;> first | exact w'.elim | skip
  rename_i pa l hx
  obtain ⟨a, xs, q1, q2, q3, q4, q5, q6⟩ := R.ownK i pa l hx
  refine he ρ σ Hf H _ _ R w' fun d1 ρ1 v1 Hf1 H1 R1 s1 t1 r1 w1 => ?_
  obtain ⟨Hf1', R1', s1', r1'⟩ := r1.freeze (nb_md n) R1 ek
  refine ⟨.ref a, q1, ?_⟩
  refine hk ρ1 σ Hf1' H1 _ _ R1' w1 fun d2 ρ2 v2 Hf2 H2 R2 s2 t2 r2 w2 => ?_
  obtain ⟨z0, z1, j, hj, hz, z3⟩ := w2
  obtain ⟨b, ys, p1, p2, p3, p4, p5, p6⟩ := R2.ownK i pa l z1
  rw [q1] at p1
  cases p1
  rw [keyD_inv r2.toB hj]
  refine ⟨a, _, rfl, .k p3 (by rw [← p4.length]; exact hz), ?_⟩
  exact k.nx _ _ _ _ (R2.write z1 rfl rfl q1 p2 p5 (fun p' l' e => by cases e) (fun p' l' e => by cases e; exact ⟨_, rfl, p4.put (r1'.same s2), p6⟩)) (s1.trans (s1'.trans s2)) z3
theorem ss_seti (ek : EXok EX) (c : Kst X EX H0 xa Γ C sc E) {i : Nat} {kx e : Ex} {x : Str} {ky v : Expr} {px p pos : Pos} (h1 : nmB C.N sc i x = true) (n : nb e = true) (hns : nslice ky = true) (hk : SE X EX Γ H0 E kx ky) (he : SE X EX Γ H0 E e v) :
    SS X EX Γ H0 E (.seti i kx e) (.Assign [.Subscript (.Name x px) ky p] v pos) := fun ρ σ Hf H Z Y R w k => by
  refine mS.of (ps_asg (PE.m v) (pg_sub (c.c.pv h1) (PE.m ky) set_list (fun u => by cases ky <;> first | rfl | (cases hns; done))) (show swapsWith v (some (.Subscript (.Name x px) ky p)) pos.line X.env = pure false from sub_sw) (by cases v <;> rfl) rfl) ?_
  have w' : (match ρ[i]? with
    | some (.own p l) => wE Γ E e ρ fun d ρ1 => wE Γ E kx ρ1 fun y ρ2 => ρ1[i]? = some (.own p l) ∧ ρ2[i]? = some (.own p l) ∧ match y with
      | .int n => ∃ j, ixN l.length n = some j ∧ Z.nx (ρ2.set i (.own p (l.set j d)))
      | _ => False
    | _ => False) := w
  split at w' <;> first | exact w'.elim | skip
  rename_i pa l hx
  obtain ⟨a, xs, q1, q2, q3, q4, q5, q6⟩ := R.own i pa l hx
  refine he ρ σ Hf H _ _ R w' fun d1 ρ1 v1 Hf1 H1 R1 s1 t1 r1 w1 => ?_
  obtain ⟨Hf1', R1', s1', r1'⟩ := r1.freeze (nb_md n) R1 ek
  refine ⟨.ref a, q1, ?_⟩
  refine hk ρ1 σ Hf1' H1 _ _ R1' w1 fun d2 ρ2 v2 Hf2 H2 R2 s2 t2 r2 w2 => ?_
  obtain ⟨z0, z1, w3⟩ := w2
  obtain ⟨b, ys, p1, p2, p3, p4, p5, p6⟩ := R2.own i pa l z1
  rw [q1] at p1
  cases p1
  cases d2 with
  | int nn =>
    obtain ⟨j, hj, z3⟩ := w3
    refine ⟨a, ys, nn, j, rfl, r2.toB.int_inv, p3, by rw [← p4.length]; exact hj, ?_⟩
    exact k.nx _ _ _ _ (R2.write z1 rfl rfl q1 p2 p5 (fun p' l' e => by cases e; exact ⟨_, rfl, p4.set (r1'.same s2) j, p6⟩) (fun p' l' e => by cases e)) (s1.trans (s1'.trans s2)) z3
  | _ => exact (show False from w3).elim
theorem SR.opened {K : PySem.W.Frag} {ρ : DEnv} {σ : L2.St} {Hf H Hf' H' : Hp} {i : Nat} {a : Addr} {s : Sl} {p : Option Addr} {d' : DL.D} {o' : HO} (ek : EXok EX) (R : SR K EX H0 ρ σ Hf H) (e : ρ[i]? = some s) (ho : s.isOwn = true) (hs : σ[i]? = some (some (V.ref a))) (n0 : H0.h a = none)
    (hp : ∀ b, p = some b → b = a) (t : Same (less H a) H') (sf : Same Hf Hf') (su : Same Hf' H') (nf : ∀ b : Addr, b ≠ a → H b ≠ none → Hf b = none → Hf' b = none) (n1 : Hf' a = none) (h1 : H' a = some o') (r : RepO K Hf' d' o') (so : (slO p d').isOwn = true) (hn : Hf a = none) : SR K EX H0 (ρ.set i (slO p d')) σ Hf' H' := by
  have keep : ∀ {b : Addr} {u : HO}, b ≠ a → H b = some u → H' b = some u := fun {b u} hb q => t b u (by rw [less_ne hb]; exact q)
  have old : ∀ {j : Nat} {s1 : Sl}, (ρ.set i (slO p d'))[j]? = some s1 → s1.isOwn = true → ∃ s2, ρ[j]? = some s2 ∧ s2.isOwn = true := fun {j s1} e1 o1 => by
    rcases get_set e1 with ⟨rfl, _, _⟩ | ⟨_, q⟩
    · exact ⟨s, e, ho⟩
    · exact ⟨s1, q, o1⟩
  refine ⟨R.base.trans sf, fun b u q => keep (fun z => by rw [z, n0] at q; cases q) (R.ent b u q), fun b q1 q2 => nf b (fun z => q1 (by rw [z]; exact n0)) (fun z => q1 (R.ent.free z)) (R.nof b q1 q2), su, by rw [List.length_set]; exact R.len, fun j d e' => ?_, fun j p' l e' => ?_, fun j p' l e' => ?_, fun j c l e' => ?_, fun j k s1 t1 b nn e1 e2 o1 o2 z1 z2 => ?_⟩
  · rcases get_set e' with ⟨rfl, z, _⟩ | ⟨_, e'⟩
    · rw [← z] at so; cases so
    · obtain ⟨v, q, r'⟩ := R.sh j d e'
      exact ⟨v, q, r'.same sf⟩
  · rcases get_set e' with ⟨rfl, z, _⟩ | ⟨nn, e'⟩
    · cases r with
      | lst r => cases z; exact ⟨a, _, hs, n1, h1, r, n0, hp⟩
      | dct r => cases z
    · obtain ⟨b, xs, q1, q2, q3, r', q4⟩ := R.own j p' l e'
      have hb : b ≠ a := fun z => R.apart j i _ _ a nn e' e rfl ho (by rw [q1, z]) hs
      exact ⟨b, xs, q1, nf b hb (by rw [q3]; exact nofun) q2, keep hb q3, r'.same sf, q4⟩
  · rcases get_set e' with ⟨rfl, z, _⟩ | ⟨nn, e'⟩
    · cases r with
      | lst r => cases z
      | dct r => cases z; exact ⟨a, _, hs, n1, h1, r, n0, hp⟩
    · obtain ⟨b, xs, q1, q2, q3, r', q4⟩ := R.ownK j p' l e'
      have hb : b ≠ a := fun z => R.apart j i _ _ a nn e' e rfl ho (by rw [q1, z]) hs
      exact ⟨b, xs, q1, nf b hb (by rw [q3]; exact nofun) q2, keep hb q3, r'.same sf, q4⟩
  · rcases get_set e' with ⟨rfl, z, _⟩ | ⟨_, e'⟩
    · rw [← z] at so; cases so
    · obtain ⟨v, q, r'⟩ := R.exc j c l e'
      exact ⟨v, q, ek _ _ _ _ _ sf r'⟩
  · obtain ⟨s2, q2, w2⟩ := old e1 o1
    obtain ⟨s3, q3, w3⟩ := old e2 o2
    exact R.apart j k s2 s3 b nn q2 q3 w2 w3 z1 z2
theorem ofO_inv {K : PySem.W.Frag} {ρ : DEnv} {σ : L2.St} {Hf H : Hp} {i : Nat} {p : Option Addr} {d0 : DL.D} (R : SR K EX H0 ρ σ Hf H) (h : ofO ρ[i]? = some (p, d0)) : ∃ a o s, ρ[i]? = some s ∧ s.isOwn = true ∧ σ[i]? = some (some (V.ref a)) ∧ Hf a = none ∧ H a = some o ∧ RepO K Hf d0 o ∧ H0.h a = none ∧ ∀ b, p = some b → b = a := by
  unfold ofO at h
  split at h
  · rename_i p' l e
    cases h
    obtain ⟨a, xs, q1, q2, q3, q4, q5, q6⟩ := R.own i _ l e
    exact ⟨a, _, _, e, rfl, q1, q2, q3, .lst q4, q5, q6⟩
  · rename_i p' l e
    cases h
    obtain ⟨a, xs, q1, q2, q3, q4, q5, q6⟩ := R.ownK i _ l e
    exact ⟨a, _, _, e, rfl, q1, q2, q3, .dct q4, q5, q6⟩
  · cases h
theorem ss_exO (ek : EXok EX) (hcm : C.calm = true) (c : Kst X EX H0 xa Γ C sc E) {f i : Nat} {l : Exs} {x y : Str} {px py p pos : Pos} {es : List Expr} (hx : x = C.nm f) (hg : gloB sc x = true) (hd : (x == ("__debug__" : Str)) = false) (hl : C.lv f ≤ C.k) (hf : f ∈ C.depO) (h1 : nmB C.N sc i y = true) (hck : ckA C sc l es = true)
    (n : nbA l = true) (h : SA X EX Γ H0 E l es) : SS X EX Γ H0 E (.exO f i l) (.Expr (.Call (.Name x px) (.Name y py :: es) [] p) pos) := fun ρ σ Hf H Z Y R w k => by
  obtain ⟨fa, fd, ps, hm, hk, hb, F⟩ := c.c.opn f hf
  subst hx
  obtain ⟨z1, _⟩ := ckA_star (env := X.env) (pos := p) hck
  refine mS.of (ps_expr (pe_callS F ((c.c.room hcm).mono hl) (c.c.gl hg) hm hk hb (fun σ => passAt c.tk σ) (pa_cons (c.c.pv h1) (PA.m es) rfl) hd rfl z1) rfl) ?_
  obtain ⟨pa, d0, ho, w⟩ := w
  obtain ⟨a0, o0, s0, q0, q1, q2, _⟩ := ofO_inv R ho
  refine ⟨.ref a0, q2, ?_⟩
  refine h ρ σ Hf H _ _ R w fun ds ρ1 vs Hf1 H1 R1 s1 t1 _ rn w1 => ?_
  obtain ⟨z0, w1⟩ := w1
  rw [← z0] at ho
  obtain ⟨a, o, s, p0, p1, p2, p3, p4, p5, p6, p7⟩ := ofO_inv R1 ho
  rw [q2] at p2
  cases p2
  exact ⟨a0, o, d0, ds, vs, _, Hf1, rfl, R1.sub, p3, p4, p5, rn n, w1, fun d v d' o' Hf' H' a1 a2 a3 a4 a5 a6 a7 _ q => k.nx _ _ _ _ (R1.opened ek p0 p1 q2 p6 p7 a1 a2 a3 a4 a5 a6 a7 q.1 p3) (s1.trans a2) q.2⟩
theorem ss_ife {t : Ex} {a b : Sxs} {ce : Expr} {x y : List Stmt} {pos : Pos} (ht : ST X EX Γ H0 E t ce) (ha : SSs X EX Γ H0 E a x) (hb : SSs X EX Γ H0 E b y) : SS X EX Γ H0 E (.ife t a b) (.If ce x y pos) := fun ρ σ Hf H Z Y R w k => by
  refine mS.of (ps_if (PT.m ce) (PSs.m x) (PSs.m y)) ?_
  refine ht ρ σ Hf H _ _ R w fun c ρ1 Hf1 H1 R1 s1 t1 w1 => ?_
  cases c with
  | true =>
    rw [if_pos rfl] at w1 ⊢
    exact ha ρ1 σ Hf1 H1 Z Y R1 w1 (k.mono s1)
  | false =>
    rw [if_neg Bool.false_ne_true] at w1 ⊢
    exact hb ρ1 σ Hf1 H1 Z Y R1 w1 (k.mono s1)
theorem ss_whl (c : Kst X EX H0 xa Γ C sc E) {t : Ex} {b : Sxs} {ce : Expr} {x : List Stmt} {pos : Pos} (ht : ST X EX Γ H0 E t ce) (hb : SSs X EX Γ H0 E b x) : SS X EX Γ H0 E (.whl t b) (.While ce x [] pos) := fun ρ σ Hf H Z Y R w k => by
  refine mS.of (ps_while c.own (PT.m ce) (PSs.m x)) ?_
  obtain ⟨W, ⟨m0, w0⟩, turn⟩ := w
  refine ⟨fun m σ H => ∃ ρ Hf1, SR X.K EX H0 ρ σ Hf1 H ∧ Same Hf Hf1 ∧ W m ρ, ⟨m0, ρ, Hf, R, Same.refl _, w0⟩, ?_⟩
  rintro m σ1 H1 ⟨ρ1, Hf1, R1, s1, w1⟩
  refine ht ρ1 σ1 Hf1 H1 _ _ R1 (turn m ρ1 w1) fun cc ρ2 Hf2 H2 R2 s2 t2 w2 => ?_
  cases cc with
  | true =>
    rw [if_pos rfl] at w2 ⊢
    refine ⟨fun σ' H' => ∃ ρ' Hf', SR X.K EX H0 ρ' σ' Hf' H' ∧ Same Hf Hf' ∧ ∃ m', m' < m ∧ W m' ρ', fun σ' H' ⟨ρ', Hf', R', s', m', l, q⟩ => ⟨m', l, ρ', Hf', R', s', q⟩, ?_⟩
    refine hb ρ2 σ1 Hf2 H2 _ _ R2 w2 ⟨fun ρ' σ' Hf' H' R' s' q => ⟨ρ', Hf', R', s1.trans (s2.trans s'), q⟩, fun d ρ' v σ' Hf' H' m R' s' a b r q => k.rt d ρ' v σ' Hf' H' m R' (s1.trans (s2.trans s')) a b r q, fun ρ' σ' Hf' H' R' s' q => k.nx ρ' σ' Hf' H' R' (s1.trans (s2.trans s')) q, fun ρ' σ' Hf' H' R' s' q => ⟨ρ', Hf', R', s1.trans (s2.trans s'), q⟩⟩
  | false =>
    rw [if_neg Bool.false_ne_true] at w2 ⊢
    exact k.nx ρ2 σ1 Hf2 H2 R2 (s1.trans s2) w2
theorem ss_for (hcm : C.calm = true) (c : Kst X EX H0 xa Γ C sc E) {g : Tg} {kk : ItK} {l : Exs} {b : Sxs} {tg it : Expr} {x : List Stmt} {pos : Pos} (hn : nbA l = true) (hs : nset it = true) (hg : ckG C.N none sc g tg = true) (hi : SI X EX Γ H0 E kk l tg it) (hb : SSs X EX Γ H0 E b x) : SS X EX Γ H0 E (.for_ g kk l b) (.For tg it x [] pos) := fun ρ σ Hf H Z Y R w k => by
  refine mS.of (ps_for c.own (c.cal hcm) (PI.m tg it) (PG.m tg) (PSs.m x) (nset_fold hs)) ?_
  refine hi ρ σ Hf H _ _ R w fun ρ1 Hf1 H1 J items bb R1 s1 t1 itd hbb w1 => ?_
  cases hbb hn
  refine ⟨fun i m σ H => m = items.length - i ∧ i ≤ items.length ∧ ∃ ρ' Hf', SR X.K EX H0 ρ' σ Hf' H ∧ Same Hf1 Hf' ∧ forL (wG g) (wSs Γ E b) Z (items.drop i) ρ', ⟨items.length, by simp, Nat.zero_le _, ρ1, Hf1, R1, Same.refl _, w1⟩, ?_⟩
  rintro i m σ2 H2 ⟨rfl, hi, ρ2, Hf2, R2, s2, w2⟩
  by_cases hlt : i < items.length
  · refine .inr ⟨itd.go i Hf2 H2 s2 R2.sub nofun hlt, fun σ' H' => ∃ ρ' Hf', SR X.K EX H0 ρ' σ' Hf' H' ∧ Same Hf1 Hf' ∧ forL (wG g) (wSs Γ E b) Z (items.drop (i + 1)) ρ', fun σ' H' ⟨ρ', Hf', R', s', q⟩ => ⟨items.length - (i + 1), by omega, rfl, hlt, ρ', Hf', R', s', q⟩, fun v H3 y => ?_⟩
    have hget : items[i]? = some items[i] := by simp [hlt]
    rw [List.drop_eq_getElem_cons hlt] at w2
    obtain ⟨Hf3, R3, s3, t3, r3⟩ := itd.yld _ i items[i] H2 v H3 Hf2 ρ2 σ2 R2 s2 nofun hget y
    have w3 : wG g items[i] ρ2 fun ρ3 => wSs Γ E b { nx := forL (wG g) (wSs Γ E b) Z (items.drop (i + 1)), rt := Z.rt, rtF := Z.rtF, bk := Z.nx, ct := forL (wG g) (wSs Γ E b) Z (items.drop (i + 1)) } ρ3 := w2
    refine sg (c.g hcm) g tg hg ρ2 σ2 Hf3 H3 _ v _ _ R3 r3 w3 fun ρ4 σ4 R4 _ _ w4 => ?_
    have sA : Same Hf1 Hf3 := s2.trans s3
    refine hb ρ4 σ4 Hf3 H3 _ _ R4 w4 ⟨fun ρ' σ' Hf' H' R' s' q => ⟨ρ', Hf', R', sA.trans s', q⟩, fun d ρ' v σ' Hf' H' m R' s' a b r q => k.rt d ρ' v σ' Hf' H' m R' (s1.trans (sA.trans s')) a b r q, fun ρ' σ' Hf' H' R' s' q => k.nx ρ' σ' Hf' H' R' (s1.trans (sA.trans s')) q, fun ρ' σ' Hf' H' R' s' q => ⟨ρ', Hf', R', sA.trans s', q⟩⟩
  · have e : i = items.length := by omega
    subst e
    rw [List.drop_length] at w2
    exact .inl ⟨itd.stop Hf2 H2 s2 R2.sub nofun, k.nx ρ2 σ2 Hf2 H2 R2 (s1.trans s2) w2⟩
theorem ss_brk {pos : Pos} : SS X EX Γ H0 E .brk (.Break pos) := fun ρ σ Hf H Z Y R w k => mS.of ps_break (k.bk ρ σ Hf H R (Same.refl _) w)
theorem ss_cont {pos : Pos} : SS X EX Γ H0 E .cont (.Continue pos) := fun ρ σ Hf H Z Y R w k => mS.of ps_continue (k.ct ρ σ Hf H R (Same.refl _) w)
theorem ss_pass {pos : Pos} : SS X EX Γ H0 E .pass (.Pass pos) := fun ρ σ Hf H Z Y R w k => mS.of ps_pass (k.nx ρ σ Hf H R (Same.refl _) w)
theorem sss_nil : SSs X EX Γ H0 E .nil [] := fun ρ σ Hf H Z Y R w k => mSs.of pss_nil (k.nx ρ σ Hf H R (Same.refl _) w)
theorem sss_cons {s : Sx} {l : Sxs} {st : Stmt} {r : List Stmt} (hs : SS X EX Γ H0 E s st) (hl : SSs X EX Γ H0 E l r) : SSs X EX Γ H0 E (.cons s l) (st :: r) := fun ρ σ Hf H Z Y R w k => by
  refine mSs.of (pss_cons (PS.m st) (PSs.m r)) ?_
  refine hs ρ σ Hf H _ _ R w ⟨fun ρ' σ' Hf' H' R' s' q => hl ρ' σ' Hf' H' Z Y R' q (k.mono s'), k.rt, k.bk, k.ct⟩
end
end DL
/-! DX2: raise and try -/
namespace DL
open PySem PySem.Spec PyProof.Rows L2
section
variable {K : PySem.W.Frag} {EX EX' : EXT} {H0 : Ent} {ρ : DEnv} {σ : L2.St} {Hf H : Hp}
theorem SR.setN (R : SR K EX H0 ρ σ Hf H) {s : Sl} {v : Option V} (n : s.isOwn = false) (h1 : ∀ d, s = .sh d → ∃ u, v = some u ∧ Rep K Hf d u) (h2 : ∀ c l, s = .exc c l → ∃ u, v = some u ∧ EX u c l Hf) (i : Nat) : SR K EX H0 (ρ.set i s) (σ.set i v) Hf H := by
  refine ⟨R.base, R.ent, R.nof, R.sub, by rw [List.length_set, List.length_set, R.len], fun j d' e => ?_, fun j p l e => ?_, fun j p l e => ?_, fun j c l e => ?_, fun j k s1 t a nn e1 e2 o1 o2 z1 z2 => ?_⟩
  · rcases get_set e with ⟨rfl, z, hl⟩ | ⟨nn, e⟩
    · obtain ⟨u, rfl, r⟩ := h1 d' z.symm
      exact ⟨u, by rw [List.getElem?_set_self (by rw [← R.len]; exact hl)], r⟩
    · rw [List.getElem?_set_ne (Ne.symm nn)]; exact R.sh j d' e
  · rcases get_set e with ⟨rfl, z, hl⟩ | ⟨nn, e⟩
    · rw [← z] at n; cases n
    · rw [List.getElem?_set_ne (Ne.symm nn)]; exact R.own j p l e
  · rcases get_set e with ⟨rfl, z, hl⟩ | ⟨nn, e⟩
    · rw [← z] at n; cases n
    · rw [List.getElem?_set_ne (Ne.symm nn)]; exact R.ownK j p l e
  · rcases get_set e with ⟨rfl, z, hl⟩ | ⟨nn, e⟩
    · obtain ⟨u, rfl, r⟩ := h2 c l z.symm
      exact ⟨u, by rw [List.getElem?_set_self (by rw [← R.len]; exact hl)], r⟩
    · rw [List.getElem?_set_ne (Ne.symm nn)]; exact R.exc j c l e
  · rcases get_set e1 with ⟨rfl, z, hl⟩ | ⟨n1, e1⟩
    · rw [z, n] at o1; cases o1
    · rcases get_set e2 with ⟨rfl, z, hl⟩ | ⟨n2, e2⟩
      · rw [z, n] at o2; cases o2
      · rw [List.getElem?_set_ne (Ne.symm n1)] at z1
        rw [List.getElem?_set_ne (Ne.symm n2)] at z2
        exact R.apart j k s1 t a nn e1 e2 o1 o2 z1 z2
theorem SR.swap (R : SR K EX H0 ρ σ Hf H) (n : noExc ρ = true) : SR K EX' H0 ρ σ Hf H :=
  ⟨R.base, R.ent, R.nof, R.sub, R.len, R.sh, R.own, R.ownK, fun i c l e => by
    have z : notExc (.exc c l) = true := List.all_eq_true.mp n _ (List.mem_of_getElem? e)
    exact absurd z Bool.false_ne_true, R.apart⟩
theorem SR.un (R : SR K EX H0 ρ σ Hf H) : ∀ o : Option Nat, SR K EX H0 (unS o ρ) (exN o σ) Hf H
  | none => R
  | some i => R.setN (s := .un) rfl nofun nofun i
theorem Res.un {m : Md} {d : D} {v : V} (r : Res K H0 m ρ σ Hf H d v) : ∀ o : Option Nat, Res K H0 m (unS o ρ) (exN o σ) Hf H d v
  | none => r
  | some i => by
    have f : ∀ {a : Addr}, (∀ (j : Nat) (s : Sl), ρ[j]? = some s → s.isOwn = true → σ[j]? ≠ some (some (V.ref a))) → ∀ (j : Nat) (s : Sl), (ρ.set i .un)[j]? = some s → s.isOwn = true → (σ.set i none)[j]? ≠ some (some (V.ref a)) := fun h j s e o => by
      rcases get_set e with ⟨rfl, z, _⟩ | ⟨nn, e⟩
      · rw [z] at o; cases o
      · rw [List.getElem?_set_ne (Ne.symm nn)]; exact h j s e o
    cases m with
    | sh => exact r
    | bo => exact r
    | fr =>
      have r' : RepF K H0 ρ σ Hf H d v := r
      cases r' with
      | sh n r => exact RepF.sh n r
      | own a1 a2 a3 a4 a5 => exact RepF.own a1 a2 a3 a4 (f a5)
      | ownK a1 a2 a3 a4 a5 => exact RepF.ownK a1 a2 a3 a4 (f a5)
/-- what the suite's slot means -/
def EXs (K : PySem.W.Frag) (xa : Nat → Addr) (a : Addr) (cls : Value) (d : Option Addr) : EXT := fun v c l H => v = .ref a ∧ cls = .ref (xa c) ∧ ∃ dd xs, d = some dd ∧ H dd = some (.xd xs) ∧ RepX K H l xs
theorem exXok {xa : Nat → Addr} {a : Addr} {cls : Value} {d : Option Addr} : EXok (EXs K xa a cls d) := fun v c l H H' s ⟨e1, e2, dd, xs, e3, h, r⟩ => ⟨e1, e2, dd, xs, e3, s _ _ h, r.same s⟩
theorem KZ.un {Z : EndD} {D : Ends} (k : KZ K EX H0 Z D Hf) (o : Option Nat) : KZ K EX' H0 (Z.un o) (exD o D) Hf :=
  ⟨fun ρ' σ' Hf' H' R s q => k.nx _ _ Hf' H' ((R.un o).swap q.1) s q.2, fun d ρ' v σ' Hf' H' m R s a b r q => k.rt d _ v _ Hf' H' m ((R.un o).swap q.1) s a b (r.un o) q.2,
   fun ρ' σ' Hf' H' R s q => k.bk _ _ Hf' H' ((R.un o).swap q.1) s q.2, fun ρ' σ' Hf' H' R s q => k.ct _ _ Hf' H' ((R.un o).swap q.1) s q.2⟩
/-- the start set anew -/
theorem SR.reb (R : SR K EX H0 ρ σ Hf H) : SR K EX ⟨Hf, H0.h⟩ ρ σ Hf H := ⟨Same.refl _, R.ent, fun _ _ h => h, R.sub, R.len, R.sh, R.own, R.ownK, R.exc, R.apart⟩
theorem SR.unreb {ρ' : DEnv} {σ' : L2.St} {Hf' H' : Hp} (R0 : SR K EX H0 ρ σ Hf H) (R : SR K EX' ⟨Hf, H0.h⟩ ρ' σ' Hf' H') : SR K EX' H0 ρ' σ' Hf' H' :=
  ⟨R0.base.trans R.base, R.ent, fun a h1 h2 => R.nof a h1 (R0.nof a h1 h2), R.sub, R.len, R.sh, R.own, R.ownK, R.exc, R.apart⟩
theorem Res.unreb {m : Md} {d : D} {v : V} {f : Hp} (r : Res K ⟨f, H0.h⟩ m ρ σ Hf H d v) : Res K H0 m ρ σ Hf H d v := by
  cases m with
  | sh => exact r
  | bo => exact r
  | fr =>
    have r' : RepF K ⟨f, H0.h⟩ ρ σ Hf H d v := r
    cases r' with
    | sh n r => exact RepF.sh n r
    | own a1 a2 a3 a4 a5 => exact RepF.own a1 a2 a3 a4 a5
    | ownK a1 a2 a3 a4 a5 => exact RepF.ownK a1 a2 a3 a4 a5
theorem KZ.reb {Z : EndD} {D : Ends} (R0 : SR K EX H0 ρ σ Hf H) (k : KZ K EX H0 Z D Hf) : KZ K EX ⟨Hf, H0.h⟩ Z D Hf :=
  ⟨fun ρ' σ' Hf' H' R s q => k.nx _ _ Hf' H' (R0.unreb R) s q, fun d ρ' v σ' Hf' H' m R s a b r q => k.rt d _ v _ Hf' H' m (R0.unreb R) s a b r.unreb q,
   fun ρ' σ' Hf' H' R s q => k.bk _ _ Hf' H' (R0.unreb R) s q, fun ρ' σ' Hf' H' R s q => k.ct _ _ Hf' H' (R0.unreb R) s q⟩
end
section
variable {X : Cx} {EX : EXT} {Γ : Gm} {H0 : Ent} {E : DX → DEnv → Prop} {xa : Nat → Addr} {C : Cn} {sc : Scope}
theorem kst_suite (c : Kst X EX H0 xa Γ C sc E) {a : Addr} {oe : Obj} {cls : Value} {d : Option Addr} {pn : List (Addr × Obj)} (hz : Zc cls d oe) (hf : ∃ vs, oe.data = .fields vs) :
    Kst (X.suite a ((a, oe) :: pn)) (EXs X.K xa a cls d) H0 xa Γ { C with calm := false } sc (fun _ _ => False) where
  c := { N := c.c.N, nd := c.c.nd, scp := c.c.scp, calm := nofun, room := nofun, un := c.c.un, fns := c.c.fns, opn := c.c.opn, gi := c.c.gi, gs := c.c.gs, ex := c.c.ex, hx := c.c.hx, sub := c.c.sub, cls := c.c.cls, blt := c.c.blt }
  kw := c.kw
  tk := takes_blk (X := X) (EX := EXs X.K xa a cls d)
  sui := fun _ => ⟨X, a, oe, cls, d, pn, rfl, hz, hf, fun v c l H h => h⟩
  own := PassesOwn.never
  fn := c.fn
  kind := c.kind
  cal := nofun
  hs := c.hs
  hfr := c.hfr
theorem kst_try (c : Kst X EX H0 xa Γ C sc E) {H0' : Ent} {E' : DX → DEnv → Prop} {pn : List (Addr × Obj)} {xe : Value → Shared → Prop} (tk : Takes (X.tr pn xe) (lowW X.K EX H0' xa E')) (own : PassesOwn (model X.prog X.w) X.A X.env xe) (hcm : C.calm = true) :
    Kst (X.tr pn xe) EX H0' xa Γ C sc E' where
  c := { N := c.c.N, nd := c.c.nd, scp := c.c.scp, calm := c.c.calm, room := c.c.room, un := c.c.un, fns := c.c.fns, opn := c.c.opn, gi := c.c.gi, gs := c.c.gs, ex := c.c.ex, hx := c.c.hx, sub := c.c.sub, cls := c.c.cls, blt := c.c.blt }
  kw := c.kw
  tk := tk
  sui := fun z => by rw [hcm] at z; cases z
  own := own
  fn := c.fn
  kind := c.kind
  cal := c.cal
  hs := c.hs
  hfr := c.hfr
theorem Kst.reb (c : Kst X EX H0 xa Γ C sc E) {H0' : Ent} (tk : Takes X (lowW X.K EX H0' xa E)) : Kst X EX H0' xa Γ C sc E := { c with tk := tk }
/-- the clauses of a try keep to what is asked of them -/
def SHd (X : Cx) (EX : EXT) (Γ : Gm) (H0 : Ent) (E : DX → DEnv → Prop) (xa : Nat → Addr) (h : Hds) (hs : List ExceptHandler) : Prop := ∃ l : List Cl, ClsOk X hs l ∧ ∀ (Hf0 : Hp) (Z : EndD) (D : Ends), KZ X.K EX H0 Z D Hf0 →
  ∀ (cls : Value) (d : Option Addr) (σ : L2.St) (H : Hp) (c : Nat) (ls : List (Str × DL.D)) (dd : Addr) (xs : List (Str × V)) (ρ : DEnv) (Hf : Hp), cls = .ref (xa c) → d = some dd → SR X.K EX H0 ρ σ Hf H → Same Hf0 Hf → H0.h dd = none → Hf dd = some (.xd xs) → RepX X.K Hf ls xs →
    wH Γ E h (c, ls) Z ρ → wCl X.K (lowW X.K EX H0 xa E) D l cls d σ H
theorem shd_nil : SHd X EX Γ H0 E xa .nil [] := ⟨[], .nil, fun Hf0 Z D k cls d σ H c ls dd xs ρ Hf e1 e2 R s n hx rx w => ⟨c, ls, dd, xs, ρ, Hf, e1, e2, R, n, hx, rx, w⟩⟩
theorem shd_cons (ek : EXok EX) (c : Kst X EX H0 xa Γ C sc E) {x : Str} {o : Option Nat} {s : Sxs} {r : Hds} {on : Option Str} {st : Stmt} {sts : List Stmt} {p1 p2 : Pos} {hs : List ExceptHandler} (h2 : gloB sc x = true) (h3 : (x == ("__debug__" : Str)) = false) (hx : x ∈ C.hx) (h4 : onB C.N sc on o = true)
    (su : ∀ (a : Addr) (oe : Obj) (cls : Value) (d : Option Addr) (pn : List (Addr × Obj)), Zc cls d oe → (∃ vs, oe.data = .fields vs) → SSs (X.suite a ((a, oe) :: pn)) (EXs X.K xa a cls d) Γ H0 (fun _ _ => False) s (st :: sts)) (hr : SHd X EX Γ H0 E xa r hs) :
    SHd X EX Γ H0 E xa (.cons x o s r) (.ExceptHandler (some (.Name x p1)) on (st :: sts) p2 :: hs) := by
  obtain ⟨l, hl, go⟩ := hr
  obtain ⟨u, hu⟩ := c.c.hx x hx
  have no : nmOk X on o := by
    cases on with
    | none => cases o with
      | none => trivial
      | some i => cases h4
    | some n => cases o with
      | none => cases h4
      | some i =>
        obtain ⟨z1, z2⟩ := of_and (show (decide (C.N[i]? = some n) && decide (sc.names.lookup n = some .local)) = true from h4)
        refine ⟨by rw [c.c.N]; exact of_decide_eq_true z1, ?_⟩
        show X.env.scope.names.lookup n = some .local
        rw [c.c.scp]; exact of_decide_eq_true z2
  refine ⟨(u, o, fun a cls d D σ H => ∀ (oe : Obj) (pn : List (Addr × Obj)), Zc cls d oe → (∃ vs, oe.data = .fields vs) → mSs (X.suite a ((a, oe) :: pn)) (st :: sts) D σ H) :: l,
    .cons ⟨c.c.gl h2, h3, .inl hu⟩ no (fun a oe cls d pn hz hf => ⟨fun pins s σ H D I h => h oe pn hz hf pins s I⟩) hl, fun Hf0 Z D k cls d σ H ci ls dd xs ρ Hf e1 e2 R sm n hxd rx w => ?_⟩
  obtain ⟨b, hb, w⟩ := w
  obtain ⟨vc, u', hm, _, _, _, hex⟩ := c.c.sub ci x b hb
  have eu : u' = u := by
    rcases hm with hm | ⟨hm, _⟩
    · rw [hu] at hm; exact (Option.some.inj hm).symm
    · rw [hu] at hm; cases hm
  subst eu
  refine ⟨b, by rw [e1]; exact hex, fun hbt a na oe pn hz hf => ?_, fun hbf => ?_⟩
  · rw [if_pos hbt] at w
    have R1 : SR X.K (EXs X.K xa a cls d) H0 ρ σ Hf H := R.swap w.1
    have R2 : SR X.K (EXs X.K xa a cls d) H0 (exS o (ci, ls) ρ) (exσ o a σ) Hf H := by
      cases o with
      | none => exact R1
      | some i => exact R1.setN (s := .exc ci ls) rfl nofun (fun c' l' e => by cases e; exact ⟨_, rfl, rfl, e1, dd, xs, e2, hxd, rx⟩) i
    exact su a oe cls d pn hz hf _ _ Hf H _ _ R2 w.2 ((k.mono sm).un o)
  · rw [if_neg (by rw [hbf]; exact Bool.false_ne_true)] at w
    exact go Hf0 Z D k cls d σ H ci ls dd xs ρ Hf e1 e2 R sm n hxd rx w
theorem ss_try (ek : EXok EX) (c : Kst X EX H0 xa Γ C sc E) {b : Sxs} {h : Hds} {body : List Stmt} {h0 : ExceptHandler} {hs : List ExceptHandler} {pos : Pos}
    (hb : ∀ (H0' : Ent) (pn : List (Addr × Obj)) (xe : Value → Shared → Prop) (E' : DX → DEnv → Prop), Takes (X.tr pn xe) (lowW X.K EX H0' xa E') → PassesOwn (model X.prog X.w) X.A X.env xe → SSs (X.tr pn xe) EX Γ H0' E' b body) (hh : ∀ H0' : Ent, Takes X (lowW X.K EX H0' xa E) → SHd X EX Γ H0' E xa h (h0 :: hs)) :
    SS X EX Γ H0 E (.tryA b h) (.Try body (h0 :: hs) [] [] pos) := fun ρ σ Hf H Z D R w k => by
  have tk' : Takes X (lowW X.K EX ⟨Hf, H0.h⟩ xa E) := c.tk.imp fun cls d σ' H' ⟨ci, l, dd, xs, ρ', Hf', e1, e2, R', n, hx, rx, q⟩ => ⟨ci, l, dd, xs, ρ', Hf', e1, e2, R.unreb R', n, hx, rx, q⟩
  obtain ⟨l, hl, go⟩ := hh ⟨Hf, H0.h⟩ tk'
  refine mS.of (ps_try_cl (Wout := lowW X.K EX ⟨Hf, H0.h⟩ xa E) (tb := fun W D σ H => ∀ (pn : List (Addr × Obj)) (xe : Value → Shared → Prop), Takes (X.tr pn xe) W → PassesOwn (model X.prog X.w) X.A X.env xe → mSs (X.tr pn xe) body D σ H) c.hs c.hfr (by rw [c.c.N]; exact c.c.nd) tk'
    (fun W pn xe tk own => ⟨fun pins s σ H D I h => h pn xe tk own pins s I⟩) hl) fun pn xe tk own => ?_
  refine hb ⟨Hf, H0.h⟩ pn xe (fun dx ρ1 => wH Γ E h dx Z ρ1) (tk.imp fun cls d σ' H' ⟨ci, ls, dd, xs, ρ', Hf', e1, e2, R', n, hx, rx, q⟩ => ?_) own ρ σ Hf H Z D R.reb w (k.reb R)
  exact go Hf Z D (k.reb R) cls d σ' H' ci ls dd xs ρ' Hf' e1 e2 R' R'.base n hx rx q
theorem RepX_zip {K : PySem.W.Frag} {H : Hp} : ∀ {fs : List Str} {ds : List D} {vs : List V}, Reps K H ds vs → RepX K H (fs.zip ds) (fs.zip vs)
  | [], _, _, _ => by rw [List.zip_nil_left, List.zip_nil_left]; exact .nil
  | _ :: _, _, _, .nil => .nil
  | _ :: _, _, _, .cons r t => .cons r (RepX_zip t)
theorem RepX.append {K : PySem.W.Frag} {H : Hp} : ∀ {l m : List (Str × D)} {xs ys : List (Str × V)}, RepX K H l xs → RepX K H m ys → RepX K H (l ++ m) (xs ++ ys)
  | _, _, _, _, .nil, s => s
  | _, _, _, _, .cons r t, s => .cons r (RepX.append t s)
theorem RepX.rev {K : PySem.W.Frag} {H : Hp} : ∀ {l : List (Str × D)} {xs : List (Str × V)}, RepX K H l xs → RepX K H l.reverse xs.reverse
  | _, _, .nil => .nil
  | _, _, .cons r t => by rw [List.reverse_cons, List.reverse_cons]; exact (RepX.rev t).append (.cons r .nil)
theorem ss_rse (ek : EXok EX) (hcm : C.calm = true) (c : Kst X EX H0 xa Γ C sc E) {cc : Nat} {l : Exs} {x : Str} {p pos p2 : Pos} {e : Expr} {es : List Expr} (hx : (cc, x) ∈ C.ex) (hg : gloB sc x = true) (hd : (x == ("__debug__" : Str)) = false) (h2 : 2 ≤ C.k)
    (hck : ckA C sc l (e :: es) = true) (n : nbA l = true) (h : SA X EX Γ H0 E l (e :: es)) : SS X EX Γ H0 E (.rse cc l) (.Raise (some (.Call (.Name x p) (e :: es) [] pos)) none p2) := fun ρ σ Hf H Z D R w k => by
  obtain ⟨fs, fI, fd, ps, hcl, hfl, hm, iC, tI, hb, F1⟩ := c.c.ex _ hx
  obtain ⟨z1, z2⟩ := args_plain (env := X.env) (pos := pos) hck
  have K1 := c.c.cls cc fs hcl
  refine mS.of (ps_raise (c.cal hcm) c.tk (pmk_oex K1.oex iC tI F1 ((c.c.room hcm).mono h2) hb .nil (passes_call c.tk fun _ _ _ _ z => z.elim) (c.c.gl hg) hm (PA.m (e :: es)) hd z1 z2)) ?_
  refine h ρ σ Hf H _ _ R w fun ds ρ1 vs Hf1 H1 R1 s1 t1 _ rn w1 => ?_
  obtain ⟨fs', hcl', hlen, q⟩ := w1
  rw [hcl] at hcl'
  cases hcl'
  have rr := rn n
  refine ⟨by rw [← rr.length, hlen]; omega, fun a ha => ?_⟩
  rw [List.append_nil]
  refine ⟨a, xa cc, vs, rfl, by rw [← rr.length]; exact hlen, upd_same, K1.oex, K1.nf, fun d H2 hdn hda e1 e2 e3 => ⟨rfl, d, _, e1, e2, ?_, ?_⟩⟩
  · rw [upd_ne hda] at hdn; exact hdn
  · rw [upd_ne hda] at hdn
    have sm : Same H1 (upd (del H2 a) d (.xd (fs.zip vs).reverse)) := fun b u z => by
      have hb1 : b ≠ d := fun y => by rw [y, hdn] at z; cases z
      have hb2 : b ≠ a := fun y => by rw [y, ha] at z; cases z
      rw [upd_ne hb1, del_ne hb2, e3 b hb2 hb1, upd_ne hb2]; exact z
    refine ⟨cc, (fs.zip ds).reverse, d, (fs.zip vs).reverse, ρ1, upd Hf1 d (.xd (fs.zip vs).reverse), rfl, rfl, R1.grow ek (same_new (R1.fresh hdn) _) sm (fun b u z => ?_) (fun b y1 y2 => ?_), R1.ent.free hdn, upd_same, ?_, q⟩
    · by_cases y : b = d
      · rw [y, upd_same] at z ⊢; exact z
      · rw [upd_ne y] at z; exact sm _ _ (R1.sub _ _ z)
    · rw [upd_ne (fun y => y1 (by rw [y]; exact hdn))]; exact y2
    · exact ((RepX_zip rr).rev).same (same_new (R1.fresh hdn) _)
end
/-! ### __init__ of an exception class -/
/-- its body against the fields, the second field stored behind the first -/
def ckIni (N : List Str) (sc : Scope) (fs : List Str) (l : List Stmt) : Bool := match fs, l with
  | [f], [.Assign [.Attribute (.Name s _) g _] (.Name x _) _] => decide (g = f) && nmB N sc 0 s && nmB N sc 1 x
  | [f1, f2], [.Assign [.Attribute (.Name s _) g _] (.Name x _) _, .Assign [.Attribute (.Name s2 _) g2 _] (.Name x2 _) _] => decide (g = f1) && nmB N sc 0 s && nmB N sc 1 x && decide (g2 = f2) && nmB N sc 0 s2 && nmB N sc 2 x2
  | _, _ => false
theorem pvN {X : Cx} {N : List Str} {sc : Scope} (hN : X.N = N) (hs : X.env.scope = sc) {i : Nat} {x : Str} {pos : Pos} (h : nmB N sc i x = true) : PE X (.Name x pos) (tVar i) := by
  unfold nmB at h
  simp only [Bool.and_eq_true, decide_eq_true_eq, Bool.not_eq_true'] at h
  exact pe_var (by rw [hN]; exact h.1.1.1) (by rw [hs]; exact vis_of h.1.1.2) h.1.2 h.2
theorem ini_ok {P : Program} {w : World} {K : PySem.W.Frag} {mg : Str → Option Value} {base : Heap} {N ps fs : List Str} {x qual : Str} {st : Stmt} {f : Addr} {fd : FuncData} (F : Fun K x qual st f fd) (S : FnScope N ps (defScope st)) (hps : ps.length = fs.length + 1)
    (hck : ckIni N (defScope st) fs (defBody st) = true) : FnOk P w K mg base (L2.CX P w) 1 f fd ps (tIni K fs) := by
  refine F.okX S (fun vs H Q E ⟨a, C, us, e, hl, _⟩ => by rw [e, List.length_cons, hl, hps]) fun cdv A outer s H vs Q E hr hsp => ?_
  obtain ⟨a, C, us, rfl, hl, ha, T, hnf, hq⟩ := hsp
  refine ⟨_, PSs.m _, ?_⟩
  unfold ckIni at hck
  split at hck <;> first | (cases hck; done) | skip
  · rename_i g s0 p1 g' p2 x1 p3 p4 heq
    obtain ⟨hck, h3⟩ := of_and hck
    obtain ⟨h1, h2⟩ := of_and hck
    cases of_decide_eq_true h1
    match us, hl with
    | [u1], _ =>
      rw [heq]
      refine mSs.of (pss_one (ps_ost (pvN rfl rfl h2) (pvN rfl rfl h3))) ⟨u1, rfl, _, rfl, a, C, rfl, T, hnf _ List.mem_cons_self, .inl ⟨ha, fun dx hdx hne => ?_⟩⟩
      exact hq dx _ hdx hne upd_same (by rw [upd_ne hne, upd_same]; rfl) fun b b1 b2 => by rw [upd_ne b1, upd_ne b2]
  · rename_i g1 g2 s0 p1 g1' p2 x1 p3 p4 s1 q1 g2' q2 x2 q3 q4 heq
    obtain ⟨hck, h6⟩ := of_and hck
    obtain ⟨hck, h5⟩ := of_and hck
    obtain ⟨hck, h4⟩ := of_and hck
    obtain ⟨hck, h3⟩ := of_and hck
    obtain ⟨h1, h2⟩ := of_and hck
    cases of_decide_eq_true h1
    cases of_decide_eq_true h4
    match us, hl with
    | [u1, u2], _ =>
      rw [heq]
      refine mSs.of (pss_cons (ps_ost (pvN rfl rfl h2) (pvN rfl rfl h3)) (pss_one (ps_ost (pvN rfl rfl h5) (pvN rfl rfl h6)))) ⟨u1, rfl, _, rfl, a, C, rfl, T, hnf _ List.mem_cons_self, .inl ⟨ha, fun dx hdx hne => ?_⟩⟩
      refine ⟨u2, rfl, _, rfl, a, C, rfl, T, hnf _ (List.mem_cons_of_mem _ List.mem_cons_self), .inr ⟨dx, _, upd_same, by rw [upd_ne hne, upd_same], Nat.le_trans (Nat.le_refl 1) (by decide), ?_⟩⟩
      exact hq dx _ hdx hne (by rw [upd_ne (Ne.symm hne), upd_same]) upd_same fun b b1 b2 => by rw [upd_ne b2, upd_ne b1, upd_ne b2]
end DL
/-! DX3: more statements -/
namespace DL
open PySem PySem.Spec PyProof.Rows L2
section
variable {X : Cx} {EX : EXT} {Γ : Gm} {H0 : Ent} {E : DX → DEnv → Prop} {xa : Nat → Addr} {C : Cn} {sc : Scope}
theorem few2 {u v : Expr} {env : Env} {pos : Pos} (h : nst u = true) (h2 : nst v = true) : ((backTo pos (starEach [u, v] env)).all (fun x => !x.1) && (backToKw pos (keywordEach [] env)).all (fun x => x.1.isSome)
      && decide (([u, v] : List Expr).length + ([] : List Keyword).length + (if ([] : List Keyword).isEmpty then 0 else 1) < 30)) = true := by
  rw [star_cons h, star_cons h2]; rfl
theorem ss_ins (ek : EXok EX) (c : Kst X EX H0 xa Γ C sc E) {i : Nat} {kx e : Ex} {x : Str} {ky v : Expr} {px ap p pos : Pos} (h1 : nmB C.N sc i x = true) (hn1 : nst ky = true) (hn : nst v = true) (n : nb e = true) (hl : (ap.endLine == p.line) = true) (hk : SE X EX Γ H0 E kx ky) (he : SE X EX Γ H0 E e v) :
    SS X EX Γ H0 E (.ins i kx e) (.Expr (.Call (.Attribute (.Name x px) (Str.ofString "insert") ap) [ky, v] [] p) pos) := fun ρ σ Hf H Z Y R w k => by
  refine mS.of (ps_expr (pe_bm PySem.F.plainAttrs_list PySem.F.slot_list_insert PySem.F.type_list_insert mt_insert (c.c.pv h1) (PA.m [ky, v]) rfl (few2 hn1 hn) hl (star_cons hn1) (by rw [star_cons hn]; rfl)) rfl) ?_
  have w' : (match ρ[i]? with
    | some (.own p l) => wE Γ E kx ρ fun y ρ1 => wE Γ E e ρ1 fun d ρ2 => ρ2[i]? = some (.own p l) ∧ l.length < sizeLine ∧ match y with
      | .int n => 0 ≤ n ∧ n < 2 ^ 62 ∧ Z.nx (ρ2.set i (.own p (l.take n.toNat ++ [d] ++ l.drop n.toNat)))
      | _ => False
    | _ => False) := w
  split at w' <;> first | exact w'.elim | skip
  rename_i pa l hx
  obtain ⟨a, xs, q1, q2, q3, q4, q5, q6⟩ := R.own i pa l hx
  refine ⟨.ref a, q1, .inl ⟨rfl, xs, .of q3⟩, ?_⟩
  refine mA.of (pa_cons (PE.m ky) (pa_cons (PE.m v) pa_nil (star_cons hn)) (star_cons hn1)) ?_
  refine hk ρ σ Hf H _ _ R w' fun d0 ρ0 v0 Hf0 H0' R0 s0 t0 r0 w0 => ?_
  refine he ρ0 σ Hf0 H0' _ _ R0 w0 fun d1 ρ1 v1 Hf1 H1 R1 s1 t1 r1 w1 => ?_
  obtain ⟨z1, z2, z3⟩ := w1
  obtain ⟨Hf2, R2, s2, r2⟩ := r1.freeze (nb_md n) R1 ek
  obtain ⟨b, ys, p1, p2, p3, p4, p5, p6⟩ := R2.own i pa l z1
  rw [q1] at p1
  cases p1
  cases d0 with
  | int m =>
    obtain ⟨m0, m1, z3⟩ := z3
    refine ⟨a, ys, m, v1, rfl, by rw [r0.toB.int_inv], p3, by rw [← p4.length]; exact z2, m0, by omega, ?_⟩
    exact k.nx _ _ _ _ (R2.write z1 rfl rfl q1 p2 p5 (fun p' l' e => by cases e; exact ⟨_, rfl, ((p4.take _).append (.one r2)).append (p4.drop _), p6⟩) (fun p' l' e => by cases e)) (s0.trans (s1.trans s2)) z3
  | _ => exact (show False from z3).elim
theorem sw_par {i j : Nat} {x y : Str} {a b : Expr} {px py pt : Pos} {kt k2 pt2} {env : Env} (hk : env.scope.kind = .function) (hx : env.scope.names.lookup x = some .local) (hy : env.scope.names.lookup y = some .local) (hl : (px.line == py.line) = true) (hn : x ≠ y)
    (h1 : [a, b].all (foldedForSure 8) = false) (h2 : [a, b].all (constantsAlone 8) = false) (h3 : nst a = true) (h4 : nst b = true) : swappedStores [.Tuple [.Name x px, .Name y py] kt pt] (.Tuple [a, b] k2 pt2) env = pure (some [x, y]) := by
  have hb : env.blockKind = .function := by unfold Env.blockKind; rw [hk]; rfl
  have ex : (env.kindOf x == some .local) = true := by show (env.scope.names.lookup x == _) = true; rw [hx]; rfl
  have ey : (env.kindOf y == some .local) = true := by show (env.scope.names.lookup y == _) = true; rw [hy]; rfl
  have hl' : (py.line == px.line) = true := by rw [beq_iff_eq] at hl ⊢; exact hl.symm
  have hs : ([a, b].any fun | .Starred .. => true | _ => false) = false := by
    cases a <;> first | (cases h3; done) | (cases b <;> first | (cases h4; done) | rfl)
  have hne : (y == x) = false := by simpa using fun e => hn e.symm
  unfold swappedStores
  simp only [hb, hs, h1, h2, List.filterMap_cons, List.filterMap_nil, ex, ey, Bool.true_and, Expr.pos, List.head?_cons, Option.map_some, Option.getD_some, hl', beq_self_eq_true, ↓reduceIte, List.length_cons, List.length_nil]
  simp [List.eraseDups_cons, hne, hn, Ne.symm hn]
  rintro (h | h)
  · cases a <;> first | (cases h3; done) | (cases h; done)
  · cases b <;> first | (cases h4; done) | (cases h; done)
theorem ss_par2 (ek : EXok EX) (hcm : C.calm = true) (c : Kst X EX H0 xa Γ C sc E) {i j : Nat} {a b : Ex} {x y : Str} {u v : Expr} {px py pt pos : Pos} {kt k2 pt2} (h1 : C.N[i]? = some x) (h2 : C.N[j]? = some y) (hij : i ≠ j) (hx : sc.names.lookup x = some .local) (hy : sc.names.lookup y = some .local)
    (hl : (px.line == py.line) = true) (hn : x ≠ y) (hf : [u, v].all (foldedForSure 8) = false) (hc : [u, v].all (constantsAlone 8) = false) (hu : nst u = true) (hv : nst v = true) (na : nb a = true) (nb' : nb b = true) (ha : SE X EX Γ H0 E a u) (hb : SE X EX Γ H0 E b v) :
    SS X EX Γ H0 E (.par2 i j a b) (.Assign [.Tuple [.Name x px, .Name y py] kt pt] (.Tuple [u, v] k2 pt2) pos) := fun ρ σ Hf H Z Y R w k => by
  have e : X.env.scope = sc := c.c.scp
  refine mS.of (ps_par (c.cal hcm) (by rw [c.c.N]; exact c.c.nd) (by rw [c.c.N]; exact h1) (by rw [c.c.N]; exact h2) hij (by rw [e]; exact hx) (by rw [e]; exact hy) (pa_cons (PE.m u) (pa_cons (PE.m v) pa_nil (star_cons hv)) (star_cons hu))
    (sw_par (i := i) (j := j) c.kind (by rw [e]; exact hx) (by rw [e]; exact hy) hl hn hf hc hu hv)) ?_
  refine ha ρ σ Hf H _ _ R w fun d0 ρ0 v0 Hf0 H0' R0 s0 t0 r0 w0 => ?_
  obtain ⟨Hfa, Ra, sa, ra⟩ := r0.freeze (nb_md na) R0 ek
  refine hb ρ0 σ Hfa H0' _ _ Ra w0 fun d1 ρ1 v1 Hf1 H1 R1 s1 t1 r1 w1 => ?_
  obtain ⟨Hfb, Rb, sb, rb⟩ := r1.freeze (nb_md nb') R1 ek
  exact ⟨v0, v1, rfl, k.nx _ _ _ _ ((Rb.setSh (ra.same (s1.trans sb)) i).setSh rb j) (s0.trans (sa.trans (s1.trans sb))) w1⟩
end
end DL
/-! DS: bodies, defs -/
namespace DL
open PySem PySem.Spec PyProof.Rows L2
section
variable {Γ : Gm} {xa : Nat → Addr} {sc : Scope}
mutual
theorem sS : ∀ (x : Sx) (X : Cx) (EX : EXT) (H0 : Ent) (E : DX → DEnv → Prop) (C : Cn) (st : Stmt) (ek : EXok EX) (c : Kst X EX H0 xa Γ C sc E), ckS C sc x st = true → SS X EX Γ H0 E x st
  | .asg g e, X, EX, H0, E, C, st, ek, c, h => by
    unfold ckS at h; split at h <;> first | (cases h; done) | skip
    obtain ⟨h, h6⟩ := of_and h
    obtain ⟨h, h5⟩ := of_and h
    obtain ⟨h, h4⟩ := of_and h
    obtain ⟨h, h3⟩ := of_and h
    obtain ⟨h1, h2⟩ := of_and h
    exact ss_asg ek h6 c h1 h3 h4 h5 (sE ek e X H0 E sc _ c.toKx h2)
  | .own i e, X, EX, H0, E, C, st, ek, c, h => by
    unfold ckS at h; split at h <;> first | (cases h; done) | skip
    obtain ⟨h, h5⟩ := of_and h
    obtain ⟨h, h4⟩ := of_and h
    obtain ⟨h, h3⟩ := of_and h
    obtain ⟨h1, h2⟩ := of_and h
    exact ss_own c h1 (of_decide_eq_true h3) h4 h5 (sE ek e X H0 E sc _ c.toKx h2)
  | .lcs _ i g k l t e, X, EX, H0, E, C, st, ek, c, h => by
    unfold ckS at h; split at h <;> first | (cases h; done) | skip
    obtain ⟨h, h4⟩ := of_and h
    obtain ⟨h, h3⟩ := of_and h
    obtain ⟨h1, h2⟩ := of_and h
    exact ss_lcs ek h4 c h1 h3 h2
  | .aug i o e, X, EX, H0, E, C, st, ek, c, h => by
    unfold ckS at h; split at h <;> first | (cases h; done) | skip
    obtain ⟨h, h4⟩ := of_and h
    obtain ⟨h, h3⟩ := of_and h
    obtain ⟨h1, h2⟩ := of_and h
    exact ss_aug c h1 h2 h4 (sE ek e X H0 E sc _ c.toKx h3)
  | .ret e, X, EX, H0, E, C, st, ek, c, h => by
    unfold ckS at h; split at h <;> first | (cases h; done) | skip
    obtain ⟨h1, h2⟩ := of_and h
    exact ss_ret ek h2 (sE ek e X H0 E sc _ c.toKx h1)
  | .retN, X, EX, H0, E, C, st, ek, c, h => by
    unfold ckS at h; split at h <;> first | (cases h; done) | skip
    exact ss_retN
  | .expr e, X, EX, H0, E, C, st, ek, c, h => by
    unfold ckS at h; split at h <;> first | (cases h; done) | skip
    obtain ⟨h1, h2⟩ := of_and h
    exact ss_expr h2 (sE ek e X H0 E sc _ c.toKx h1)
  | .exO f i l, X, EX, H0, E, C, st, ek, c, h => by
    unfold ckS at h; split at h <;> first | (cases h; done) | skip
    obtain ⟨h, h9⟩ := of_and h
    obtain ⟨h, h8⟩ := of_and h
    obtain ⟨h, h7⟩ := of_and h
    obtain ⟨h, h6⟩ := of_and h
    obtain ⟨h, h5⟩ := of_and h
    obtain ⟨h, h4⟩ := of_and h
    obtain ⟨h, h3⟩ := of_and h
    obtain ⟨h1, h2⟩ := of_and h
    exact ss_exO ek h9 c (of_decide_eq_true h1) h2 (of_not h3) (of_decide_eq_true h4) (List.contains_iff_mem.mp h5) h6 h7 h8 (sA ek l X H0 E sc _ c.toKx h7)
  | .app i e, X, EX, H0, E, C, st, ek, c, h => by
    unfold ckS at h; split at h <;> first | (cases h; done) | skip
    obtain ⟨h, h6⟩ := of_and h
    obtain ⟨h, h5⟩ := of_and h
    obtain ⟨h, h4⟩ := of_and h
    obtain ⟨h, h3⟩ := of_and h
    obtain ⟨h1, h2⟩ := of_and h
    cases of_decide_eq_true h1
    exact ss_app ek c h2 h4 h5 h6 (sE ek e X H0 E sc _ c.toKx h3)
  | .ext i e, X, EX, H0, E, C, st, ek, c, h => by
    unfold ckS at h; split at h <;> first | (cases h; done) | skip
    obtain ⟨h, h6⟩ := of_and h
    obtain ⟨h, h5⟩ := of_and h
    obtain ⟨h, h4⟩ := of_and h
    obtain ⟨h, h3⟩ := of_and h
    obtain ⟨h1, h2⟩ := of_and h
    cases of_decide_eq_true h1
    exact ss_ext c h2 h4 (of_decide_eq_true h5) h6 (sE ek e X H0 E sc _ c.toKx h3)
  | .put i k e, X, EX, H0, E, C, st, ek, c, h => by
    unfold ckS at h; split at h <;> first | (cases h; done) | skip
    obtain ⟨h, h4⟩ := of_and h
    obtain ⟨h, h3⟩ := of_and h
    obtain ⟨h1, h2⟩ := of_and h
    exact ss_put ek c h1 h4 (sE ek k X H0 E sc _ c.toKx h2) (sE ek e X H0 E sc _ c.toKx h3)
  | .seti i k e, X, EX, H0, E, C, st, ek, c, h => by
    unfold ckS at h; split at h <;> first | (cases h; done) | skip
    obtain ⟨h, h5⟩ := of_and h
    obtain ⟨h, h4⟩ := of_and h
    obtain ⟨h, h3⟩ := of_and h
    obtain ⟨h1, h2⟩ := of_and h
    exact ss_seti ek c h1 h4 h5 (sE ek k X H0 E sc _ c.toKx h2) (sE ek e X H0 E sc _ c.toKx h3)
  | .ife t a b, X, EX, H0, E, C, st, ek, c, h => by
    unfold ckS at h; split at h <;> first | (cases h; done) | skip
    obtain ⟨h, h3⟩ := of_and h
    obtain ⟨h1, h2⟩ := of_and h
    exact ss_ife (sT ek t X H0 E sc _ c.toKx h1) (sSs a X EX H0 E C _ ek c h2) (sSs b X EX H0 E C _ ek c h3)
  | .whl t b, X, EX, H0, E, C, st, ek, c, h => by
    unfold ckS at h; split at h <;> first | (cases h; done) | skip
    obtain ⟨h, h3⟩ := of_and h
    obtain ⟨h1, h2⟩ := of_and h
    exact ss_whl c (sT ek t X H0 E sc _ c.toKx h1) (sSs b X EX H0 E C _ ek c h2)
  | .for_ g k l b, X, EX, H0, E, C, st, ek, c, h => by
    unfold ckS at h; split at h <;> first | (cases h; done) | skip
    obtain ⟨h, h6⟩ := of_and h
    obtain ⟨h, h5⟩ := of_and h
    obtain ⟨h, h4⟩ := of_and h
    obtain ⟨h, h3⟩ := of_and h
    obtain ⟨h1, h2⟩ := of_and h
    exact ss_for h6 c h2 h3 h4 (sI ek l k X H0 E sc _ _ c.toKx h1) (sSs b X EX H0 E C _ ek c h5)
  | .brk, X, EX, H0, E, C, st, ek, c, h => by
    unfold ckS at h; split at h <;> first | (cases h; done) | skip
    exact ss_brk
  | .cont, X, EX, H0, E, C, st, ek, c, h => by
    unfold ckS at h; split at h <;> first | (cases h; done) | skip
    exact ss_cont
  | .pass, X, EX, H0, E, C, st, ek, c, h => by
    unfold ckS at h; split at h <;> first | (cases h; done) | skip
    exact ss_pass
  | .rse cc l, X, EX, H0, E, C, st, ek, c, h => by
    unfold ckS at h; split at h <;> first | (cases h; done) | skip
    obtain ⟨h, h7⟩ := of_and h
    obtain ⟨h, h6⟩ := of_and h
    obtain ⟨h, h5⟩ := of_and h
    obtain ⟨h, h4⟩ := of_and h
    obtain ⟨h, h3⟩ := of_and h
    obtain ⟨h1, h2⟩ := of_and h
    exact ss_rse ek h7 c (of_decide_eq_true h3) h4 (of_not h5) (of_decide_eq_true h6) h1 h2 (sA ek l X H0 E sc _ c.toKx h1)
  | .tryA b hd, X, EX, H0, E, C, st, ek, c, h => by
    unfold ckS at h; split at h <;> first | (cases h; done) | skip
    obtain ⟨h, h3⟩ := of_and h
    obtain ⟨h1, h2⟩ := of_and h
    exact ss_try ek c (fun H0' pn xe E' tk own => sSs b _ EX H0' E' C _ ek (kst_try c tk own h3) h1) (fun H0' tk => sHd hd X EX H0' E C _ ek (c.reb tk) h2)
  | .ins i k e, X, EX, H0, E, C, st, ek, c, h => by
    unfold ckS at h; split at h <;> first | (cases h; done) | skip
    obtain ⟨h, h8⟩ := of_and h
    obtain ⟨h, h7⟩ := of_and h
    obtain ⟨h, h6⟩ := of_and h
    obtain ⟨h, h5⟩ := of_and h
    obtain ⟨h, h4⟩ := of_and h
    obtain ⟨h, h3⟩ := of_and h
    obtain ⟨h1, h2⟩ := of_and h
    cases of_decide_eq_true h1
    exact ss_ins ek c h2 h4 h6 h7 h8 (sE ek k X H0 E sc _ c.toKx h3) (sE ek e X H0 E sc _ c.toKx h5)
  | .par2 i j a b, X, EX, H0, E, C, st, ek, c, h => by
    unfold ckS at h; split at h <;> first | (cases h; done) | skip
    obtain ⟨h, k16⟩ := of_and h
    obtain ⟨h, k15⟩ := of_and h
    obtain ⟨h, k14⟩ := of_and h
    obtain ⟨h, k13⟩ := of_and h
    obtain ⟨h, k12⟩ := of_and h
    obtain ⟨h, k11⟩ := of_and h
    obtain ⟨h, k10⟩ := of_and h
    obtain ⟨h, k9⟩ := of_and h
    obtain ⟨h, k8⟩ := of_and h
    obtain ⟨h, k7⟩ := of_and h
    obtain ⟨h, k6⟩ := of_and h
    obtain ⟨h, k5⟩ := of_and h
    obtain ⟨h, k4⟩ := of_and h
    obtain ⟨h, k3⟩ := of_and h
    obtain ⟨k1, k2⟩ := of_and h
    exact ss_par2 ek k16 c (of_decide_eq_true k1) (of_decide_eq_true k2) (of_decide_eq_true k3) (of_decide_eq_true k4) (of_decide_eq_true k5) k6 (of_decide_eq_true k7) (of_not k8) (of_not k9) k10 k11 k14 k15 (sE ek a X H0 E sc _ c.toKx k12) (sE ek b X H0 E sc _ c.toKx k13)
theorem sSs : ∀ (x : Sxs) (X : Cx) (EX : EXT) (H0 : Ent) (E : DX → DEnv → Prop) (C : Cn) (st : List Stmt) (ek : EXok EX) (c : Kst X EX H0 xa Γ C sc E), ckSs C sc x st = true → SSs X EX Γ H0 E x st
  | .nil, X, EX, H0, E, C, st, ek, c, h => by
    unfold ckSs at h; split at h <;> first | (cases h; done) | skip
    exact sss_nil
  | .cons s r, X, EX, H0, E, C, st, ek, c, h => by
    unfold ckSs at h; split at h <;> first | (cases h; done) | skip
    obtain ⟨h1, h2⟩ := of_and h
    exact sss_cons (sS s X EX H0 E C _ ek c h1) (sSs r X EX H0 E C _ ek c h2)
theorem sHd : ∀ (x : Hds) (X : Cx) (EX : EXT) (H0 : Ent) (E : DX → DEnv → Prop) (C : Cn) (hs : List ExceptHandler) (ek : EXok EX) (c : Kst X EX H0 xa Γ C sc E), ckH { C with calm := false } sc x hs = true → SHd X EX Γ H0 E xa x hs
  | .nil, X, EX, H0, E, C, hs, ek, c, h => by
    unfold ckH at h; split at h <;> first | (cases h; done) | skip
    exact shd_nil
  | .cons x o s r, X, EX, H0, E, C, hs, ek, c, h => by
    unfold ckH at h; split at h <;> first | (cases h; done) | skip
    obtain ⟨h, h6⟩ := of_and h
    obtain ⟨h, h5⟩ := of_and h
    obtain ⟨h, h4⟩ := of_and h
    obtain ⟨h, h7⟩ := of_and h
    obtain ⟨h, h3⟩ := of_and h
    obtain ⟨h1, h2⟩ := of_and h
    cases of_decide_eq_true h1
    exact shd_cons ek c h2 (of_not h3) (List.contains_iff_mem.mp h7) h4 (fun a oe cls d pn hz hf => sSs s _ _ H0 _ { C with calm := false } _ exXok (kst_suite c hz hf) h5) (sHd r X EX H0 E C _ ek c h6)
end
end
/-! ### defs -/
/-- a def's slots at its entry -/
def ent0 (N : List Str) (ds : List D) : DEnv := ds.map Sl.sh ++ List.replicate (N.length - ds.length) .un
section
variable {P : Program} {w : World} {K : PySem.W.Frag} {mg : Str → Option Value} {base : Heap} {EX : EXT} {Γ : Gm} {xa : Nat → Addr}
theorem entry_sr {N : List Str} {ds : List D} {vs : List V} {Hf H : Hp} (s : Same Hf H) (r : Reps K Hf ds vs) : SR K EX ⟨Hf, H⟩ (ent0 N ds) (L2.start N vs) Hf H := by
  have hl := r.length
  have get : ∀ {i : Nat} {x : Sl}, (ent0 N ds)[i]? = some x → (∃ d, ds[i]? = some d ∧ x = .sh d) ∨ x = .un := fun {i x} e => by
    unfold ent0 at e
    by_cases hi : i < ds.length
    · rw [List.getElem?_append_left (by simpa using hi), List.getElem?_map] at e
      cases q : ds[i]? with
      | none => rw [q] at e; cases e
      | some d => rw [q] at e; cases e; exact .inl ⟨d, rfl, rfl⟩
    · rw [List.getElem?_append_right (by simpa using hi), List.getElem?_replicate] at e
      split at e
      · cases e; exact .inr rfl
      · cases e
  have no : ∀ {i : Nat} {x : Sl}, (ent0 N ds)[i]? = some x → x.isOwn = true → False := fun e o => by
    rcases get e with ⟨d, _, rfl⟩ | rfl <;> cases o
  refine ⟨Same.refl _, Same.refl _, fun a _ h => h, s, ?_, fun i d e => ?_, fun i p l e => (no e rfl).elim, fun i p l e => (no e rfl).elim, fun i c l e => ?_, fun i j s t a _ e1 _ o1 _ _ _ => (no e1 o1).elim⟩
  · unfold ent0 L2.start
    rw [List.length_append, List.length_append, List.length_map, List.length_map, List.length_replicate, List.length_replicate, hl]
  · rcases get e with ⟨d', h, z⟩ | z
    · cases z
      obtain ⟨v, hv, rv⟩ := r.get h
      refine ⟨v, ?_, rv⟩
      have hi : i < vs.length := (List.getElem?_eq_some_iff.mp hv).1
      unfold L2.start
      rw [List.getElem?_append_left (by simpa using hi), List.getElem?_map, hv]; rfl
    · cases z
  · rcases get e with ⟨d', h, z⟩ | z <;> cases z
/-- a def of the program keeps its promise -/
def FG (P : Program) (w : World) (K : PySem.W.Frag) (mg : Str → Option Value) (base : Heap) (xa : Nat → Addr) (Γ : Gm) (C : Cn) (f : Nat) : Prop :=
  ∃ (fa : Addr) (fd : FuncData) (ps : List Str), mg (C.nm f) = some (.ref fa) ∧ PySem.W.keepIn K (.ref fa) = true ∧ Binds K fd ps [] ∧ FnOk P w K mg base (L2.CX P w) (C.lv f) fa fd ps (low K xa (Γ f))
def FGK (P : Program) (w : World) (K : PySem.W.Frag) (mg : Str → Option Value) (base : Heap) (xa : Nat → Addr) (Γ : Gm) (C : Cn) (f : Nat) (ks : List Str) (pm : List Nat) : Prop :=
  ∃ (fa : Addr) (fd : FuncData) (ps : List Str), mg (C.nm f) = some (.ref fa) ∧ PySem.W.keepIn K (.ref fa) = true ∧ KB K fd ps ks pm ∧ FnOk P w K mg base (L2.CX P w) (C.lv f) fa fd ps (low K xa (Γ f))
def FGO (P : Program) (w : World) (K : PySem.W.Frag) (mg : Str → Option Value) (base : Heap) (Γ : Gm) (C : Cn) (f : Nat) : Prop :=
  ∃ (fa : Addr) (fd : FuncData) (ps : List Str), mg (C.nm f) = some (.ref fa) ∧ PySem.W.keepIn K (.ref fa) = true ∧ Binds K fd ps [] ∧ FnOk P w K mg base (L2.CX P w) (C.lv f) fa fd ps (lowO K (Γ.o f))
/-- the world about the defs -/
structure Wd (P : Program) (w : World) (K : PySem.W.Frag) (mg : Str → Option Value) (base : Heap) (EX : EXT) (xa : Nat → Addr) (Γ : Gm) (C : Cn) : Prop where
  fns : ∀ g ∈ C.dep, FG P w K mg base xa Γ C g
  kws : ∀ p ∈ C.kw, FGK P w K mg base xa Γ C p.1 p.2.1 p.2.2
  blt : ∀ x ∈ bltNames, mg x = none
  opn : ∀ g ∈ C.depO, FGO P w K mg base Γ C g
  gi : ∀ p ∈ C.gi, ∃ t, mg p.1 = some (.int p.2 t)
  gs : ∀ p ∈ C.gs, ∃ t, mg p.1 = some (.str p.2 t)
  ex : ∀ p ∈ C.ex, ExRG P w K mg base xa Γ p.1 p.2
  hx : ∀ x ∈ C.hx, ∃ u, mg x = some u
  sub : ∀ c x b, Γ.sub c x = some b → ExNG K mg xa c x b
  cls : ∀ c fs, Γ.cls c = some fs → ExK K xa c fs
  clm : C.calm = true
theorem kst_of {C : Cn} {qual : Str} {st : Stmt} {f : Addr} {ps : List Str} (W : Wd P w K mg base EX xa Γ C) (S : FnScope C.N ps (defScope st)) {cdv : Value} {A : Around} {outer : List Env} {s : Shared} {H : Hp} {Ex : XK} {H0 : Ent} {ED : DX → DEnv → Prop}
    (hr : Room C.k (A.deeper (envOfC qual (defScope st) s.heap.objs.size f cdv))) (tk : ∀ c d σ H', lowW K EX H0 xa ED c d σ H' → Ex c d H') : Kst (cxOf (L2.CX P w) P w K mg base C.N qual (defScope st) f cdv A outer s H Ex) EX H0 xa Γ C (defScope st) ED where
  c := { N := rfl, nd := S.nd, scp := rfl, calm := fun _ => rfl, room := fun _ => hr, un := hr.units, fns := W.fns, opn := W.opn, gi := W.gi, gs := W.gs, ex := W.ex, hx := W.hx, sub := W.sub, cls := W.cls, blt := W.blt }
  kw := W.kws
  tk := (takes_of rfl rfl rfl rfl).imp fun c d σ H' h => tk c d σ H' h
  own := passes_of rfl
  fn := fun _ => rfl
  kind := S.kind
  cal := fun _ => rfl
  sui := fun z => by rw [W.clm] at z; cases z
  hs := rfl
  hfr := rfl
theorem def_ok {C : Cn} {x qual : Str} {st : Stmt} {f : Addr} {fd : FuncData} {ps : List Str} {sp : FSp} {body : Sxs} (F : Fun K x qual st f fd) (S : FnScope C.N ps (defScope st)) (ek : EXok EX) (W : Wd P w K mg base EX xa Γ C)
    (hck : ckSs C (defScope st) body (defBody st) = true) (hlen : ∀ ds Q E, sp ds Q E → ds.length = ps.length)
    (hw : ∀ ds (QD : D → Prop) (QE : DX → Prop), sp ds QD QE → wSs Γ (fun dx _ => QE dx) body { nx := fun _ => QD .non, rt := fun d _ => QD d } (ent0 C.N ds)) : FnOk P w K mg base (L2.CX P w) (C.k + 1) f fd ps (low K xa sp) := by
  refine F.okX S (fun vs H Q E ⟨ds, QD, QE, Hf, _, r, h, _⟩ => by rw [← r.length]; exact hlen _ _ _ h) fun cdv A outer s H vs Q E hr hsp => ?_
  obtain ⟨ds, QD, QE, Hf, s0, r, h, hQ, hE⟩ := hsp
  have R := entry_sr (EX := EX) (N := C.N) s0 r
  have c : Kst (cxOf (L2.CX P w) P w K mg base C.N qual (defScope st) f cdv A outer s H E) EX ⟨Hf, H⟩ xa Γ C (defScope st) (fun dx _ => QE dx) := kst_of W S hr fun cls d σ H' ⟨ci, l, dd, xs, ρ, Hf', e1, e2, R', hn, hx, rx, q⟩ => by
    subst e1 e2
    exact hE ci l dd xs Hf' H' R'.ent R'.base R'.sub R'.nof hn hx rx q
  refine ⟨_, PSs.m _, ?_⟩
  refine sSs body _ EX _ _ C _ ek c hck (ent0 C.N ds) (L2.start C.N vs) Hf H _ _ R (hw ds QD QE h) ⟨fun ρ' σ' Hf' H' R' s' q => ?_, fun d ρ' v σ' Hf' H' m R' s' mb _ rv q => ?_, fun _ _ _ _ _ _ q => q.elim, fun _ _ _ _ _ _ q => q.elim⟩
  · exact hQ _ _ Hf' H' R'.ent s' R'.sub R'.nof .non q
  · obtain ⟨Hf2, R2, s2, r2⟩ := rv.freeze mb R' ek
    exact hQ d v Hf2 H' R2.ent (s'.trans s2) R2.sub R2.nof r2 q
end
end DL
/-! DT: a thing that is handed about and changed, with its lid on -/
namespace DL
open PySem PySem.Spec PyProof.Rows L2
def Phi (P : Program) (w : World) (a : Addr) (I : HO → Prop) : Heap → Prop := fun h => ∃ o, I o ∧ OpenO o ∧ ObjOk P w (fun _ => none) h a o
section
variable {P : Program} {w : World} {H H' : Hp} {h h' : Heap} {a : Addr} {o : HO} {I : HO → Prop}
theorem openO_stay (q : OpenO o) (x : ObjOk P w H h a o) (e : ∀ u, h.get? a = some u → h'.get? a = some u) : ObjOk P w H' h' a o := by
  cases o <;> first | exact q.elim | skip
  · obtain ⟨z, its, n, r, e0⟩ := x; exact ⟨z, its, n, r, e _ e0⟩
  · obtain ⟨z, y, vs, r, ob, es, ep, e0, c⟩ := x; exact ⟨z, y, vs, r, ob, es, ep, e _ e0, c⟩
theorem openO_there (q : OpenO o) (x : ObjOk P w H h a o) : ∃ u, h.get? a = some u := by
  cases o <;> first | exact q.elim | skip
  · obtain ⟨z, its, n, r, e0⟩ := x; exact ⟨_, e0⟩
  · obtain ⟨z, y, vs, r, ob, es, ep, e0, c⟩ := x; exact ⟨_, e0⟩
theorem phi_make (i : I o) (q : OpenO o) (x : ObjOk P w H h a o) : ObjOk P w H' h a (.ext (Phi P w a I)) :=
  ⟨⟨o, i, q, openO_stay q x fun _ e => e⟩, openO_there q x, fun _ _ ⟨o, i, q, x⟩ k => ⟨o, i, q, openO_stay q x k⟩⟩
theorem openO_mut (q : OpenO o) : Mut (some o) := by
  cases o <;> first | exact q.elim | trivial
theorem opens (x : HOk P w H h) (e : H a = some (.ext (Phi P w a I))) : ∃ o, I o ∧ OpenO o ∧ HOk P w (upd H a o) h := by
  obtain ⟨⟨o, i, q, y⟩, there, _⟩ := x a _ e
  refine ⟨o, i, q, x.write (by rw [e]; trivial) (.inl rfl) (fun _ _ _ z => z) there (openO_stay q y fun _ z => z)⟩
theorem closes (x : HOk P w H h) (e : H a = some o) (i : I o) (q : OpenO o) : HOk P w (upd H a (.ext (Phi P w a I))) h :=
  x.write (by rw [e]; exact openO_mut q) (.inl rfl) (fun _ _ _ z => z) (openO_there q (x a _ e)) (phi_make i q (x a _ e))
end
section
variable {P : Program} {w : World} {K : PySem.W.Frag} {mg : Str → Option Value} {base : Heap} {CX : CXT} {k : Nat} {f : Addr} {fd : FuncData} {ps : List Str} {sp sp' : Sp}
/-- the object at a under its lid: taken off for the call, put on again behind it -/
theorem open_ok (F : FnOk P w K mg base (L2.CX P w) k f fd ps sp) (h : ∀ vs H Q E, sp' vs H Q E → ∃ a I, H a = some (.ext (Phi P w a I)) ∧ ∀ o, I o → OpenO o → sp vs (upd H a o) (fun v H' => ∃ o', I o' ∧ OpenO o' ∧ H' a = some o' ∧ Q v (upd H' a (.ext (Phi P w a I)))) (fun _ _ _ => False))
    (hl : ∀ vs H Q E, sp' vs H Q E → vs.length = ps.length) : FnOk P w K mg base (L2.CX P w) k f fd ps sp' := by
  refine ⟨hl, fun A outer s H args us vs Q E hr e0 hb hv hs => ?_⟩
  obtain ⟨a, I, ha, hsp⟩ := h vs H Q E hs
  obtain ⟨o, i, q, hok⟩ := opens e0.hok ha
  have none_of : ∀ {b : Addr}, H b = none → upd H a o b = none := fun {b} z => by
    rw [upd_ne (fun e => by rw [e, ha] at z; cases z)]; exact z
  have e1 : Env0 P w K mg base A outer s (upd H a o) := ⟨e0.frames, e0.mod, fun b ob z => ⟨(e0.bs b ob z).1, none_of (e0.bs b ob z).2⟩, e0.bsz, e0.funs, fun b z => none_of (e0.frf b z), hok, e0.bare⟩
  refine codeAny_mono (F.run A outer s (upd H a o) args us vs _ _ hr e1 hb hv (hsp o i q)) fun r s' hq => ?_
  cases r with
  | error e =>
    obtain ⟨_, _, _, _, _, _, _, _, _, _, _, _, z⟩ := hq
    exact z.elim
  | ok fl =>
    cases fl with
    | next => exact False.elim hq
    | brk => exact False.elim hq
    | cont => exact False.elim hq
    | ret u =>
      obtain ⟨v, H', os, bare, un, hok', rv, o', i', q', ha', hQ⟩ := hq
      have ne : ∀ {b : Addr} {u : HO}, H b = some u → (∀ φ, u ≠ .ext φ) → upd H a o b = some u := fun {b u} z n => by
        rw [upd_ne (fun e => by rw [e, ha] at z; cases z; exact n _ rfl)]; exact z
      have back : ∀ {b : Addr} {u : HO}, H' b = some u → (¬ OpenO u) → upd H' a (.ext (Phi P w a I)) b = some u := fun {b u} z n => by
        rw [upd_ne (fun e => by rw [e, ha'] at z; cases z; exact n q')]; exact z
      refine ⟨v, _, os, bare, ⟨fun b ob e z m1 m2 => un.keep b ob e (none_of z) m1 m2, fun b ob e z m1 m2 => un.slot b ob e (none_of z) m1 m2, fun b ob e z m2 => ?_, un.there, fun b xs e => ?_, fun b ob u e => ?_, fun b pp e => ?_⟩, closes hok' ha' i' q', rv, hQ⟩
      · rw [upd_ne (fun e => by rw [e, ha] at z; cases z)]
        exact un.free b ob e (none_of z) m2
      · exact back (un.tups b xs (ne e nofun)) (fun z => z)
      · exact back (un.frzs b ob u (ne e nofun)) (fun z => z)
      · obtain ⟨more, z⟩ := un.tbls b pp (ne e nofun)
        exact ⟨more, back z (fun z => z)⟩
end
/-- a def's slots at its entry, the first one open -/
def entO (N : List Str) (a : Addr) (d0 : D) (ds : List D) : DEnv := slO (some a) d0 :: (ds.map Sl.sh ++ List.replicate (N.length - (ds.length + 1)) .un)
section
variable {P : Program} {w : World} {K : PySem.W.Frag} {mg : Str → Option Value} {base : Heap} {EX : EXT} {Γ : Gm} {xa : Nat → Addr}
theorem entO_sr {N : List Str} {a : Addr} {o : HO} {d0 : D} {ds : List D} {vs : List V} {Hf H : Hp} (s : Same Hf H) (n : Hf a = none) (ha : H a = some o) (r0 : RepO K Hf d0 o) (r : Reps K Hf ds vs) : SR K EX ⟨Hf, less H a⟩ (entO N a d0 ds) (L2.start N (V.ref a :: vs)) Hf H := by
  have hl := r.length
  have get : ∀ {i : Nat} {x : Sl}, (entO N a d0 ds)[i]? = some x → (i = 0 ∧ x = slO (some a) d0) ∨ (∃ d j, i = j + 1 ∧ ds[j]? = some d ∧ x = .sh d) ∨ x = .un := fun {i x} e => by
    cases i with
    | zero => cases e; exact .inl ⟨rfl, rfl⟩
    | succ i =>
      have e : (ds.map Sl.sh ++ List.replicate (N.length - (ds.length + 1)) .un)[i]? = some x := e
      by_cases hi : i < ds.length
      · rw [List.getElem?_append_left (by simpa using hi), List.getElem?_map] at e
        cases q : ds[i]? with
        | none => rw [q] at e; cases e
        | some d => rw [q] at e; cases e; exact .inr (.inl ⟨d, i, rfl, q, rfl⟩)
      · rw [List.getElem?_append_right (by simpa using hi), List.getElem?_replicate] at e
        split at e
        · cases e; exact .inr (.inr rfl)
        · cases e
  have z0 : (L2.start N (V.ref a :: vs))[0]? = some (some (V.ref a)) := rfl
  have so : (slO (some a) d0).isOwn = true := slO_own r0
  have own0 : ∀ {i : Nat} {x : Sl}, (entO N a d0 ds)[i]? = some x → x.isOwn = true → i = 0 ∧ x = slO (some a) d0 := fun e o => by
    rcases get e with h | ⟨d, j, _, _, rfl⟩ | rfl
    · exact h
    · cases o
    · cases o
  refine ⟨Same.refl _, less_sub, fun b h1 h2 => h2, s, ?_, fun i d e => ?_, fun i p l e => ?_, fun i p l e => ?_, fun i c l e => ?_, fun i j s t b nn e1 e2 o1 o2 _ _ => ?_⟩
  · unfold entO L2.start
    simp [hl]
  · rcases get e with ⟨rfl, z⟩ | ⟨d', j, rfl, h, z⟩ | z
    · rw [← z] at so; cases so
    · cases z
      obtain ⟨v, hv, rv⟩ := r.get h
      refine ⟨v, ?_, rv⟩
      have hi : j < vs.length := (List.getElem?_eq_some_iff.mp hv).1
      show (List.map some vs ++ _)[j]? = _
      rw [List.getElem?_append_left (by simpa using hi), List.getElem?_map, hv]; rfl
    · cases z
  · obtain ⟨rfl, z⟩ := own0 e rfl
    cases r0 with
    | lst r0 => cases z; exact ⟨a, _, z0, n, ha, r0, less_same, fun b e => by cases e; rfl⟩
    | dct r0 => cases z
  · obtain ⟨rfl, z⟩ := own0 e rfl
    cases r0 with
    | lst r0 => cases z
    | dct r0 => cases z; exact ⟨a, _, z0, n, ha, r0, less_same, fun b e => by cases e; rfl⟩
  · rcases get e with ⟨rfl, z⟩ | ⟨d', j, rfl, h, z⟩ | z
    · rw [← z] at so; cases so
    · cases z
    · cases z
  · exact nn ((own0 e1 o1).1.trans (own0 e2 o2).1.symm)
theorem slO_exit {ρ : DEnv} {σ : L2.St} {H0 : Ent} {Hf H : Hp} {a : Addr} {d' : D} (R : SR K EX H0 ρ σ Hf H) (e : ρ[0]? = some (slO (some a) d')) (o : (slO (some a) d').isOwn = true) : ∃ o', Hf a = none ∧ H a = some o' ∧ RepO K Hf d' o' := by
  cases d' <;> first | (cases o; done) | skip
  · obtain ⟨b, xs, _, h2, h3, r, _, hp⟩ := R.own 0 _ _ e
    cases hp a rfl
    exact ⟨_, h2, h3, .lst r⟩
  · obtain ⟨b, xs, _, h2, h3, r, _, hp⟩ := R.ownK 0 _ _ e
    cases hp a rfl
    exact ⟨_, h2, h3, .dct r⟩
theorem def_okO {C : Cn} {x qual : Str} {st : Stmt} {f : Addr} {fd : FuncData} {ps : List Str} {sp : OSp} {body : Sxs} (F : Fun K x qual st f fd) (S : FnScope C.N ps (defScope st)) (ek : EXok EX) (W : Wd P w K mg base EX xa Γ C)
    (hck : ckSs C (defScope st) body (defBody st) = true) (hlen : ∀ d0 ds Q, sp d0 ds Q → ds.length + 1 = ps.length)
    (hw : ∀ a d0 ds (QD : D → D → Prop), sp d0 ds QD → wSs Γ (fun _ _ => False) body { nx := fun ρ => ∃ d', ρ[0]? = some (slO (some a) d') ∧ (slO (some a) d').isOwn = true ∧ QD .non d', rt := fun d ρ => ∃ d', ρ[0]? = some (slO (some a) d') ∧ (slO (some a) d').isOwn = true ∧ QD d d' } (entO C.N a d0 ds)) :
    FnOk P w K mg base (L2.CX P w) (C.k + 1) f fd ps (lowO K sp) := by
  refine F.okX S (fun vs H Q E ⟨a, o, d0, ds, vs', QD, Hf, e, _, _, _, _, r, h, _⟩ => by rw [e, List.length_cons, ← r.length]; exact hlen _ _ _ h) fun cdv A outer s H vs Q E hr hsp => ?_
  obtain ⟨a, o, d0, ds, vs', QD, Hf, rfl, s0, n, ha, r0, r, h, hQ⟩ := hsp
  have R := entO_sr (EX := EX) (N := C.N) s0 n ha r0 r
  have c : Kst (cxOf (L2.CX P w) P w K mg base C.N qual (defScope st) f cdv A outer s H E) EX ⟨Hf, less H a⟩ xa Γ C (defScope st) (fun _ _ => False) := kst_of W S hr fun cls d σ H' ⟨_, _, _, _, _, _, _, _, _, _, _, _, q⟩ => q.elim
  refine ⟨_, PSs.m _, ?_⟩
  refine sSs body _ EX _ _ C _ ek c hck (entO C.N a d0 ds) (L2.start C.N (V.ref a :: vs')) Hf H _ _ R (hw a d0 ds QD h) ⟨fun ρ' σ' Hf' H' R' s' q => ?_, fun d ρ' v σ' Hf' H' m R' s' mb _ rv q => ?_, fun _ _ _ _ _ _ q => q.elim, fun _ _ _ _ _ _ q => q.elim⟩
  · obtain ⟨d', e, o, q⟩ := q
    obtain ⟨o', h0, h1, h2⟩ := slO_exit R' e o
    exact hQ _ _ d' o' Hf' H' R'.ent s' R'.sub (fun b hb z1 z2 => R'.nof b (by rw [show (Ent.mk Hf (less H a)).h b = less H a b from rfl, less_ne hb]; exact z1) z2) h0 h1 h2 .non q
  · obtain ⟨Hf2, R2, s2, r2⟩ := rv.freeze mb R' ek
    obtain ⟨d', e, o, q⟩ := q
    obtain ⟨o', h0, h1, h2⟩ := slO_exit R2 e o
    exact hQ _ _ d' o' Hf2 H' R2.ent (s'.trans s2) R2.sub (fun b hb z1 z2 => R2.nof b (by rw [show (Ent.mk Hf (less H a)).h b = less H a b from rfl, less_ne hb]; exact z1) z2) h0 h1 h2 r2 q
/-- the promise of a def that gives a new list or dict of its own -/
def lowN (K : PySem.W.Frag) (sp : List D → (D → Prop) → Prop) : Sp := fun vs H Q E => ∃ (ds : List D) (QD : D → Prop) (Hf : Hp), Same Hf H ∧ Reps K Hf ds vs ∧ sp ds QD ∧
  ∀ d a o Hf' H', Same H H' → Same Hf Hf' → Same Hf' H' → (∀ b : Addr, H b ≠ none → Hf b = none → Hf' b = none) → H a = none → Hf' a = none → H' a = some o → RepO K Hf' d o → QD d → Q (.ref a) H'
theorem def_okN {C : Cn} {x qual : Str} {st : Stmt} {f : Addr} {fd : FuncData} {ps : List Str} {sp : List D → (D → Prop) → Prop} {body : Sxs} (F : Fun K x qual st f fd) (S : FnScope C.N ps (defScope st)) (ek : EXok EX) (W : Wd P w K mg base EX xa Γ C)
    (hck : ckSs C (defScope st) body (defBody st) = true) (hlen : ∀ ds Q, sp ds Q → ds.length = ps.length)
    (hw : ∀ ds (QD : D → Prop), sp ds QD → wSs Γ (fun _ _ => False) body { nx := fun _ => False, rt := fun d _ => notSeq d = false ∧ QD d, rtF := true } (ent0 C.N ds)) :
    FnOk P w K mg base (L2.CX P w) (C.k + 1) f fd ps (lowN K sp) := by
  refine F.okX S (fun vs H Q E ⟨ds, QD, Hf, _, r, h, _⟩ => by rw [← r.length]; exact hlen _ _ h) fun cdv A outer s H vs Q E hr hsp => ?_
  obtain ⟨ds, QD, Hf, s0, r, h, hQ⟩ := hsp
  have R := entry_sr (EX := EX) (N := C.N) s0 r
  have c : Kst (cxOf (L2.CX P w) P w K mg base C.N qual (defScope st) f cdv A outer s H E) EX ⟨Hf, H⟩ xa Γ C (defScope st) (fun _ _ => False) := kst_of W S hr fun cls d σ H' ⟨_, _, _, _, _, _, _, _, _, _, _, _, q⟩ => q.elim
  refine ⟨_, PSs.m _, ?_⟩
  refine sSs body _ EX _ _ C _ ek c hck (ent0 C.N ds) (L2.start C.N vs) Hf H _ _ R (hw ds QD h) ⟨fun ρ' σ' Hf' H' R' s' q => q.elim, fun d ρ' v σ' Hf' H' m R' s' mb mf rv q => ?_, fun _ _ _ _ _ _ q => q.elim, fun _ _ _ _ _ _ q => q.elim⟩
  obtain ⟨nq, q⟩ := q
  cases mf rfl
  have rv : RepF K ⟨Hf, H⟩ ρ' σ' Hf' H' d v := rv
  cases rv with
  | sh nn _ => rw [nq] at nn; cases nn
  | own n0 n1 h1 r1 _ => exact hQ _ _ _ Hf' H' R'.ent s' R'.sub R'.nof n0 n1 h1 (.lst r1) q
  | ownK n0 n1 h1 r1 _ => exact hQ _ _ _ Hf' H' R'.ent s' R'.sub R'.nof n0 n1 h1 (.dct r1) q
/-! ### lids -/
/-- θ: what stays; I: the object's content by θ; B: what stands about it; S: its data by θ -/
structure Lid where
  T : Type
  I : T → HO → Prop
  B : T → PySem.W.Frag → Hp → Prop
  S : T → D → Prop
  mono : ∀ θ K H H', B θ K H → Same H H' → B θ K H'
  into : ∀ θ K H o, I θ o → B θ K H → ∃ d, S θ d ∧ RepO K H d o
  back : ∀ θ K H d o, S θ d → RepO K H d o → I θ o
/-- the thing under its lid -/
def Lid.d (L : Lid) (P : Program) (w : World) : D := .opq fun K v H => ∃ (θ : L.T) (a : Addr), v = .ref a ∧ H a = some (.ext (Phi P w a (L.I θ))) ∧ L.B θ K (less H a)
theorem less_less {H H' : Hp} {a : Addr} (s : Same H H') : Same (less H a) (less H' a) := fun b u q => by
  by_cases h : b = a
  · subst h; rw [less_same] at q; cases q
  · rw [less_ne h] at q ⊢; exact s b u q
theorem Lid.inv (L : Lid) {H : Hp} {v : V} (r : Rep K H (L.d P w) v) : ∃ (θ : L.T) (a : Addr), v = .ref a ∧ H a = some (.ext (Phi P w a (L.I θ))) ∧ L.B θ K (less H a) := by
  cases r with
  | opq s p =>
    obtain ⟨θ, a, e, h, b⟩ := p
    exact ⟨θ, a, e, s _ _ h, L.mono θ K _ _ b (less_less s)⟩
theorem flat_reps {H H' : Hp} : ∀ {ds : List D} {vs : List V}, (∀ d ∈ ds, flatD d = true) → Reps K H ds vs → Reps K H' ds vs
  | _, _, _, .nil => .nil
  | _, _, f, .cons r t => .cons (flat_rep (f _ List.mem_cons_self) r) (flat_reps (fun d h => f d (List.mem_cons_of_mem _ h)) t)
/-- a draw: the thing under its lid, then plain data -/
theorem take_ok (L : Lid) {k : Nat} {f : Addr} {fd : FuncData} {ps : List Str} {sp : OSp} {spc : FSp} (F : FnOk P w K mg base (L2.CX P w) k f fd ps (lowO K sp)) (hlen : ∀ ds QD QE, spc ds QD QE → ds.length = ps.length)
    (h : ∀ ds (QD : D → Prop) (QE : DX → Prop), spc ds QD QE → ∃ ds', ds = L.d P w :: ds' ∧ (∀ d ∈ ds', flatD d = true) ∧ ∀ θ d0, L.S θ d0 → sp d0 ds' fun d d' => flatD d = true ∧ L.S θ d' ∧ QD d) : FnOk P w K mg base (L2.CX P w) k f fd ps (low K xa spc) := by
  refine open_ok F (fun vs H Q E hs => ?_) fun vs H Q E ⟨ds, QD, QE, Hf, _, r, hh, _⟩ => by rw [← r.length]; exact hlen _ _ _ hh
  obtain ⟨ds, QD, QE, Hf, s0, r, hh, hQ, _⟩ := hs
  obtain ⟨ds', rfl, fl, hsp⟩ := h ds QD QE hh
  cases r with
  | cons r0 r =>
    obtain ⟨θ, a, rfl, ha, hB⟩ := L.inv r0
    have haH := s0 _ _ ha
    have into : ∀ o, L.I θ o → ∃ d0, L.S θ d0 ∧ RepO K (less Hf a) d0 o := fun o i => L.into θ K _ o i hB
    refine ⟨a, L.I θ, haH, fun o i q => ?_⟩
    obtain ⟨d0, hs0, ro⟩ := into o i
    have sl : Same (less Hf a) (upd H a o) := fun b u z => by
      by_cases e : b = a
      · subst e; rw [less_same] at z; cases z
      · rw [less_ne e] at z; rw [upd_ne e]; exact s0 _ _ z
    refine ⟨a, o, d0, ds', _, _, less Hf a, rfl, sl, less_same, upd_same, ro, flat_reps fl r, hsp θ d0 hs0, fun d v d' o' Hf' H' a1 a2 a3 _ _ h1 h2 rv q' => ?_⟩
    refine ⟨o', L.back θ K Hf' d' o' q'.2.1 h2, h2.op, h1, ?_⟩
    have sH : Same H (upd H' a (.ext (Phi P w a (L.I θ)))) := fun b u z => by
      by_cases e : b = a
      · subst e; rw [haH] at z; cases z; exact upd_same
      · rw [upd_ne e]
        refine a1 b u ?_
        rw [less_ne e, upd_ne e]; exact z
    exact hQ d v Hf _ sH (Same.refl _) (s0.trans sH) (fun _ _ z => z) (flat_rep q'.1 rv) q'.2.2
/-- a new thing gets its lid -/
theorem close_ok {k : Nat} {f : Addr} {fd : FuncData} {ps : List Str} {sp sp' : Sp} (F : FnOk P w K mg base (L2.CX P w) k f fd ps sp)
    (h : ∀ vs H Q E, sp' vs H Q E → sp vs H (fun v H' => ∃ a o I, v = .ref a ∧ H' a = some o ∧ I o ∧ OpenO o ∧ Q v (upd H' a (.ext (Phi P w a I)))) (fun _ _ _ => False)) : FnOk P w K mg base (L2.CX P w) k f fd ps sp' := by
  refine ⟨fun vs H Q E hs => F.len _ _ _ _ (h vs H Q E hs), fun A outer s H args us vs Q E hr e0 hb hv hs => ?_⟩
  refine codeAny_mono (F.run A outer s H args us vs _ _ hr e0 hb hv (h vs H Q E hs)) fun r s' hq => ?_
  cases r with
  | error e =>
    obtain ⟨_, _, _, _, _, _, _, _, _, _, _, _, z⟩ := hq
    exact z.elim
  | ok fl =>
    cases fl with
    | next => exact False.elim hq
    | brk => exact False.elim hq
    | cont => exact False.elim hq
    | ret u =>
      obtain ⟨v, H', os, bare, un, hok', rv, a, o', I, rfl, ha', i', q', hQ⟩ := hq
      have back : ∀ {b : Addr} {u : HO}, H' b = some u → (¬ OpenO u) → upd H' a (.ext (Phi P w a I)) b = some u := fun {b u} z n => by
        rw [upd_ne (fun e => by rw [e, ha'] at z; cases z; exact n q')]; exact z
      refine ⟨_, _, os, bare, ⟨un.keep, un.slot, fun b ob e z m2 => ?_, un.there, fun b xs e => ?_, fun b ob u e => ?_, fun b pp e => ?_⟩, closes hok' ha' i' q', rv, hQ⟩
      · have z' := un.free b ob e z m2
        rw [upd_ne (fun e => by rw [e, ha'] at z'; cases z')]
        exact z'
      · exact back (un.tups b xs e) (fun z => z)
      · exact back (un.frzs b ob u e) (fun z => z)
      · obtain ⟨more, z⟩ := un.tbls b pp e
        exact ⟨more, back z (fun z => z)⟩
theorem make_ok (L : Lid) {k : Nat} {f : Addr} {fd : FuncData} {ps : List Str} {sp : List D → (D → Prop) → Prop} {spc : FSp} {N : D → Prop} (F : FnOk P w K mg base (L2.CX P w) k f fd ps (lowN K sp)) (ini : ∀ H d o, N d → RepO K H d o → ∃ θ, L.I θ o ∧ L.B θ K H)
    (h : ∀ ds (QD : D → Prop) (QE : DX → Prop), spc ds QD QE → sp ds N ∧ QD (L.d P w)) : FnOk P w K mg base (L2.CX P w) k f fd ps (low K xa spc) := by
  refine close_ok F fun vs H Q E hs => ?_
  obtain ⟨ds, QD, QE, Hf, s0, r, hh, hQ, _⟩ := hs
  obtain ⟨h1, h2⟩ := h ds QD QE hh
  refine ⟨ds, N, Hf, s0, r, h1, fun d a o Hf' H' a1 a2 a3 a4 n0 n1 ha ro hN => ?_⟩
  obtain ⟨θ, i, b⟩ := ini Hf' d o hN ro
  refine ⟨a, o, L.I θ, rfl, ha, i, ro.op, ?_⟩
  have e1 : less Hf' a = Hf' := by
    funext c
    by_cases e : c = a
    · subst e; rw [less_same, n1]
    · rw [less_ne e]
  have e2 : less (upd Hf' a (.ext (Phi P w a (L.I θ)))) a = Hf' := by
    funext c
    by_cases e : c = a
    · subst e; rw [less_same, n1]
    · rw [less_ne e, upd_ne e]
  exact hQ _ _ (upd Hf' a (.ext (Phi P w a (L.I θ)))) _ (same_updR a1 n0) (same_updR a2 (by
      cases z : Hf a with
      | none => rfl
      | some u => rw [a2 _ _ z] at n1; cases n1)) (fun b u q => by
        by_cases e : b = a
        · subst e; rw [upd_same] at q ⊢; exact q
        · rw [upd_ne e] at q ⊢; exact a3 b u q) (fun c z1 z2 => by
        by_cases e : c = a
        · subst e; exact absurd n0 z1
        · rw [upd_ne e]; exact a4 c z1 z2) (.opq (Same.refl _) ⟨θ, a, rfl, upd_same, by rw [e2]; exact b⟩) h2
end
end DL
/-! DU: walking what is asked -/
namespace DL
open PySem PySem.Spec PyProof.Rows L2
theorem lcL_ind {G : D → DEnv → (DEnv → Prop) → Prop} {T : DEnv → (Bool → DEnv → Prop) → Prop} {E : DEnv → (D → DEnv → Prop) → Prop} {ρ : DEnv} {Q : List D → Prop} (I : List D → List D → Prop) (last : ∀ acc, I [] acc → Q acc)
    (step : ∀ d ds acc, I (d :: ds) acc → ∀ R : List D → Prop, (∀ acc', I ds acc' → R acc') → G d ρ fun ρ2 => T ρ2 fun b ρ3 => ρ3 = ρ2 ∧ if b = true then E ρ3 fun y ρ4 => ρ4 = ρ3 ∧ acc.length < sizeLine ∧ R (acc ++ [y]) else R acc) : ∀ items acc, I items acc → lcL G T E ρ Q items acc
  | [], acc, h => last acc h
  | d :: ds, acc, h => step d ds acc h _ fun acc' h' => lcL_ind I last step ds acc' h'
theorem forL_ind {G : D → DEnv → (DEnv → Prop) → Prop} {B : EndD → DEnv → Prop} {Z : EndD} (I : List D → DEnv → Prop) (last : ∀ ρ, I [] ρ → Z.nx ρ)
    (step : ∀ d ds ρ, I (d :: ds) ρ → ∀ N : DEnv → Prop, (∀ ρ', I ds ρ' → N ρ') → G d ρ fun ρ1 => B { nx := N, rt := Z.rt, rtF := Z.rtF, bk := Z.nx, ct := N } ρ1) : ∀ items ρ, I items ρ → forL G B Z items ρ
  | [], ρ, h => last ρ h
  | d :: ds, ρ, h => step d ds ρ h _ fun ρ' h' => forL_ind I last step ds ρ' h'
/-- all of them new -/
theorem lcL_map {G : D → DEnv → (DEnv → Prop) → Prop} {T : DEnv → (Bool → DEnv → Prop) → Prop} {E : DEnv → (D → DEnv → Prop) → Prop} {ρ : DEnv} {Q : List D → Prop} (P : D → Prop) {items : List D} (hn : items.length ≤ sizeLine)
    (step : ∀ d acc, d ∈ items → (∀ x ∈ acc, P x) → acc.length < sizeLine → ∀ R : List D → Prop, (∀ y, P y → R (acc ++ [y])) → G d ρ fun ρ2 => T ρ2 fun b ρ3 => ρ3 = ρ2 ∧ if b = true then E ρ3 fun y ρ4 => ρ4 = ρ3 ∧ acc.length < sizeLine ∧ R (acc ++ [y]) else R acc)
    (last : ∀ l, l.length = items.length → (∀ x ∈ l, P x) → Q l) : lcL G T E ρ Q items [] := by
  refine lcL_ind (fun ds acc => acc.length + ds.length = items.length ∧ (∀ x ∈ acc, P x) ∧ ∀ d ∈ ds, d ∈ items) (fun acc h => last acc (by simpa using h.1) h.2.1) (fun d ds acc h R hR => ?_) items [] ⟨by simp, by simp, fun _ h => h⟩
  have h1 := h.1
  rw [List.length_cons] at h1
  refine step d acc (h.2.2 d List.mem_cons_self) h.2.1 (by omega) R fun y hy => hR _ ⟨by rw [List.length_append, List.length_singleton]; omega, fun x hx => ?_, fun x hx => h.2.2 x (List.mem_cons_of_mem _ hx)⟩
  rcases List.mem_append.mp hx with z | z
  · exact h.2.1 x z
  · rw [List.mem_singleton.mp z]; exact hy
/-! ### the pool -/
def cellsP (c : Addr) (cs : List Int) : PySem.W.Frag → V → Hp → Prop := fun K v H => v = .ref c ∧ Rep K H (.lst (cs.map D.int)) v
theorem wkCells {c : Addr} {cs : List Int} : ∀ K H v, Rep K H (.opq (cellsP c cs)) v → Rep K H (.lst (cs.map D.int)) v := fun K H v r => by
  cases r with
  | opq s p => exact p.2.same s
def pl (c a r l s d t : D) : List (Key × D) := [(Sum.inr "cells", c), (Sum.inr "at", a), (Sum.inr "rest", r), (Sum.inr "left", l), (Sum.inr "small", s), (Sum.inr "seed", d), (Sum.inr "turn", t)]
section
variable {c a r l s d t x : D}
theorem pl_len : (pl c a r l s d t).length = 7 := rfl
theorem pl_cells : getK (pl c a r l s d t) (Sum.inr "cells") = some c := rfl
theorem pl_at : getK (pl c a r l s d t) (Sum.inr "at") = some a := rfl
theorem pl_rest : getK (pl c a r l s d t) (Sum.inr "rest") = some r := rfl
theorem pl_left : getK (pl c a r l s d t) (Sum.inr "left") = some l := rfl
theorem pl_small : getK (pl c a r l s d t) (Sum.inr "small") = some s := rfl
theorem pl_seed : getK (pl c a r l s d t) (Sum.inr "seed") = some d := rfl
theorem pl_turn : getK (pl c a r l s d t) (Sum.inr "turn") = some t := rfl
theorem pu_at : putD (pl c a r l s d t) (Sum.inr "at") x = pl c x r l s d t := rfl
theorem pu_rest : putD (pl c a r l s d t) (Sum.inr "rest") x = pl c a x l s d t := rfl
theorem pu_left : putD (pl c a r l s d t) (Sum.inr "left") x = pl c a r x s d t := rfl
theorem pu_small : putD (pl c a r l s d t) (Sum.inr "small") x = pl c a r l x d t := rfl
theorem pu_turn : putD (pl c a r l s d t) (Sum.inr "turn") x = pl c a r l s d x := rfl
end
def poolS (c : D) (at_ : Nat) (rest left : Int) (small : Bool) (seed turn : Int) : D := .dct (pl c (.int at_) (.int rest) (.int left) (.bl small) (.int seed) (.int turn))
abbrev vk (x : Str) (v : V) : Key × V := (Sum.inr x, v)
def poolO (c : V) (at_ : Nat) (rest left : Int) (small : Bool) (seed turn : Int) : HO :=
  .dK [vk "cells" c, vk "at" (.int at_), vk "rest" (.int rest), vk "left" (.int left), vk "small" (.bl small), vk "seed" (.int seed), vk "turn" (.int turn)]
def poolL : Lid where
  T := Addr × List Int
  I := fun θ o => ∃ at_ rest left small seed turn, o = poolO (.ref θ.1) at_ rest left small seed turn
  B := fun θ K H => Rep K H (.lst (θ.2.map D.int)) (.ref θ.1)
  S := fun θ d => ∃ at_ rest left small seed turn, d = poolS (.opq (cellsP θ.1 θ.2)) at_ rest left small seed turn
  mono := fun θ K H H' b s => b.same s
  into := fun θ K H o ⟨at_, rest, left, small, seed, turn, e⟩ b => ⟨_, ⟨at_, rest, left, small, seed, turn, rfl⟩, by
    rw [e]
    exact .dct (.cons (.opq (Same.refl _) ⟨rfl, b⟩) (.cons (.int _) (.cons (.int _) (.cons (.int _) (.cons (.bl _) (.cons (.int _) (.cons (.int _) .nil)))))))⟩
  back := fun θ K H d o ⟨at_, rest, left, small, seed, turn, e⟩ r => ⟨at_, rest, left, small, seed, turn, by
    subst e
    cases r with
    | dct r =>
      cases r with
      | cons r0 r =>
        cases r0 with
        | opq s0 p0 =>
          obtain ⟨rfl, _⟩ := p0
          cases r with
          | cons r1 r => cases r1; cases r with
            | cons r2 r => cases r2; cases r with
              | cons r3 r => cases r3; cases r with
                | cons r4 r => cases r4; cases r with
                  | cons r5 r => cases r5; cases r with
                    | cons r6 r => cases r6; cases r; rfl⟩
theorem pool_ini {K : PySem.W.Frag} : ∀ (H : Hp) (d : D) (o : HO), (∃ (cs : List Int) (seed : Int), d = poolS (.lst (cs.map D.int)) 0 0 0 true seed 0) → RepO K H d o → ∃ θ, poolL.I θ o ∧ poolL.B θ K H := fun H d o ⟨cs, seed, e⟩ r => by
  subst e
  cases r with
  | dct r =>
    cases r with
    | cons r0 r =>
      cases r0 with
      | lst s0 p0 =>
        cases r with
        | cons r1 r => cases r1; cases r with
          | cons r2 r => cases r2; cases r with
            | cons r3 r => cases r3; cases r with
              | cons r4 r => cases r4; cases r with
                | cons r5 r => cases r5; cases r with
                  | cons r6 r => cases r6; cases r; exact ⟨⟨_, cs⟩, ⟨_, _, _, _, _, _, rfl⟩, .lst s0 p0⟩
end DL
namespace DL
open PySem PySem.Spec PyProof.Rows L2
theorem wSs_cons {Γ : Gm} {E : DX → DEnv → Prop} {s : Sx} {l : Sxs} {Z : EndD} {ρ : DEnv} : wSs Γ E (.cons s l) Z ρ = wS Γ E s { nx := wSs Γ E l Z, rt := Z.rt, rtF := Z.rtF, bk := Z.bk, ct := Z.ct } ρ := rfl
theorem wSs_nil {Γ : Gm} {E : DX → DEnv → Prop} {Z : EndD} {ρ : DEnv} : wSs Γ E .nil Z ρ = Z.nx ρ := rfl
/-- a statement, then the rest, with what holds between -/
theorem seq_i {Γ : Gm} {E : DX → DEnv → Prop} {s : Sx} {l : Sxs} {Z : EndD} {ρ : DEnv} (N : DEnv → Prop) (hN : ∀ ρ', N ρ' → wSs Γ E l Z ρ') (h : ∀ N' : DEnv → Prop, (∀ ρ', N ρ' → N' ρ') → wS Γ E s { nx := N', rt := Z.rt, rtF := Z.rtF, bk := Z.bk, ct := Z.ct } ρ) : wSs Γ E (.cons s l) Z ρ := h _ hN
theorem whl_i {Γ : Gm} {E : DX → DEnv → Prop} {c : Ex} {b : Sxs} {Z : EndD} {ρ : DEnv} (W : Nat → DEnv → Prop) (m : Nat) (h0 : W m ρ) (h : ∀ m ρ, W m ρ → wT Γ E c ρ fun k ρ1 => if k = true then
      wSs Γ E b { nx := fun ρ' => ∃ m', m' < m ∧ W m' ρ', rt := Z.rt, rtF := Z.rtF, bk := Z.nx, ct := fun ρ' => ∃ m', m' < m ∧ W m' ρ' } ρ1 else Z.nx ρ1) : wS Γ E (.whl c b) Z ρ := ⟨W, ⟨m, h0⟩, h⟩
theorem sz {n : Nat} (h : n ≤ 100000) : n ≤ sizeLine := by rw [sizeLine_eq]; omega
theorem sz' {n : Nat} (h : n ≤ 100000) : n < sizeLine := by rw [sizeLine_eq]; omega
theorem atI_0 {α : Type} {x : α} {l : List α} : atI (x :: l) (0 : Int) = some x := by
  have := atI_nat (xs := x :: l) (j := 0) rfl
  exact this
theorem atI_1 {α : Type} {x y : α} {l : List α} : atI (x :: y :: l) (1 : Int) = some y := by
  have := atI_nat (xs := x :: y :: l) (j := 1) rfl
  exact this
theorem atI_2 {α : Type} {x y z : α} {l : List α} : atI (x :: y :: z :: l) (2 : Int) = some z := by
  have := atI_nat (xs := x :: y :: z :: l) (j := 2) rfl
  exact this
theorem atI_3 {α : Type} {x y z u : α} {l : List α} : atI (x :: y :: z :: u :: l) (3 : Int) = some u := by
  have := atI_nat (xs := x :: y :: z :: u :: l) (j := 3) rfl
  exact this
end DL
/-! DX4: the tables of exceptions, from the head's facts -/
namespace DL
open PySem PySem.Spec PyProof.Rows L2
def subF (l : List (Nat × Str × Bool)) (c : Nat) (x : Str) : Option Bool := (l.find? fun p => p.1 == c && p.2.1 == x).map (·.2.2)
def clsF (l : List (Nat × List Str)) (c : Nat) : Option (List Str) := (l.find? fun p => p.1 == c).map (·.2)
def xaF (l : List (Nat × Addr)) (c : Nat) : Addr := ((l.find? fun p => p.1 == c).map (·.2)).getD 0
theorem sub_of {K : PySem.W.Frag} {mg : Str → Option Value} {xa : Nat → Addr} {l : List (Nat × Str × Bool)} (h : ∀ p ∈ l, ExNG K mg xa p.1 p.2.1 p.2.2) (c : Nat) (x : Str) (b : Bool) (e : subF l c x = some b) : ExNG K mg xa c x b := by
  unfold subF at e
  rw [Option.map_eq_some_iff] at e
  obtain ⟨p, hp, rfl⟩ := e
  have h1 := List.find?_some hp
  have h2 := List.mem_of_find?_eq_some hp
  simp only [Bool.and_eq_true, beq_iff_eq] at h1
  rw [← h1.1, ← h1.2]
  exact h p h2
theorem cls_of {K : PySem.W.Frag} {xa : Nat → Addr} {l : List (Nat × List Str)} (h : ∀ p ∈ l, ExK K xa p.1 p.2) (c : Nat) (fs : List Str) (e : clsF l c = some fs) : ExK K xa c fs := by
  unfold clsF at e
  rw [Option.map_eq_some_iff] at e
  obtain ⟨p, hp, rfl⟩ := e
  have h1 := List.find?_some hp
  have h2 := List.mem_of_find?_eq_some hp
  rw [beq_iff_eq] at h1
  rw [← h1]
  exact h p h2
theorem exn_ref {K : PySem.W.Frag} {mg : Str → Option Value} {xa : Nat → Addr} {c : Nat} {C' : Addr} {x : Str} {b : Bool} (hm : mg x = some (.ref C')) (h1 : PySem.W.subIn K (.ref C') (.type "BaseException") = some true) (hd : PySem.W.hasDictIn K C' = true) (ht : PySem.W.typeIn K (.ref C') = some (.type "type"))
    (h4 : PySem.W.subIn K (.ref (xa c)) (.ref C') = some b) (hs : PySem.W.subIn K (.ref (xa c)) (.ref (xa c)) = some true) : ExNG K mg xa c x b := by
  refine ⟨.ref C', .ref C', .inl hm, rfl, fun w h => h, ?_, ?_⟩
  · unfold PySem.W.kitOne
    by_cases e : xa c = C'
    · rw [e] at h4 hs
      rw [h4] at hs
      rw [e, if_pos (by simp)]
      exact hs.symm
    · rw [if_neg (by simpa using e)]
      obtain ⟨cd, hc, _⟩ := PySem.W.any_some hd
      have e2 : ((PySem.W.clsIn K C').isSome && PySem.W.typeIn K (.ref C') == some (.type "type")) = true := by rw [hc, ht]; rfl
      show (if ((PySem.W.clsIn K C').isSome && PySem.W.typeIn K (.ref C') == some (.type "type")) = true then PySem.W.subIn K (.ref (xa c)) (.ref C') else none) = some b
      rw [if_pos e2]; exact h4
  · obtain ⟨cd, hc, _⟩ := PySem.W.any_some hd
    have e1 : (PySem.W.subIn K (.ref C') (.type "BaseException") == some true) = true := by rw [h1]; rfl
    have e2 : ((PySem.W.clsIn K C').isSome && PySem.W.typeIn K (.ref C') == some (.type "type")) = true := by rw [hc, ht]; rfl
    show (if (PySem.W.subIn K (.ref C') (.type "BaseException") == some true) = true then (if ((PySem.W.clsIn K C').isSome && PySem.W.typeIn K (.ref C') == some (.type "type")) = true then PySem.W.subIn K (.ref (xa c)) (.ref C') else none) else none) = some b
    rw [if_pos e1, if_pos e2]; exact h4
theorem exn_VE {K : PySem.W.Frag} {mg : Str → Option Value} {xa : Nat → Addr} {c : Nat} {b : Bool} (hm : mg "ValueError" = none) (h1 : PySem.W.subIn K (.type "ValueError") (.type "BaseException") = some true) (h4 : PySem.W.subIn K (.ref (xa c)) (.type "ValueError") = some b) : ExNG K mg xa c "ValueError" b := by
  have km : PySem.W.kitMeta "ValueError" = true := by decide +kernel
  refine ⟨.ty "ValueError", .type "ValueError", .inr ⟨hm, by decide +kernel, by decide +kernel⟩, rfl, fun w h => h, ?_, ?_⟩
  · unfold PySem.W.kitOne
    rw [if_neg (by simp)]
    show (if PySem.W.kitMeta "ValueError" = true then PySem.W.subIn K (.ref (xa c)) (.type "ValueError") else none) = some b
    rw [if_pos km]; exact h4
  · have e1 : (PySem.W.subIn K (.type "ValueError") (.type "BaseException") == some true) = true := by rw [h1]; rfl
    show (if (PySem.W.subIn K (.type "ValueError") (.type "BaseException") == some true) = true then (if PySem.W.kitMeta "ValueError" = true then PySem.W.subIn K (.ref (xa c)) (.type "ValueError") else none) else none) = some b
    rw [if_pos e1, if_pos km]; exact h4
/-- the bases of an own exception class: KnotError, then ValueError's -/
theorem oex_of {K : PySem.W.Frag} {C C0 : Addr} {nm q : Str} {N : Addr} {bs : List Value} {sn : List Str} {sub : List Value} {ab : Bool} {col : Option Bool} {dd : Option Addr} {m0 m1 m2 m3 m5 : Option Value}
    (xL : K.lookup C = some (excClassObj nm q C N bs [.ref C0, .type "ValueError", .type "Exception", .type "BaseException", .type "object"] true sn sub ab col dd m0 m1 m2 m3 m5 "ValueError.__new__"))
    (sa : PySem.W.findIn K (.ref C) "__setattr__" = some (some (.builtin "object.__setattr__"))) (eC : PySem.W.subIn K (.ref C) (.type "BaseException") = some true) (tC : PySem.W.typeIn K (.ref C) = some (.type "type")) (kC : PySem.W.keepIn K (.ref C) = true) : OexC K C :=
  { cls := ⟨nm, q, N, bs, _, sn, sub, ab, col, dd, m0, m1, m2, m3, m5, xL, by first | decide +kernel | rfl⟩, sa := sa, exC := eC, tyC := tC, kC := kC }
/-- a promise that raises nothing keeps to it whatever the classes are -/
theorem fn_any {P : Program} {w : World} {K : PySem.W.Frag} {mg : Str → Option Value} {base : Heap} {k : Nat} {f : Addr} {fd : FuncData} {ps : List Str} {xa xa' : Nat → Addr} {sp : FSp} (hs : ∀ ds Q E E', sp ds Q E → sp ds Q E') (F : FnOk P w K mg base (L2.CX P w) k f fd ps (low K xa sp)) :
    FnOk P w K mg base (L2.CX P w) k f fd ps (low K xa' sp) := by
  have h : ∀ vs H Q E, low K xa' sp vs H Q E → low K xa sp vs H Q E := fun vs H Q E ⟨ds, QD, QE, Hf, s, r, hh, hQ, _⟩ => ⟨ds, QD, fun _ => False, Hf, s, r, hs _ _ _ _ hh, hQ, fun _ _ _ _ _ _ _ _ _ _ _ _ _ q => q.elim⟩
  exact ⟨fun vs H Q E s => F.len vs H Q E (h _ _ _ _ s), fun A outer s H args us vs Q E a b c d e => F.run A outer s H args us vs Q E a b c d (h _ _ _ _ e)⟩
end DL
/-! WU: helpers of the walks -/
namespace DL
open PySem PySem.Spec PyProof.Rows L2
abbrev zz (Q : D → Prop) : EndD := { nx := fun _ => Q .non, rt := fun d _ => Q d }
theorem wSs_step {Γ : Gm} {E : DX → DEnv → Prop} {x : Sxs} {s : Sx} {l : Sxs} {Z : EndD} {ρ : DEnv} (h : x = .cons s l) (q : wS Γ E s { nx := wSs Γ E l Z, rt := Z.rt, rtF := Z.rtF, bk := Z.bk, ct := Z.ct } ρ) : wSs Γ E x Z ρ := by rw [h]; exact q
theorem wSs_stop {Γ : Gm} {E : DX → DEnv → Prop} {x : Sxs} {Z : EndD} {ρ : DEnv} (h : x = .nil) (q : Z.nx ρ) : wSs Γ E x Z ρ := by rw [h]; exact q
theorem len_app (a b : Str) : (a ++ b).length = a.length + b.length := by
  show (a.cps ++ b.cps).size = a.cps.size + b.cps.size
  exact Array.size_append
theorem str_ext {a b : Str} (h : a.cps.toList = b.cps.toList) : a = b := by
  cases a; cases b
  congr
  exact Array.toList_inj.mp h
theorem toL_len (s : Str) : s.cps.toList.length = s.length := Array.length_toList
theorem toL_app (a b : Str) : (a ++ b).cps.toList = a.cps.toList ++ b.cps.toList := by
  show (a.cps ++ b.cps).toList = _
  exact Array.toList_append
/-- a string that is known to be one sign -/
theorem sign1 (c : Nat) : (⟨#[c]⟩ : Str).length = 1 := rfl
theorem ord1 (c : Nat) : #[c].getD 0 0 = c := rfl
theorem ordW1 {c : Nat} {Q : D → Prop} : ordW [.str ⟨#[c]⟩] Q = Q (.int (c : Int)) := by
  show (_ ∧ _) = _
  rw [eq_iff_iff]
  exact ⟨fun h => h.2, fun h => ⟨rfl, h⟩⟩
theorem nl_sign : Str.ofString "\n" = ⟨#[10]⟩ := by decide
theorem sign_eq {c d : Nat} : ((⟨#[c]⟩ : Str) = ⟨#[d]⟩) = (c = d) := by
  simp
theorem eq_sign {c d : Nat} : decide ((⟨#[c]⟩ : Str) = ⟨#[d]⟩) = decide (c = d) := by
  rw [decide_eq_decide]
  constructor
  · intro h
    have := congrArg (fun z : Str => z.cps.toList) h
    simpa using this
  · intro h; rw [h]
/-- one of these types, by data -/
def isTy (ts : List String) (d : D) : Bool := match tyD d with
  | some t => ts.any (subTy t)
  | none => false
def okD (d : D) : Bool := (tyD d).isSome
theorem isTy_some {d : D} {ts : List String} (h : okD d = true) : ∃ t, tyD d = some t ∧ ts.any (subTy t) = isTy ts d := by
  obtain ⟨t, ht⟩ := Option.isSome_iff_exists.mp h
  exact ⟨t, ht, by unfold isTy; rw [ht]⟩
theorem atI_4 {α : Type} {x y z u v : α} {l : List α} : atI (x :: y :: z :: u :: v :: l) (4 : Int) = some v := atI_nat (xs := x :: y :: z :: u :: v :: l) (j := 4) rfl
theorem atI_5 {α : Type} {x y z u v w : α} {l : List α} : atI (x :: y :: z :: u :: v :: w :: l) (5 : Int) = some w := atI_nat (xs := x :: y :: z :: u :: v :: w :: l) (j := 5) rfl
theorem atI_6 {α : Type} {x y z u v w t : α} {l : List α} : atI (x :: y :: z :: u :: v :: w :: t :: l) (6 : Int) = some t := atI_nat (xs := x :: y :: z :: u :: v :: w :: t :: l) (j := 6) rfl
theorem eqDW_of {a b : D} {Q : Bool → Prop} (h : scalD a b = false) (h1 : SeqAt.shaped (toPy a) = true) (h2 : SeqAt.shaped (toPy b) = true) (q : Q (PyData.eqv (toPy a) (toPy b))) : eqDW a b Q := by
  unfold eqDW
  rw [if_neg (by rw [h]; exact Bool.false_ne_true)]
  exact ⟨h1, h2, q⟩
/-- a list of numbers under another shape -/
def wkC (cD : D) (cs : List Int) : Prop := ∀ K H v, Rep K H cD v → Rep K H (.lst (cs.map D.int)) v
def big (n : Int) : Prop := 0 < n ∧ n < 1073741824
theorem atI_int {cs : List Int} {i : Nat} (h : i < cs.length) : atI (cs.map D.int) (i : Int) = some (.int (cs[i]'h)) := by
  rw [atI_nat (by rw [List.getElem?_map, List.getElem?_eq_getElem h]; rfl)]
theorem keepD_nil {m : List Bool} : keepD m [] = [] := by unfold keepD; rfl
theorem plM_sh {d : D} {r : DEnv} {m : List Bool} : PlM (true :: m) (.sh d :: r) = (Pl d ∧ PlM m r) := by
  show ((∃ d', Sl.sh d = .sh d' ∧ Pl d') ∧ _) = _
  rw [eq_iff_iff]
  exact ⟨fun ⟨⟨d', e, p⟩, q⟩ => by cases e; exact ⟨p, q⟩, fun ⟨p, q⟩ => ⟨⟨d, rfl, p⟩, q⟩⟩
theorem plM_nil {r : DEnv} : PlM [] r = True := by cases r <;> rfl
theorem sl_sh {d e : D} : (Sl.sh d = Sl.sh e) = (d = e) := by rw [eq_iff_iff]; exact ⟨fun h => by cases h; rfl, fun h => by rw [h]⟩
theorem d_dct {d e : List (Key × D)} : (D.dct d = D.dct e) = (d = e) := by rw [eq_iff_iff]; exact ⟨fun h => by cases h; rfl, fun h => by rw [h]⟩
/-! data without what is hidden -/
theorem Pl.non : Pl .non := fun K H H' v s r => by cases r; exact .non
theorem Pl.int (i : Int) : Pl (.int i) := fun K H H' v s r => by cases r; exact .int i
theorem Pl.bl (i : Bool) : Pl (.bl i) := fun K H H' v s r => by cases r; exact .bl i
theorem Pl.str (i : Str) : Pl (.str i) := fun K H H' v s r => by cases r; exact .str i
theorem pl_reps {K : PySem.W.Frag} {H H' : Hp} (s : Sim H H') : ∀ {l : List D} {xs : List V}, (∀ d ∈ l, Pl d) → Reps K H l xs → Reps K H' l xs
  | _, _, _, .nil => .nil
  | _, _, h, .cons r t => .cons (h _ List.mem_cons_self _ _ _ _ s r) (pl_reps s (fun d hd => h d (List.mem_cons_of_mem _ hd)) t)
theorem pl_repK {K : PySem.W.Frag} {H H' : Hp} (s : Sim H H') : ∀ {l : List (Key × D)} {xs : List (Key × V)}, (∀ kv ∈ l, Pl kv.2) → RepK K H l xs → RepK K H' l xs
  | _, _, _, .nil => .nil
  | _, _, h, .cons r t => .cons (h _ List.mem_cons_self _ _ _ _ s r) (pl_repK s (fun d hd => h d (List.mem_cons_of_mem _ hd)) t)
theorem Pl.tup {l : List D} (h : ∀ d ∈ l, Pl d) : Pl (.tup l) := fun K H H' v s r => by
  cases r with
  | tup a r => exact .tup (s.seqT a) (pl_reps s h r)
theorem Pl.lst {l : List D} (h : ∀ d ∈ l, Pl d) : Pl (.lst l) := fun K H H' v s r => by
  cases r with
  | lst a r => exact .lst (s.seqL a) (pl_reps s h r)
theorem Pl.dct {l : List (Key × D)} (h : ∀ kv ∈ l, Pl kv.2) : Pl (.dct l) := fun K H H' v s r => by
  cases r with
  | dct a r => exact .dct (s.dk a) (pl_repK s h r)
end DL
/-! DV: what is asked, row by row, for the walks -/
namespace DL
open PySem PySem.Spec PyProof.Rows L2
set_option autoImplicit true
theorem rr {α : Sort _} {a b : α} (h : a = b) : a = b := h
def kQ (Q : D → DEnv → Prop) (ρ : DEnv) : D → Prop := fun d => Q d ρ
theorem k1 {Q : D → DEnv → Prop} {ρ : DEnv} : kQ Q ρ d = (Q d ρ) := rr (rfl)
def kQb (Q : D → DEnv → Prop) (ρ : DEnv) : Bool → Prop := fun k => Q (.bl k) ρ
theorem k2 {Q : D → DEnv → Prop} {ρ : DEnv} : kQb Q ρ k = (Q (.bl k) ρ) := rr (rfl)
def kTb (Q : Bool → DEnv → Prop) (ρ : DEnv) : Bool → Prop := fun k => Q k ρ
theorem k3 {Q : Bool → DEnv → Prop} {ρ : DEnv} : kTb Q ρ k = (Q k ρ) := rr (rfl)
def kEx (E : DX → DEnv → Prop) (ρ : DEnv) : DX → Prop := fun dx => E dx ρ
theorem k4 {E : DX → DEnv → Prop} {ρ : DEnv} : kEx E ρ dx = (E dx ρ) := rr (rfl)
def kBin2 (o : BOp) (x : D) (Q : D → DEnv → Prop) : D → DEnv → Prop := fun y ρ2 => binW o x y (kQ Q ρ2)
theorem k5 {o : BOp} {x : D} {Q : D → DEnv → Prop} : kBin2 o x Q y ρ2 = (binW o x y (kQ Q ρ2)) := rr (rfl)
def kBin1 (Γ : Gm) (E : DX → DEnv → Prop) (o : BOp) (b : Ex) (Q : D → DEnv → Prop) : D → DEnv → Prop := fun x ρ1 => wE Γ E b ρ1 (kBin2 o x Q)
theorem k6 {Γ : Gm} {E : DX → DEnv → Prop} {o : BOp} {b : Ex} {Q : D → DEnv → Prop} : kBin1 Γ E o b Q x ρ1 = (wE Γ E b ρ1 (kBin2 o x Q)) := rr (rfl)
def kNeg (Q : D → DEnv → Prop) : D → DEnv → Prop := fun x ρ1 => match x with | .int i => Q (.int (-i)) ρ1 | _ => False
theorem k7 {Q : D → DEnv → Prop} : kNeg Q (.int i) ρ1 = (Q (.int (-i)) ρ1) := rr (rfl)
def kNot (Q : D → DEnv → Prop) : D → DEnv → Prop := fun x ρ1 => match x with | .bl k => Q (.bl (!k)) ρ1 | _ => False
theorem k8 {Q : D → DEnv → Prop} : kNot Q (.bl k) ρ1 = (Q (.bl (!k)) ρ1) := rr (rfl)
def kCmp2 (o : COp) (x : D) (Q : D → DEnv → Prop) : D → DEnv → Prop := fun y ρ2 => cmpW o x y (kQb Q ρ2)
theorem k9 {o : COp} {x : D} {Q : D → DEnv → Prop} : kCmp2 o x Q y ρ2 = (cmpW o x y (kQb Q ρ2)) := rr (rfl)
def kCmp1 (Γ : Gm) (E : DX → DEnv → Prop) (o : COp) (b : Ex) (Q : D → DEnv → Prop) : D → DEnv → Prop := fun x ρ1 => wE Γ E b ρ1 (kCmp2 o x Q)
theorem k10 {Γ : Gm} {E : DX → DEnv → Prop} {o : COp} {b : Ex} {Q : D → DEnv → Prop} : kCmp1 Γ E o b Q x ρ1 = (wE Γ E b ρ1 (kCmp2 o x Q)) := rr (rfl)
def kC24 (p : COp) (y : D) (Q : D → DEnv → Prop) : D → DEnv → Prop := fun z ρ3 => cmpW p y z (kQb Q ρ3)
theorem k11 {p : COp} {y : D} {Q : D → DEnv → Prop} : kC24 p y Q z ρ3 = (cmpW p y z (kQb Q ρ3)) := rr (rfl)
def kC23 (Γ : Gm) (E : DX → DEnv → Prop) (p : COp) (y : D) (c : Ex) (Q : D → DEnv → Prop) (ρ2 : DEnv) : Bool → Prop := fun k => if k = true then wE Γ E c ρ2 (kC24 p y Q) else Q (.bl false) ρ2
theorem k12 {Γ : Gm} {E : DX → DEnv → Prop} {p : COp} {y : D} {c : Ex} {Q : D → DEnv → Prop} {ρ2 : DEnv} : kC23 Γ E p y c Q ρ2 k = (if k = true then wE Γ E c ρ2 (kC24 p y Q) else Q (.bl false) ρ2) := rr (rfl)
def kC22 (Γ : Gm) (E : DX → DEnv → Prop) (o p : COp) (x : D) (c : Ex) (Q : D → DEnv → Prop) : D → DEnv → Prop := fun y ρ2 => cmpW o x y (kC23 Γ E p y c Q ρ2)
theorem k13 {Γ : Gm} {E : DX → DEnv → Prop} {o p : COp} {x : D} {c : Ex} {Q : D → DEnv → Prop} : kC22 Γ E o p x c Q y ρ2 = (cmpW o x y (kC23 Γ E p y c Q ρ2)) := rr (rfl)
def kC21 (Γ : Gm) (E : DX → DEnv → Prop) (o p : COp) (b c : Ex) (Q : D → DEnv → Prop) : D → DEnv → Prop := fun x ρ1 => wE Γ E b ρ1 (kC22 Γ E o p x c Q)
theorem k14 {Γ : Gm} {E : DX → DEnv → Prop} {o p : COp} {b c : Ex} {Q : D → DEnv → Prop} : kC21 Γ E o p b c Q x ρ1 = (wE Γ E b ρ1 (kC22 Γ E o p x c Q)) := rr (rfl)
def kAnd (Γ : Gm) (E : DX → DEnv → Prop) (l : Exs) (Q : D → DEnv → Prop) : D → DEnv → Prop := fun x ρ1 => wAnd Γ E x l ρ1 Q
theorem k15 {Γ : Gm} {E : DX → DEnv → Prop} {l : Exs} {Q : D → DEnv → Prop} : kAnd Γ E l Q x ρ1 = (wAnd Γ E x l ρ1 Q) := rr (rfl)
def kOr (Γ : Gm) (E : DX → DEnv → Prop) (l : Exs) (Q : D → DEnv → Prop) : D → DEnv → Prop := fun x ρ1 => wOr Γ E x l ρ1 Q
theorem k16 {Γ : Gm} {E : DX → DEnv → Prop} {l : Exs} {Q : D → DEnv → Prop} : kOr Γ E l Q x ρ1 = (wOr Γ E x l ρ1 Q) := rr (rfl)
def kIte (Γ : Gm) (E : DX → DEnv → Prop) (a b : Ex) (Q : D → DEnv → Prop) : Bool → DEnv → Prop := fun k ρ1 => if k = true then wE Γ E a ρ1 Q else wE Γ E b ρ1 Q
theorem k17 {Γ : Gm} {E : DX → DEnv → Prop} {a b : Ex} {Q : D → DEnv → Prop} : kIte Γ E a b Q k ρ1 = (if k = true then wE Γ E a ρ1 Q else wE Γ E b ρ1 Q) := rr (rfl)
def kTup (Q : D → DEnv → Prop) : List D → DEnv → Prop := fun ds ρ1 => ds.length ≤ sizeLine ∧ Q (.tup ds) ρ1
theorem k18 {Q : D → DEnv → Prop} : kTup Q ds ρ1 = (ds.length ≤ sizeLine ∧ Q (.tup ds) ρ1) := rr (rfl)
def kLst (Q : D → DEnv → Prop) : List D → DEnv → Prop := fun ds ρ1 => ds.length ≤ sizeLine ∧ Q (.lst ds) ρ1
theorem k19 {Q : D → DEnv → Prop} : kLst Q ds ρ1 = (ds.length ≤ sizeLine ∧ Q (.lst ds) ρ1) := rr (rfl)
def kIx2 (x : D) (Q : D → DEnv → Prop) : D → DEnv → Prop := fun y ρ2 => ixW x y (kQ Q ρ2)
theorem k20 {x : D} {Q : D → DEnv → Prop} : kIx2 x Q y ρ2 = (ixW x y (kQ Q ρ2)) := rr (rfl)
def kIx1 (Γ : Gm) (E : DX → DEnv → Prop) (b : Ex) (Q : D → DEnv → Prop) : D → DEnv → Prop := fun x ρ1 => wE Γ E b ρ1 (kIx2 x Q)
theorem k21 {Γ : Gm} {E : DX → DEnv → Prop} {b : Ex} {Q : D → DEnv → Prop} : kIx1 Γ E b Q x ρ1 = (wE Γ E b ρ1 (kIx2 x Q)) := rr (rfl)
def kSl3 (x : D) (i : Option Int) (Q : D → DEnv → Prop) : Option Int → DEnv → Prop := fun j ρ3 => slW x i j (kQ Q ρ3)
theorem k22 {x : D} {i : Option Int} {Q : D → DEnv → Prop} : kSl3 x i Q j ρ3 = (slW x i j (kQ Q ρ3)) := rr (rfl)
def kSl2 (Γ : Gm) (E : DX → DEnv → Prop) (x : D) (hi : Exs) (Q : D → DEnv → Prop) : Option Int → DEnv → Prop := fun i ρ2 => wO Γ E hi ρ2 (kSl3 x i Q)
theorem k23 {Γ : Gm} {E : DX → DEnv → Prop} {x : D} {hi : Exs} {Q : D → DEnv → Prop} : kSl2 Γ E x hi Q i ρ2 = (wO Γ E hi ρ2 (kSl3 x i Q)) := rr (rfl)
def kSl1 (Γ : Gm) (E : DX → DEnv → Prop) (lw hi : Exs) (Q : D → DEnv → Prop) : D → DEnv → Prop := fun x ρ1 => wO Γ E lw ρ1 (kSl2 Γ E x hi Q)
theorem k24 {Γ : Gm} {E : DX → DEnv → Prop} {lw hi : Exs} {Q : D → DEnv → Prop} : kSl1 Γ E lw hi Q x ρ1 = (wO Γ E lw ρ1 (kSl2 Γ E x hi Q)) := rr (rfl)
def kCall (Γ : Gm) (E : DX → DEnv → Prop) (f : Nat) (Q : D → DEnv → Prop) : List D → DEnv → Prop := fun ds ρ1 => Γ.f f ds (kQ Q ρ1) (kEx E ρ1)
theorem k25 {Γ : Gm} {E : DX → DEnv → Prop} {f : Nat} {Q : D → DEnv → Prop} : kCall Γ E f Q ds ρ1 = (Γ.f f ds (kQ Q ρ1) (kEx E ρ1)) := rr (rfl)
def kQF (Q : D → DEnv → Prop) (ρ : DEnv) : D → Prop := fun d => flatD d = true ∧ Q d ρ
theorem k26 {Q : D → DEnv → Prop} {ρ : DEnv} : kQF Q ρ d = (flatD d = true ∧ Q d ρ) := rr (rfl)
def kEF (E : DX → DEnv → Prop) (ρ : DEnv) : DX → Prop := fun dx => (∀ p ∈ dx.2, flatD p.2 = true) ∧ E dx ρ
theorem k27 {E : DX → DEnv → Prop} {ρ : DEnv} : kEF E ρ dx = ((∀ p ∈ dx.2, flatD p.2 = true) ∧ E dx ρ) := rr (rfl)
def kCallB (Γ : Gm) (E : DX → DEnv → Prop) (f : Nat) (Q : D → DEnv → Prop) : List D → DEnv → Prop := fun ds ρ1 => Γ.f f ds (kQF Q ρ1) (kEF E ρ1)
theorem k28 {Γ : Gm} {E : DX → DEnv → Prop} {f : Nat} {Q : D → DEnv → Prop} : kCallB Γ E f Q ds ρ1 = (Γ.f f ds (kQF Q ρ1) (kEF E ρ1)) := rr (rfl)
def kCallK (Γ : Gm) (E : DX → DEnv → Prop) (f : Nat) (ks : List Str) (pm : List Nat) (Q : D → DEnv → Prop) : List D → DEnv → Prop := fun ds ρ1 => ds.length = ks.length ∧ Γ.f f (pm.filterMap fun j => ds[j]?) (kQ Q ρ1) (kEx E ρ1)
theorem k29 {Γ : Gm} {E : DX → DEnv → Prop} {f : Nat} {ks : List Str} {pm : List Nat} {Q : D → DEnv → Prop} : kCallK Γ E f ks pm Q ds ρ1 = (ds.length = ks.length ∧ Γ.f f (pm.filterMap fun j => ds[j]?) (kQ Q ρ1) (kEx E ρ1)) := rr (rfl)
def kDsp (ks : List Str) (ρ : DEnv) (Q : D → DEnv → Prop) : List D → DEnv → Prop := fun ds ρ1 => ρ1 = ρ ∧ Q (.dct (List.zipWith (fun k d => (Sum.inr k, d)) ks ds)) ρ
theorem k30 {ks : List Str} {ρ : DEnv} {Q : D → DEnv → Prop} : kDsp ks ρ Q ds ρ1 = (ρ1 = ρ ∧ Q (.dct (List.zipWith (fun k d => (Sum.inr k, d)) ks ds)) ρ) := rr (rfl)
def kBi (f : Bi) (Q : D → DEnv → Prop) : List D → DEnv → Prop := fun ds ρ1 => biW f ds (kQ Q ρ1)
theorem k31 {f : Bi} {Q : D → DEnv → Prop} : kBi f Q ds ρ1 = (biW f ds (kQ Q ρ1)) := rr (rfl)
def kIsT (ts : List String) (Q : D → DEnv → Prop) : D → DEnv → Prop := fun d ρ1 => ∃ t, tyD d = some t ∧ Q (.bl (ts.any (subTy t))) ρ1
theorem k32 {ts : List String} {Q : D → DEnv → Prop} : kIsT ts Q .non ρ1 = Q (.bl (ts.any (subTy "NoneType"))) ρ1 := rr (by unfold kIsT; simp [tyD])
theorem k33 {ts : List String} {Q : D → DEnv → Prop} : kIsT ts Q (.bl u) ρ1 = Q (.bl (ts.any (subTy "bool"))) ρ1 := rr (by unfold kIsT; simp [tyD])
theorem k34 {ts : List String} {Q : D → DEnv → Prop} : kIsT ts Q (.int u) ρ1 = Q (.bl (ts.any (subTy "int"))) ρ1 := rr (by unfold kIsT; simp [tyD])
theorem k35 {ts : List String} {Q : D → DEnv → Prop} : kIsT ts Q (.str u) ρ1 = Q (.bl (ts.any (subTy "str"))) ρ1 := rr (by unfold kIsT; simp [tyD])
theorem k36 {ts : List String} {Q : D → DEnv → Prop} : kIsT ts Q (.tup u) ρ1 = Q (.bl (ts.any (subTy "tuple"))) ρ1 := rr (by unfold kIsT; simp [tyD])
theorem k37 {ts : List String} {Q : D → DEnv → Prop} : kIsT ts Q (.lst u) ρ1 = Q (.bl (ts.any (subTy "list"))) ρ1 := rr (by unfold kIsT; simp [tyD])
theorem k38 {ts : List String} {Q : D → DEnv → Prop} : kIsT ts Q (.dct u) ρ1 = Q (.bl (ts.any (subTy "dict"))) ρ1 := rr (by unfold kIsT; simp [tyD])
def kMe2 (m : Me) (z : Str) (Q : D → DEnv → Prop) : List D → DEnv → Prop := fun ds ρ2 => meW m (.str z) ds (kQ Q ρ2)
theorem k39 {m : Me} {z : Str} {Q : D → DEnv → Prop} : kMe2 m z Q ds ρ2 = (meW m (.str z) ds (kQ Q ρ2)) := rr (rfl)
def kMe1 (Γ : Gm) (E : DX → DEnv → Prop) (m : Me) (l : Exs) (Q : D → DEnv → Prop) : D → DEnv → Prop := fun x ρ1 => match x with | .str z => wA Γ E l ρ1 (kMe2 m z Q) | _ => False
theorem k40 {Γ : Gm} {E : DX → DEnv → Prop} {m : Me} {l : Exs} {Q : D → DEnv → Prop} : kMe1 Γ E m l Q (.str z) ρ1 = (wA Γ E l ρ1 (kMe2 m z Q)) := rr (rfl)
def kLc3 (ρ1 : DEnv) (Q : D → DEnv → Prop) : List D → Prop := fun acc => Q (.lst acc) ρ1
theorem k41 {ρ1 : DEnv} {Q : D → DEnv → Prop} : kLc3 ρ1 Q acc = (Q (.lst acc) ρ1) := rr (rfl)
def kLc2 (Γ : Gm) (g : Tg) (t : Exs) (e : Ex) (ρ1 : DEnv) (Q : D → DEnv → Prop) : List D → Prop := fun items => lcL (wG g) (wTs Γ (fun _ _ => False) t) (wE Γ (fun _ _ => False) e) (wipeD ρ1 g.slots) (kLc3 ρ1 Q) items []
theorem k42 {Γ : Gm} {g : Tg} {t : Exs} {e : Ex} {ρ1 : DEnv} {Q : D → DEnv → Prop} : kLc2 Γ g t e ρ1 Q items = (lcL (wG g) (wTs Γ (fun _ _ => False) t) (wE Γ (fun _ _ => False) e) (wipeD ρ1 g.slots) (kLc3 ρ1 Q) items []) := rr (rfl)
def kLc1 (Γ : Gm) (g : Tg) (k : ItK) (t : Exs) (e : Ex) (Q : D → DEnv → Prop) : List D → DEnv → Prop := fun ds ρ1 => itW k ds (kLc2 Γ g t e ρ1 Q)
theorem k43 {Γ : Gm} {g : Tg} {k : ItK} {t : Exs} {e : Ex} {Q : D → DEnv → Prop} : kLc1 Γ g k t e Q ds ρ1 = (itW k ds (kLc2 Γ g t e ρ1 Q)) := rr (rfl)
def kDg2 (x : D) (Q : D → DEnv → Prop) : D → DEnv → Prop := fun y ρ2 => match x with | .dct l => ∃ j z, keyD y = some j ∧ getK l j = some z ∧ Q z ρ2 | _ => False
theorem k44  {Q : D → DEnv → Prop} : kDg2 (.dct l) Q y ρ2 = (∃ j z, keyD y = some j ∧ getK l j = some z ∧ Q z ρ2) := rr (rfl)
def kDg1 (Γ : Gm) (E : DX → DEnv → Prop) (k : Ex) (Q : D → DEnv → Prop) : D → DEnv → Prop := fun x ρ1 => wE Γ E k ρ1 (kDg2 x Q)
theorem k45 {Γ : Gm} {E : DX → DEnv → Prop} {k : Ex} {Q : D → DEnv → Prop} : kDg1 Γ E k Q x ρ1 = (wE Γ E k ρ1 (kDg2 x Q)) := rr (rfl)
def kDin2 (y : D) (Q : D → DEnv → Prop) : D → DEnv → Prop := fun x ρ2 => match x with | .dct l => ∃ j, keyD y = some j ∧ Q (.bl (getK l j).isSome) ρ2 | _ => False
theorem k46 {y : D} {Q : D → DEnv → Prop} : kDin2 y Q (.dct l) ρ2 = (∃ j, keyD y = some j ∧ Q (.bl (getK l j).isSome) ρ2) := rr (rfl)
def kDin1 (Γ : Gm) (E : DX → DEnv → Prop) (d : Ex) (Q : D → DEnv → Prop) : D → DEnv → Prop := fun y ρ1 => wE Γ E d ρ1 (kDin2 y Q)
theorem k47 {Γ : Gm} {E : DX → DEnv → Prop} {d : Ex} {Q : D → DEnv → Prop} : kDin1 Γ E d Q y ρ1 = (wE Γ E d ρ1 (kDin2 y Q)) := rr (rfl)
def kDnin2 (y : D) (Q : D → DEnv → Prop) : D → DEnv → Prop := fun x ρ2 => match x with | .dct l => ∃ j, keyD y = some j ∧ Q (.bl (!(getK l j).isSome)) ρ2 | _ => False
theorem k48 {y : D} {Q : D → DEnv → Prop} : kDnin2 y Q (.dct l) ρ2 = (∃ j, keyD y = some j ∧ Q (.bl (!(getK l j).isSome)) ρ2) := rr (rfl)
def kDnin1 (Γ : Gm) (E : DX → DEnv → Prop) (d : Ex) (Q : D → DEnv → Prop) : D → DEnv → Prop := fun y ρ1 => wE Γ E d ρ1 (kDnin2 y Q)
theorem k49 {Γ : Gm} {E : DX → DEnv → Prop} {d : Ex} {Q : D → DEnv → Prop} : kDnin1 Γ E d Q y ρ1 = (wE Γ E d ρ1 (kDnin2 y Q)) := rr (rfl)
def kTin2 (y : D) (Q : Bool → DEnv → Prop) : D → DEnv → Prop := fun x ρ2 => match x with | .dct l => ∃ j, keyD y = some j ∧ Q (getK l j).isSome ρ2 | _ => False
theorem k50 {y : D} {Q : Bool → DEnv → Prop} : kTin2 y Q (.dct l) ρ2 = (∃ j, keyD y = some j ∧ Q (getK l j).isSome ρ2) := rr (rfl)
def kTin1 (Γ : Gm) (E : DX → DEnv → Prop) (d : Ex) (Q : Bool → DEnv → Prop) : D → DEnv → Prop := fun y ρ1 => wE Γ E d ρ1 (kTin2 y Q)
theorem k51 {Γ : Gm} {E : DX → DEnv → Prop} {d : Ex} {Q : Bool → DEnv → Prop} : kTin1 Γ E d Q y ρ1 = (wE Γ E d ρ1 (kTin2 y Q)) := rr (rfl)
def kTnin2 (y : D) (Q : Bool → DEnv → Prop) : D → DEnv → Prop := fun x ρ2 => match x with | .dct l => ∃ j, keyD y = some j ∧ Q (!(getK l j).isSome) ρ2 | _ => False
theorem k52 {y : D} {Q : Bool → DEnv → Prop} : kTnin2 y Q (.dct l) ρ2 = (∃ j, keyD y = some j ∧ Q (!(getK l j).isSome) ρ2) := rr (rfl)
def kTnin1 (Γ : Gm) (E : DX → DEnv → Prop) (d : Ex) (Q : Bool → DEnv → Prop) : D → DEnv → Prop := fun y ρ1 => wE Γ E d ρ1 (kTnin2 y Q)
theorem k53 {Γ : Gm} {E : DX → DEnv → Prop} {d : Ex} {Q : Bool → DEnv → Prop} : kTnin1 Γ E d Q y ρ1 = (wE Γ E d ρ1 (kTnin2 y Q)) := rr (rfl)
def kRv (Q : D → DEnv → Prop) : D → DEnv → Prop := fun x ρ1 => rvW x (kQ Q ρ1)
theorem k54 {Q : D → DEnv → Prop} : kRv Q x ρ1 = (rvW x (kQ Q ρ1)) := rr (rfl)
def kNs (Q : D → DEnv → Prop) : D → DEnv → Prop := fun x ρ1 => nsW x (kQ Q ρ1)
theorem k55 {Q : D → DEnv → Prop} : kNs Q x ρ1 = (nsW x (kQ Q ρ1)) := rr (rfl)
def kTrv (Q : D → DEnv → Prop) : D → DEnv → Prop := fun x ρ1 => match x with | .lst l => Q (.tup l.reverse) ρ1 | _ => False
theorem k56 {Q : D → DEnv → Prop} : kTrv Q (.lst l) ρ1 = (Q (.tup l.reverse) ρ1) := rr (rfl)
def kLk (ρ : DEnv) (Q : D → DEnv → Prop) : List D → Prop := fun acc => (∀ y ∈ acc, Pl y) ∧ Q (.lst acc) ρ
theorem k57 {ρ : DEnv} {Q : D → DEnv → Prop} : kLk ρ Q acc = ((∀ y ∈ acc, Pl y) ∧ Q (.lst acc) ρ) := rr (rfl)
def kTnot (Q : Bool → DEnv → Prop) : Bool → DEnv → Prop := fun k ρ1 => Q (!k) ρ1
theorem k58 {Q : Bool → DEnv → Prop} : kTnot Q k ρ1 = (Q (!k) ρ1) := rr (rfl)
def kTand (Γ : Gm) (E : DX → DEnv → Prop) (l : Exs) (Q : Bool → DEnv → Prop) : Bool → DEnv → Prop := fun k ρ1 => if k = true then wTall Γ E l ρ1 Q else Q false ρ1
theorem k59 {Γ : Gm} {E : DX → DEnv → Prop} {l : Exs} {Q : Bool → DEnv → Prop} : kTand Γ E l Q k ρ1 = (if k = true then wTall Γ E l ρ1 Q else Q false ρ1) := rr (rfl)
def kTor (Γ : Gm) (E : DX → DEnv → Prop) (l : Exs) (Q : Bool → DEnv → Prop) : Bool → DEnv → Prop := fun k ρ1 => if k = true then Q true ρ1 else wTany Γ E l ρ1 Q
theorem k60 {Γ : Gm} {E : DX → DEnv → Prop} {l : Exs} {Q : Bool → DEnv → Prop} : kTor Γ E l Q k ρ1 = (if k = true then Q true ρ1 else wTany Γ E l ρ1 Q) := rr (rfl)
def kTc2 (o : COp) (x : D) (Q : Bool → DEnv → Prop) : D → DEnv → Prop := fun y ρ2 => cmpW o x y (kTb Q ρ2)
theorem k61 {o : COp} {x : D} {Q : Bool → DEnv → Prop} : kTc2 o x Q y ρ2 = (cmpW o x y (kTb Q ρ2)) := rr (rfl)
def kTc1 (Γ : Gm) (E : DX → DEnv → Prop) (o : COp) (b : Ex) (Q : Bool → DEnv → Prop) : D → DEnv → Prop := fun x ρ1 => wE Γ E b ρ1 (kTc2 o x Q)
theorem k62 {Γ : Gm} {E : DX → DEnv → Prop} {o : COp} {b : Ex} {Q : Bool → DEnv → Prop} : kTc1 Γ E o b Q x ρ1 = (wE Γ E b ρ1 (kTc2 o x Q)) := rr (rfl)
def kT24 (p : COp) (y : D) (Q : Bool → DEnv → Prop) : D → DEnv → Prop := fun z ρ3 => cmpW p y z (kTb Q ρ3)
theorem k63 {p : COp} {y : D} {Q : Bool → DEnv → Prop} : kT24 p y Q z ρ3 = (cmpW p y z (kTb Q ρ3)) := rr (rfl)
def kT23 (Γ : Gm) (E : DX → DEnv → Prop) (p : COp) (y : D) (c : Ex) (Q : Bool → DEnv → Prop) (ρ2 : DEnv) : Bool → Prop := fun k => if k = true then wE Γ E c ρ2 (kT24 p y Q) else Q false ρ2
theorem k64 {Γ : Gm} {E : DX → DEnv → Prop} {p : COp} {y : D} {c : Ex} {Q : Bool → DEnv → Prop} {ρ2 : DEnv} : kT23 Γ E p y c Q ρ2 k = (if k = true then wE Γ E c ρ2 (kT24 p y Q) else Q false ρ2) := rr (rfl)
def kT22 (Γ : Gm) (E : DX → DEnv → Prop) (o p : COp) (x : D) (c : Ex) (Q : Bool → DEnv → Prop) : D → DEnv → Prop := fun y ρ2 => cmpW o x y (kT23 Γ E p y c Q ρ2)
theorem k65 {Γ : Gm} {E : DX → DEnv → Prop} {o p : COp} {x : D} {c : Ex} {Q : Bool → DEnv → Prop} : kT22 Γ E o p x c Q y ρ2 = (cmpW o x y (kT23 Γ E p y c Q ρ2)) := rr (rfl)
def kT21 (Γ : Gm) (E : DX → DEnv → Prop) (o p : COp) (b c : Ex) (Q : Bool → DEnv → Prop) : D → DEnv → Prop := fun x ρ1 => wE Γ E b ρ1 (kT22 Γ E o p x c Q)
theorem k66 {Γ : Gm} {E : DX → DEnv → Prop} {o p : COp} {b c : Ex} {Q : Bool → DEnv → Prop} : kT21 Γ E o p b c Q x ρ1 = (wE Γ E b ρ1 (kT22 Γ E o p x c Q)) := rr (rfl)
def kTr (Q : Bool → DEnv → Prop) : D → DEnv → Prop := fun x ρ1 => truW x (kTb Q ρ1)
theorem k67 {Q : Bool → DEnv → Prop} : kTr Q x ρ1 = (truW x (kTb Q ρ1)) := rr (rfl)
def kA2 (x : D) (Q : List D → DEnv → Prop) : List D → DEnv → Prop := fun xs ρ2 => Q (x :: xs) ρ2
theorem k68 {x : D} {Q : List D → DEnv → Prop} : kA2 x Q xs ρ2 = (Q (x :: xs) ρ2) := rr (rfl)
def kA1 (Γ : Gm) (E : DX → DEnv → Prop) (l : Exs) (Q : List D → DEnv → Prop) : D → DEnv → Prop := fun x ρ1 => wA Γ E l ρ1 (kA2 x Q)
theorem k69 {Γ : Gm} {E : DX → DEnv → Prop} {l : Exs} {Q : List D → DEnv → Prop} : kA1 Γ E l Q x ρ1 = (wA Γ E l ρ1 (kA2 x Q)) := rr (rfl)
def kO1 (Q : Option Int → DEnv → Prop) : D → DEnv → Prop := fun x ρ1 => match x with | .int i => Q (some i) ρ1 | _ => False
theorem k70 {Q : Option Int → DEnv → Prop} : kO1 Q (.int i) ρ1 = (Q (some i) ρ1) := rr (rfl)
def kAsg (g : Tg) (N : DEnv → Prop) : D → DEnv → Prop := fun d ρ1 => wG g d ρ1 N
theorem k71 {g : Tg} {N : DEnv → Prop} : kAsg g N d ρ1 = (wG g d ρ1 N) := rr (rfl)
def kOwn (i : Nat) (N : DEnv → Prop) : D → DEnv → Prop := fun d ρ1 => match d with | .lst l => N (ρ1.set i (.own none l)) | .dct l => N (ρ1.set i (.ownK none l)) | _ => False
theorem k72 {i : Nat} {N : DEnv → Prop} : kOwn i N (.lst l) ρ1 = (N (ρ1.set i (.own none l))) := rr (rfl)
theorem k73 {i : Nat} {N : DEnv → Prop} : kOwn i N (.dct l) ρ1 = (N (ρ1.set i (.ownK none l))) := rr (rfl)
def kLcs (fz : Bool) (i : Nat) (N : DEnv → Prop) : D → DEnv → Prop := fun d ρ1 => match d with | .lst l => N (ρ1.set i (if fz = true then .sh (.lst l) else .own none l)) | _ => False
theorem k74 {fz : Bool} {i : Nat} {N : DEnv → Prop} : kLcs fz i N (.lst l) ρ1 = (N (ρ1.set i (if fz = true then .sh (.lst l) else .own none l))) := rr (rfl)
def kAug2 (i : Nat) (ρ1 : DEnv) (N : DEnv → Prop) : D → Prop := fun d => N (ρ1.set i (.sh d))
theorem k75 {i : Nat} {ρ1 : DEnv} {N : DEnv → Prop} : kAug2 i ρ1 N d = (N (ρ1.set i (.sh d))) := rr (rfl)
def kAug (o : BOp) (x : D) (i : Nat) (N : DEnv → Prop) : D → DEnv → Prop := fun y ρ1 => augW o x y (kAug2 i ρ1 N)
theorem k76 {o : BOp} {x : D} {i : Nat} {N : DEnv → Prop} : kAug o x i N y ρ1 = (augW o x y (kAug2 i ρ1 N)) := rr (rfl)
def kRet (e : Ex) (F : Bool) (R : D → DEnv → Prop) : D → DEnv → Prop := fun d ρ1 => (F = true → md e = .fr) ∧ R d ρ1
theorem kr1 {e : Ex}  {R : D → DEnv → Prop} : kRet e false R d ρ1 = R d ρ1 := rr (by unfold kRet; simp)
theorem kr2 {e : Ex}  {R : D → DEnv → Prop} : kRet e true R d ρ1 = (md e = .fr ∧ R d ρ1) := rr (by unfold kRet; simp)
def kNx (N : DEnv → Prop) : D → DEnv → Prop := fun _ ρ1 => N ρ1
theorem k77 {N : DEnv → Prop} : kNx N u0 ρ1 = (N ρ1) := rr (rfl)
def kExO2 (p : Option Addr) (i : Nat) (ρ1 : DEnv) (N : DEnv → Prop) : D → D → Prop := fun _ d' => (slO p d').isOwn = true ∧ N (ρ1.set i (slO p d'))
theorem k78 {p : Option Addr} {i : Nat} {ρ1 : DEnv} {N : DEnv → Prop} : kExO2 p i ρ1 N u0 d' = ((slO p d').isOwn = true ∧ N (ρ1.set i (slO p d'))) := rr (rfl)
def kExO (Γ : Gm) (f i : Nat) (s : Option Sl) (p : Option Addr) (d0 : D) (N : DEnv → Prop) : List D → DEnv → Prop := fun ds ρ1 => ρ1[i]? = s ∧ Γ.o f d0 ds (kExO2 p i ρ1 N)
theorem k79 {Γ : Gm} {f i : Nat} {s : Option Sl} {p : Option Addr} {d0 : D} {N : DEnv → Prop} : kExO Γ f i s p d0 N ds ρ1 = (ρ1[i]? = s ∧ Γ.o f d0 ds (kExO2 p i ρ1 N)) := rr (rfl)
def kApp (i : Nat) (p : Option Addr) (l : List D) (N : DEnv → Prop) : D → DEnv → Prop := fun d ρ1 => ρ1[i]? = some (.own p l) ∧ l.length < sizeLine ∧ N (ρ1.set i (.own p (l ++ [d])))
theorem k80 {i : Nat} {p : Option Addr} {l : List D} {N : DEnv → Prop} : kApp i p l N d ρ1 = (ρ1[i]? = some (.own p l) ∧ l.length < sizeLine ∧ N (ρ1.set i (.own p (l ++ [d])))) := rr (rfl)
def kExt (i : Nat) (p : Option Addr) (l : List D) (N : DEnv → Prop) : D → DEnv → Prop := fun d ρ1 => ρ1[i]? = some (.own p l) ∧ match d with | .lst m => l.length + m.length ≤ sizeLine ∧ N (ρ1.set i (.own p (l ++ m))) | _ => False
theorem k81 {i : Nat} {p : Option Addr} {l : List D} {N : DEnv → Prop} : kExt i p l N (.lst m) ρ1 = (ρ1[i]? = some (.own p l) ∧ l.length + m.length ≤ sizeLine ∧ N (ρ1.set i (.own p (l ++ m)))) := rr (rfl)
def kPut2 (i : Nat) (p : Option Addr) (l : List (Key × D)) (d : D) (ρ1 : DEnv) (N : DEnv → Prop) : D → DEnv → Prop := fun y ρ2 => ρ1[i]? = some (.ownK p l) ∧ ρ2[i]? = some (.ownK p l) ∧ ∃ j, keyD y = some j ∧ l.length < sizeLine ∧ N (ρ2.set i (.ownK p (putD l j d)))
theorem k82 {i : Nat} {p : Option Addr} {l : List (Key × D)} {d : D} {ρ1 : DEnv} {N : DEnv → Prop} : kPut2 i p l d ρ1 N y ρ2 = (ρ1[i]? = some (.ownK p l) ∧ ρ2[i]? = some (.ownK p l) ∧ ∃ j, keyD y = some j ∧ l.length < sizeLine ∧ N (ρ2.set i (.ownK p (putD l j d)))) := rr (rfl)
def kPut1 (Γ : Gm) (E : DX → DEnv → Prop) (i : Nat) (k : Ex) (p : Option Addr) (l : List (Key × D)) (N : DEnv → Prop) : D → DEnv → Prop := fun d ρ1 => wE Γ E k ρ1 (kPut2 i p l d ρ1 N)
theorem k83 {Γ : Gm} {E : DX → DEnv → Prop} {i : Nat} {k : Ex} {p : Option Addr} {l : List (Key × D)} {N : DEnv → Prop} : kPut1 Γ E i k p l N d ρ1 = (wE Γ E k ρ1 (kPut2 i p l d ρ1 N)) := rr (rfl)
def kSet2 (i : Nat) (p : Option Addr) (l : List D) (d : D) (ρ1 : DEnv) (N : DEnv → Prop) : D → DEnv → Prop := fun y ρ2 => ρ1[i]? = some (.own p l) ∧ ρ2[i]? = some (.own p l) ∧ match y with | .int n => ∃ j, ixN l.length n = some j ∧ N (ρ2.set i (.own p (l.set j d))) | _ => False
theorem k84 {i : Nat} {p : Option Addr} {l : List D} {d : D} {ρ1 : DEnv} {N : DEnv → Prop} : kSet2 i p l d ρ1 N (.int n) ρ2 = (ρ1[i]? = some (.own p l) ∧ ρ2[i]? = some (.own p l) ∧ ∃ j, ixN l.length n = some j ∧ N (ρ2.set i (.own p (l.set j d)))) := rr (rfl)
def kSet1 (Γ : Gm) (E : DX → DEnv → Prop) (i : Nat) (k : Ex) (p : Option Addr) (l : List D) (N : DEnv → Prop) : D → DEnv → Prop := fun d ρ1 => wE Γ E k ρ1 (kSet2 i p l d ρ1 N)
theorem k85 {Γ : Gm} {E : DX → DEnv → Prop} {i : Nat} {k : Ex} {p : Option Addr} {l : List D} {N : DEnv → Prop} : kSet1 Γ E i k p l N d ρ1 = (wE Γ E k ρ1 (kSet2 i p l d ρ1 N)) := rr (rfl)
def kIf (Γ : Gm) (E : DX → DEnv → Prop) (a b : Sxs) (Z : EndD) : Bool → DEnv → Prop := fun k ρ1 => if k = true then wSs Γ E a Z ρ1 else wSs Γ E b Z ρ1
theorem k86 {Γ : Gm} {E : DX → DEnv → Prop} {a b : Sxs} {Z : EndD} : kIf Γ E a b Z k ρ1 = (if k = true then wSs Γ E a Z ρ1 else wSs Γ E b Z ρ1) := rr (rfl)
def kFor2 (Γ : Gm) (E : DX → DEnv → Prop) (g : Tg) (b : Sxs) (Z : EndD) (ρ1 : DEnv) : List D → Prop := fun items => forL (wG g) (wSs Γ E b) Z items ρ1
theorem k87 {Γ : Gm} {E : DX → DEnv → Prop} {g : Tg} {b : Sxs} {Z : EndD} {ρ1 : DEnv} : kFor2 Γ E g b Z ρ1 items = (forL (wG g) (wSs Γ E b) Z items ρ1) := rr (rfl)
def kFor1 (Γ : Gm) (E : DX → DEnv → Prop) (g : Tg) (k : ItK) (b : Sxs) (Z : EndD) : List D → DEnv → Prop := fun ds ρ1 => itW k ds (kFor2 Γ E g b Z ρ1)
theorem k88 {Γ : Gm} {E : DX → DEnv → Prop} {g : Tg} {k : ItK} {b : Sxs} {Z : EndD} : kFor1 Γ E g k b Z ds ρ1 = (itW k ds (kFor2 Γ E g b Z ρ1)) := rr (rfl)
def kRse (Γ : Gm) (E : DX → DEnv → Prop) (c : Nat) : List D → DEnv → Prop := fun ds ρ1 => ∃ fs, Γ.cls c = some fs ∧ ds.length = fs.length ∧ E (c, (fs.zip ds).reverse) ρ1
theorem k89 {Γ : Gm} {E : DX → DEnv → Prop} {c : Nat} : kRse Γ E c ds ρ1 = (∃ fs, Γ.cls c = some fs ∧ ds.length = fs.length ∧ E (c, (fs.zip ds).reverse) ρ1) := rr (rfl)
def kIns2 (i : Nat) (p : Option Addr) (l : List D) (y : D) (N : DEnv → Prop) : D → DEnv → Prop := fun d ρ2 => ρ2[i]? = some (.own p l) ∧ l.length < sizeLine ∧ match y with | .int n => 0 ≤ n ∧ n < 2 ^ 62 ∧ N (ρ2.set i (.own p (l.take n.toNat ++ [d] ++ l.drop n.toNat))) | _ => False
theorem k90 {i : Nat} {p : Option Addr} {l : List D}  {N : DEnv → Prop} : kIns2 i p l (.int n) N d ρ2 = (ρ2[i]? = some (.own p l) ∧ l.length < sizeLine ∧ 0 ≤ n ∧ n < 2 ^ 62 ∧ N (ρ2.set i (.own p (l.take n.toNat ++ [d] ++ l.drop n.toNat)))) := rr (rfl)
def kIns1 (Γ : Gm) (E : DX → DEnv → Prop) (i : Nat) (e : Ex) (p : Option Addr) (l : List D) (N : DEnv → Prop) : D → DEnv → Prop := fun y ρ1 => wE Γ E e ρ1 (kIns2 i p l y N)
theorem k91 {Γ : Gm} {E : DX → DEnv → Prop} {i : Nat} {e : Ex} {p : Option Addr} {l : List D} {N : DEnv → Prop} : kIns1 Γ E i e p l N y ρ1 = (wE Γ E e ρ1 (kIns2 i p l y N)) := rr (rfl)
def kPar2 (i j : Nat) (x : D) (N : DEnv → Prop) : D → DEnv → Prop := fun y ρ2 => N ((ρ2.set i (.sh x)).set j (.sh y))
theorem k92 {i j : Nat} {x : D} {N : DEnv → Prop} : kPar2 i j x N y ρ2 = (N ((ρ2.set i (.sh x)).set j (.sh y))) := rr (rfl)
def kPar1 (Γ : Gm) (E : DX → DEnv → Prop) (i j : Nat) (b : Ex) (N : DEnv → Prop) : D → DEnv → Prop := fun x ρ1 => wE Γ E b ρ1 (kPar2 i j x N)
theorem k93 {Γ : Gm} {E : DX → DEnv → Prop} {i j : Nat} {b : Ex} {N : DEnv → Prop} : kPar1 Γ E i j b N x ρ1 = (wE Γ E b ρ1 (kPar2 i j x N)) := rr (rfl)
def kH (Γ : Gm) (E : DX → DEnv → Prop) (h : Hds) (Z : EndD) : DX → DEnv → Prop := fun dx ρ1 => wH Γ E h dx Z ρ1
theorem k94 {Γ : Gm} {E : DX → DEnv → Prop} {h : Hds} {Z : EndD} : kH Γ E h Z dx ρ1 = (wH Γ E h dx Z ρ1) := rr (rfl)
def kGs (ts : List Tg) (l : List D) (Q : DEnv → Prop) : DEnv → Prop := fun ρ1 => wGs ts l ρ1 Q
theorem k95 {ts : List Tg} {l : List D} {Q : DEnv → Prop} : kGs ts l Q ρ1 = (wGs ts l ρ1 Q) := rr (rfl)
def kWk (Q : D → DEnv → Prop) : D → DEnv → Prop := fun d ρ1 => ∃ d', (∀ K H v, Rep K H d v → Rep K H d' v) ∧ Q d' ρ1
theorem k96 {Q : D → DEnv → Prop} : kWk Q d ρ1 = (∃ d', (∀ K H v, Rep K H d v → Rep K H d' v) ∧ Q d' ρ1) := rr (rfl)
def sV (i : Nat) (ρ : DEnv) (Q : D → DEnv → Prop) : Option Sl → Prop := fun s => match s with | some (.sh d) => Q d ρ | some (.own _ l) => Q (.lst l) (ρ.set i (.sh (.lst l))) | some (.ownK _ l) => Q (.dct l) (ρ.set i (.sh (.dct l))) | _ => False
theorem k97 {i : Nat} {ρ : DEnv} {Q : D → DEnv → Prop} : sV i ρ Q (some (.sh d)) = (Q d ρ) := rr (rfl)
theorem k98 {i : Nat} {ρ : DEnv} {Q : D → DEnv → Prop} : sV i ρ Q (some (.own u0 l)) = (Q (.lst l) (ρ.set i (.sh (.lst l)))) := rr (rfl)
theorem k99 {i : Nat} {ρ : DEnv} {Q : D → DEnv → Prop} : sV i ρ Q (some (.ownK u0 l)) = (Q (.dct l) (ρ.set i (.sh (.dct l)))) := rr (rfl)
def sB (ρ : DEnv) (Q : D → DEnv → Prop) : Option Sl → Prop := fun s => match s with | some (.sh d) => Q d ρ | some (.own _ l) => Q (.lst l) ρ | some (.ownK _ l) => Q (.dct l) ρ | _ => False
theorem k101 {ρ : DEnv} {Q : D → DEnv → Prop} : sB ρ Q (some (.sh d)) = (Q d ρ) := rr (rfl)
theorem k102 {ρ : DEnv} {Q : D → DEnv → Prop} : sB ρ Q (some (.own u0 l)) = (Q (.lst l) ρ) := rr (rfl)
theorem k103 {ρ : DEnv} {Q : D → DEnv → Prop} : sB ρ Q (some (.ownK u0 l)) = (Q (.dct l) ρ) := rr (rfl)
def sFr (Γ : Gm) (E : DX → DEnv → Prop) (i : Nat) (e : Ex) (ρ : DEnv) (Q : D → DEnv → Prop) : Option Sl → Prop := fun s => match s with | some (.own _ l) => wE Γ E e (ρ.set i (.sh (.lst l))) Q | some (.ownK _ l) => wE Γ E e (ρ.set i (.sh (.dct l))) Q | _ => wE Γ E e ρ Q
theorem k105 {Γ : Gm} {E : DX → DEnv → Prop} {i : Nat} {e : Ex} {ρ : DEnv} {Q : D → DEnv → Prop} : sFr Γ E i e ρ Q (some (.own u0 l)) = (wE Γ E e (ρ.set i (.sh (.lst l))) Q) := rr (rfl)
theorem k106 {Γ : Gm} {E : DX → DEnv → Prop} {i : Nat} {e : Ex} {ρ : DEnv} {Q : D → DEnv → Prop} : sFr Γ E i e ρ Q (some (.ownK u0 l)) = (wE Γ E e (ρ.set i (.sh (.dct l))) Q) := rr (rfl)
theorem k107 {Γ : Gm} {E : DX → DEnv → Prop} {i : Nat} {e : Ex} {ρ : DEnv} {Q : D → DEnv → Prop} : sFr Γ E i e ρ Q (some (.sh u1)) = (wE Γ E e ρ Q) := rr (rfl)
theorem k108 {Γ : Gm} {E : DX → DEnv → Prop} {i : Nat} {e : Ex} {ρ : DEnv} {Q : D → DEnv → Prop} : sFr Γ E i e ρ Q (some .un) = (wE Γ E e ρ Q) := rr (rfl)
def sMv (i : Nat) (ρ : DEnv) (Q : D → DEnv → Prop) : Option Sl → Prop := fun s => match s with | some (.own _ l) => Q (.lst l) (ρ.set i .un) | some (.ownK _ l) => Q (.dct l) (ρ.set i .un) | _ => False
theorem k109 {i : Nat} {ρ : DEnv} {Q : D → DEnv → Prop} : sMv i ρ Q (some (.own u0 l)) = (Q (.lst l) (ρ.set i .un)) := rr (rfl)
theorem k110 {i : Nat} {ρ : DEnv} {Q : D → DEnv → Prop} : sMv i ρ Q (some (.ownK u0 l)) = (Q (.dct l) (ρ.set i .un)) := rr (rfl)
def sFld (Γ : Gm) (f : Str) (ρ : DEnv) (Q : D → DEnv → Prop) : Option Sl → Prop := fun s => match s with | some (.exc c l) => ∃ fs d, Γ.cls c = some fs ∧ f ∈ fs ∧ l.lookup f = some d ∧ Q d ρ | _ => False
theorem k112 {Γ : Gm} {f : Str} {ρ : DEnv} {Q : D → DEnv → Prop} : sFld Γ f ρ Q (some (.exc c l)) = (∃ fs d, Γ.cls c = some fs ∧ f ∈ fs ∧ l.lookup f = some d ∧ Q d ρ) := rr (rfl)
def sIsE (Γ : Gm) (x : Str) (ρ : DEnv) (Q : D → DEnv → Prop) : Option Sl → Prop := fun s => match s with | some (.exc c _) => ∃ b, Γ.sub c x = some b ∧ (Γ.cls c).isSome = true ∧ Q (.bl b) ρ | _ => False
theorem k114 {Γ : Gm} {x : Str} {ρ : DEnv} {Q : D → DEnv → Prop} : sIsE Γ x ρ Q (some (.exc c u0)) = (∃ b, Γ.sub c x = some b ∧ (Γ.cls c).isSome = true ∧ Q (.bl b) ρ) := rr (rfl)
def sAug (Γ : Gm) (E : DX → DEnv → Prop) (i : Nat) (o : BOp) (e : Ex) (ρ : DEnv) (N : DEnv → Prop) : Option Sl → Prop := fun s => match s with | some (.sh x) => wE Γ E e ρ (kAug o x i N) | _ => False
theorem k116 {Γ : Gm} {E : DX → DEnv → Prop} {i : Nat} {o : BOp} {e : Ex} {ρ : DEnv} {N : DEnv → Prop} : sAug Γ E i o e ρ N (some (.sh x)) = (wE Γ E e ρ (kAug o x i N)) := rr (rfl)
def sApp (Γ : Gm) (E : DX → DEnv → Prop) (i : Nat) (e : Ex) (ρ : DEnv) (N : DEnv → Prop) : Option Sl → Prop := fun s => match s with | some (.own p l) => wE Γ E e ρ (kApp i p l N) | _ => False
theorem k118 {Γ : Gm} {E : DX → DEnv → Prop} {i : Nat} {e : Ex} {ρ : DEnv} {N : DEnv → Prop} : sApp Γ E i e ρ N (some (.own p l)) = (wE Γ E e ρ (kApp i p l N)) := rr (rfl)
def sExt (Γ : Gm) (E : DX → DEnv → Prop) (i : Nat) (e : Ex) (ρ : DEnv) (N : DEnv → Prop) : Option Sl → Prop := fun s => match s with | some (.own p l) => wE Γ E e ρ (kExt i p l N) | _ => False
theorem k120 {Γ : Gm} {E : DX → DEnv → Prop} {i : Nat} {e : Ex} {ρ : DEnv} {N : DEnv → Prop} : sExt Γ E i e ρ N (some (.own p l)) = (wE Γ E e ρ (kExt i p l N)) := rr (rfl)
def sPut (Γ : Gm) (E : DX → DEnv → Prop) (i : Nat) (k e : Ex) (ρ : DEnv) (N : DEnv → Prop) : Option Sl → Prop := fun s => match s with | some (.ownK p l) => wE Γ E e ρ (kPut1 Γ E i k p l N) | _ => False
theorem k122 {Γ : Gm} {E : DX → DEnv → Prop} {i : Nat} {k e : Ex} {ρ : DEnv} {N : DEnv → Prop} : sPut Γ E i k e ρ N (some (.ownK p l)) = (wE Γ E e ρ (kPut1 Γ E i k p l N)) := rr (rfl)
def sSet (Γ : Gm) (E : DX → DEnv → Prop) (i : Nat) (k e : Ex) (ρ : DEnv) (N : DEnv → Prop) : Option Sl → Prop := fun s => match s with | some (.own p l) => wE Γ E e ρ (kSet1 Γ E i k p l N) | _ => False
theorem k124 {Γ : Gm} {E : DX → DEnv → Prop} {i : Nat} {k e : Ex} {ρ : DEnv} {N : DEnv → Prop} : sSet Γ E i k e ρ N (some (.own p l)) = (wE Γ E e ρ (kSet1 Γ E i k p l N)) := rr (rfl)
def sIns (Γ : Gm) (E : DX → DEnv → Prop) (i : Nat) (k e : Ex) (ρ : DEnv) (N : DEnv → Prop) : Option Sl → Prop := fun s => match s with | some (.own p l) => wE Γ E k ρ (kIns1 Γ E i e p l N) | _ => False
theorem k126 {Γ : Gm} {E : DX → DEnv → Prop} {i : Nat} {k e : Ex} {ρ : DEnv} {N : DEnv → Prop} : sIns Γ E i k e ρ N (some (.own p l)) = (wE Γ E k ρ (kIns1 Γ E i e p l N)) := rr (rfl)
theorem w0 {Γ : Gm} {E : DX → DEnv → Prop} {ρ : DEnv} {Q : D → DEnv → Prop} : wE Γ E (.v i) ρ Q = (sV i ρ Q ρ[i]?) := rr (by with_unfolding_all rfl)
theorem w1 {Γ : Gm} {E : DX → DEnv → Prop} {ρ : DEnv} {Q : D → DEnv → Prop} : wE Γ E (.b i) ρ Q = (sB ρ Q ρ[i]?) := rr (by with_unfolding_all rfl)
theorem w2 {Γ : Gm} {E : DX → DEnv → Prop} {ρ : DEnv} {Q : D → DEnv → Prop} : wE Γ E (.fr i e) ρ Q = (sFr Γ E i e ρ Q ρ[i]?) := rr (by with_unfolding_all rfl)
theorem w3 {Γ : Gm} {E : DX → DEnv → Prop} {ρ : DEnv} {Q : D → DEnv → Prop} : wE Γ E (.tr e) ρ Q = (wE Γ E e ρ Q) := rr (by with_unfolding_all rfl)
theorem w4 {Γ : Gm} {E : DX → DEnv → Prop} {ρ : DEnv} {Q : D → DEnv → Prop} : wE Γ E (.wk e) ρ Q = (wE Γ E e ρ (kWk Q)) := rr (by with_unfolding_all rfl)
theorem w5 {Γ : Gm} {E : DX → DEnv → Prop} {ρ : DEnv} {Q : D → DEnv → Prop} : wE Γ E (.int n) ρ Q = (Q (.int n) ρ) := rr (by with_unfolding_all rfl)
theorem w6 {Γ : Gm} {E : DX → DEnv → Prop} {ρ : DEnv} {Q : D → DEnv → Prop} : wE Γ E (.gi x n) ρ Q = (Q (.int n) ρ) := rr (by with_unfolding_all rfl)
theorem w7 {Γ : Gm} {E : DX → DEnv → Prop} {ρ : DEnv} {Q : D → DEnv → Prop} : wE Γ E (.gs x z) ρ Q = (Q (.str z) ρ) := rr (by with_unfolding_all rfl)
theorem w8 {Γ : Gm} {E : DX → DEnv → Prop} {ρ : DEnv} {Q : D → DEnv → Prop} : wE Γ E (.str x) ρ Q = (Q (.str x) ρ) := rr (by with_unfolding_all rfl)
theorem w9 {Γ : Gm} {E : DX → DEnv → Prop} {ρ : DEnv} {Q : D → DEnv → Prop} : wE Γ E (.bl k) ρ Q = (Q (.bl k) ρ) := rr (by with_unfolding_all rfl)
theorem w10 {Γ : Gm} {E : DX → DEnv → Prop} {ρ : DEnv} {Q : D → DEnv → Prop} : wE Γ E .non ρ Q = (Q .non ρ) := rr (by with_unfolding_all rfl)
theorem w11 {Γ : Gm} {E : DX → DEnv → Prop} {ρ : DEnv} {Q : D → DEnv → Prop} : wE Γ E (.bin o a b) ρ Q = (wE Γ E a ρ (kBin1 Γ E o b Q)) := rr (by with_unfolding_all rfl)
theorem w12 {Γ : Gm} {E : DX → DEnv → Prop} {ρ : DEnv} {Q : D → DEnv → Prop} : wE Γ E (.neg a) ρ Q = (wE Γ E a ρ (kNeg Q)) := rr (by with_unfolding_all rfl)
theorem w13 {Γ : Gm} {E : DX → DEnv → Prop} {ρ : DEnv} {Q : D → DEnv → Prop} : wE Γ E (.not a) ρ Q = (wE Γ E a ρ (kNot Q)) := rr (by with_unfolding_all rfl)
theorem w14 {Γ : Gm} {E : DX → DEnv → Prop} {ρ : DEnv} {Q : D → DEnv → Prop} : wE Γ E (.cmp o a b) ρ Q = (wE Γ E a ρ (kCmp1 Γ E o b Q)) := rr (by with_unfolding_all rfl)
theorem w15 {Γ : Gm} {E : DX → DEnv → Prop} {ρ : DEnv} {Q : D → DEnv → Prop} : wE Γ E (.cmp2 o p a b c) ρ Q = (wE Γ E a ρ (kC21 Γ E o p b c Q)) := rr (by with_unfolding_all rfl)
theorem w16 {Γ : Gm} {E : DX → DEnv → Prop} {ρ : DEnv} {Q : D → DEnv → Prop} : wE Γ E (.and a l) ρ Q = (wE Γ E a ρ (kAnd Γ E l Q)) := rr (by with_unfolding_all rfl)
theorem w17 {Γ : Gm} {E : DX → DEnv → Prop} {ρ : DEnv} {Q : D → DEnv → Prop} : wE Γ E (.or a l) ρ Q = (wE Γ E a ρ (kOr Γ E l Q)) := rr (by with_unfolding_all rfl)
theorem w18 {Γ : Gm} {E : DX → DEnv → Prop} {ρ : DEnv} {Q : D → DEnv → Prop} : wE Γ E (.ite c a b) ρ Q = (wT Γ E c ρ (kIte Γ E a b Q)) := rr (by with_unfolding_all rfl)
theorem w19 {Γ : Gm} {E : DX → DEnv → Prop} {ρ : DEnv} {Q : D → DEnv → Prop} : wE Γ E (.tup l) ρ Q = (wA Γ E l ρ (kTup Q)) := rr (by with_unfolding_all rfl)
theorem w20 {Γ : Gm} {E : DX → DEnv → Prop} {ρ : DEnv} {Q : D → DEnv → Prop} : wE Γ E (.lst l) ρ Q = (wA Γ E l ρ (kLst Q)) := rr (by with_unfolding_all rfl)
theorem w21 {Γ : Gm} {E : DX → DEnv → Prop} {ρ : DEnv} {Q : D → DEnv → Prop} : wE Γ E (.ix a b) ρ Q = (wE Γ E a ρ (kIx1 Γ E b Q)) := rr (by with_unfolding_all rfl)
theorem w22 {Γ : Gm} {E : DX → DEnv → Prop} {ρ : DEnv} {Q : D → DEnv → Prop} : wE Γ E (.sl a lw hi) ρ Q = (wE Γ E a ρ (kSl1 Γ E lw hi Q)) := rr (by with_unfolding_all rfl)
theorem w23 {Γ : Gm} {E : DX → DEnv → Prop} {ρ : DEnv} {Q : D → DEnv → Prop} : wE Γ E (.call f l) ρ Q = (wA Γ E l ρ (kCall Γ E f Q)) := rr (by with_unfolding_all rfl)
theorem w24 {Γ : Gm} {E : DX → DEnv → Prop} {ρ : DEnv} {Q : D → DEnv → Prop} : wE Γ E (.callB f l) ρ Q = (wA Γ E l ρ (kCallB Γ E f Q)) := rr (by with_unfolding_all rfl)
theorem w25 {Γ : Gm} {E : DX → DEnv → Prop} {ρ : DEnv} {Q : D → DEnv → Prop} : wE Γ E (.callK f ks pm l) ρ Q = (wA Γ E l ρ (kCallK Γ E f ks pm Q)) := rr (by with_unfolding_all rfl)
theorem w26 {Γ : Gm} {E : DX → DEnv → Prop} {ρ : DEnv} {Q : D → DEnv → Prop} : wE Γ E .dnew ρ Q = (Q (.dct []) ρ) := rr (by with_unfolding_all rfl)
theorem w27 {Γ : Gm} {E : DX → DEnv → Prop} {ρ : DEnv} {Q : D → DEnv → Prop} : wE Γ E (.dsp ks l) ρ Q = (wA Γ (fun _ _ => False) l ρ (kDsp ks ρ Q)) := rr (by with_unfolding_all rfl)
theorem w28 {Γ : Gm} {E : DX → DEnv → Prop} {ρ : DEnv} {Q : D → DEnv → Prop} : wE Γ E (.bi f l) ρ Q = (wA Γ E l ρ (kBi f Q)) := rr (by with_unfolding_all rfl)
theorem w29 {Γ : Gm} {E : DX → DEnv → Prop} {ρ : DEnv} {Q : D → DEnv → Prop} : wE Γ E (.isT ts a) ρ Q = (wE Γ E a ρ (kIsT ts Q)) := rr (by with_unfolding_all rfl)
theorem w30 {Γ : Gm} {E : DX → DEnv → Prop} {ρ : DEnv} {Q : D → DEnv → Prop} : wE Γ E (.me m o l) ρ Q = (wE Γ E o ρ (kMe1 Γ E m l Q)) := rr (by with_unfolding_all rfl)
theorem w31 {Γ : Gm} {E : DX → DEnv → Prop} {ρ : DEnv} {Q : D → DEnv → Prop} : wE Γ E (.lc g k l t e) ρ Q = (wA Γ E l ρ (kLc1 Γ g k t e Q)) := rr (by with_unfolding_all rfl)
theorem w32 {Γ : Gm} {E : DX → DEnv → Prop} {ρ : DEnv} {Q : D → DEnv → Prop} : wE Γ E (.dget d k) ρ Q = (wE Γ E d ρ (kDg1 Γ E k Q)) := rr (by with_unfolding_all rfl)
theorem w33 {Γ : Gm} {E : DX → DEnv → Prop} {ρ : DEnv} {Q : D → DEnv → Prop} : wE Γ E (.din k d) ρ Q = (wE Γ E k ρ (kDin1 Γ E d Q)) := rr (by with_unfolding_all rfl)
theorem w34 {Γ : Gm} {E : DX → DEnv → Prop} {ρ : DEnv} {Q : D → DEnv → Prop} : wE Γ E (.dnin k d) ρ Q = (wE Γ E k ρ (kDnin1 Γ E d Q)) := rr (by with_unfolding_all rfl)
theorem w35 {Γ : Gm} {E : DX → DEnv → Prop} {ρ : DEnv} {Q : D → DEnv → Prop} : wE Γ E (.rv a) ρ Q = (wE Γ E a ρ (kRv Q)) := rr (by with_unfolding_all rfl)
theorem w36 {Γ : Gm} {E : DX → DEnv → Prop} {ρ : DEnv} {Q : D → DEnv → Prop} : wE Γ E (.ns a) ρ Q = (wE Γ E a ρ (kNs Q)) := rr (by with_unfolding_all rfl)
theorem w37 {Γ : Gm} {E : DX → DEnv → Prop} {ρ : DEnv} {Q : D → DEnv → Prop} : wE Γ E (.trv a) ρ Q = (wE Γ E a ρ (kTrv Q)) := rr (by with_unfolding_all rfl)
theorem w38 {Γ : Gm} {E : DX → DEnv → Prop} {ρ : DEnv} {Q : D → DEnv → Prop} : wE Γ E (.lcK g i m t e) ρ Q = (∃ l, ρ[i]? = some (.sh (.dct l)) ∧ PlM m ρ ∧ lcL (wG g) (wTs Γ (fun _ _ => False) t) (wE Γ (fun _ _ => False) e) (wipeD (keepD m ρ) g.slots) (kLk ρ Q) (l.map fun kv => dK kv.1) []) := rr (by with_unfolding_all rfl)
theorem w39 {Γ : Gm} {E : DX → DEnv → Prop} {ρ : DEnv} {Q : D → DEnv → Prop} : wE Γ E (.mv i) ρ Q = (sMv i ρ Q ρ[i]?) := rr (by with_unfolding_all rfl)
theorem w40 {Γ : Gm} {E : DX → DEnv → Prop} {ρ : DEnv} {Q : D → DEnv → Prop} : wE Γ E (.fld i f) ρ Q = (sFld Γ f ρ Q ρ[i]?) := rr (by with_unfolding_all rfl)
theorem w41 {Γ : Gm} {E : DX → DEnv → Prop} {ρ : DEnv} {Q : D → DEnv → Prop} : wE Γ E (.isE i x) ρ Q = (sIsE Γ x ρ Q ρ[i]?) := rr (by with_unfolding_all rfl)
theorem w42 {Γ : Gm} {E : DX → DEnv → Prop} {ρ : DEnv} {Q : D → DEnv → Prop} : wAnd Γ E x .nil ρ Q = (Q x ρ) := rr (by with_unfolding_all rfl)
theorem w43 {Γ : Gm} {E : DX → DEnv → Prop} {ρ : DEnv} {Q : D → DEnv → Prop} : wAnd Γ E (.bl k) (.cons e l) ρ Q = (if k = true then wE Γ E e ρ (kAnd Γ E l Q) else Q (.bl false) ρ) := rr (by with_unfolding_all rfl)
theorem w44 {Γ : Gm} {E : DX → DEnv → Prop} {ρ : DEnv} {Q : D → DEnv → Prop} : wOr Γ E x .nil ρ Q = (Q x ρ) := rr (by with_unfolding_all rfl)
theorem w45 {Γ : Gm} {E : DX → DEnv → Prop} {ρ : DEnv} {Q : D → DEnv → Prop} : wOr Γ E (.bl k) (.cons e l) ρ Q = (if k = true then Q (.bl true) ρ else wE Γ E e ρ (kOr Γ E l Q)) := rr (by with_unfolding_all rfl)
theorem w46 {Γ : Gm} {E : DX → DEnv → Prop} {ρ : DEnv} {Q : Bool → DEnv → Prop} : wT Γ E (.not a) ρ Q = (wT Γ E a ρ (kTnot Q)) := rr (by with_unfolding_all rfl)
theorem w47 {Γ : Gm} {E : DX → DEnv → Prop} {ρ : DEnv} {Q : Bool → DEnv → Prop} : wT Γ E (.and a l) ρ Q = (wT Γ E a ρ (kTand Γ E l Q)) := rr (by with_unfolding_all rfl)
theorem w48 {Γ : Gm} {E : DX → DEnv → Prop} {ρ : DEnv} {Q : Bool → DEnv → Prop} : wT Γ E (.or a l) ρ Q = (wT Γ E a ρ (kTor Γ E l Q)) := rr (by with_unfolding_all rfl)
theorem w49 {Γ : Gm} {E : DX → DEnv → Prop} {ρ : DEnv} {Q : Bool → DEnv → Prop} : wT Γ E (.cmp o a b) ρ Q = (wE Γ E a ρ (kTc1 Γ E o b Q)) := rr (by with_unfolding_all rfl)
theorem w50 {Γ : Gm} {E : DX → DEnv → Prop} {ρ : DEnv} {Q : Bool → DEnv → Prop} : wT Γ E (.cmp2 o p a b c) ρ Q = (wE Γ E a ρ (kT21 Γ E o p b c Q)) := rr (by with_unfolding_all rfl)
theorem w51 {Γ : Gm} {E : DX → DEnv → Prop} {ρ : DEnv} {Q : Bool → DEnv → Prop} : wT Γ E (.din k d) ρ Q = (wE Γ E k ρ (kTin1 Γ E d Q)) := rr (by with_unfolding_all rfl)
theorem w52 {Γ : Gm} {E : DX → DEnv → Prop} {ρ : DEnv} {Q : Bool → DEnv → Prop} : wT Γ E (.dnin k d) ρ Q = (wE Γ E k ρ (kTnin1 Γ E d Q)) := rr (by with_unfolding_all rfl)
theorem w53 {Γ : Gm} {E : DX → DEnv → Prop} {ρ : DEnv} {Q : Bool → DEnv → Prop} : wT Γ E (.tr e) ρ Q = (wE Γ E e ρ (kTr Q)) := rr (by with_unfolding_all rfl)
theorem w54 {Γ : Gm} {E : DX → DEnv → Prop} {ρ : DEnv} {Q : Bool → DEnv → Prop} : wTall Γ E .nil ρ Q = (Q true ρ) := rr (by with_unfolding_all rfl)
theorem w55 {Γ : Gm} {E : DX → DEnv → Prop} {ρ : DEnv} {Q : Bool → DEnv → Prop} : wTall Γ E (.cons e l) ρ Q = (wT Γ E e ρ (kTand Γ E l Q)) := rr (by with_unfolding_all rfl)
theorem w56 {Γ : Gm} {E : DX → DEnv → Prop} {ρ : DEnv} {Q : Bool → DEnv → Prop} : wTany Γ E .nil ρ Q = (Q false ρ) := rr (by with_unfolding_all rfl)
theorem w57 {Γ : Gm} {E : DX → DEnv → Prop} {ρ : DEnv} {Q : Bool → DEnv → Prop} : wTany Γ E (.cons e l) ρ Q = (wT Γ E e ρ (kTor Γ E l Q)) := rr (by with_unfolding_all rfl)
theorem w58 {Γ : Gm} {E : DX → DEnv → Prop} {ρ : DEnv} {Q : Bool → DEnv → Prop} : wTs Γ E .nil ρ Q = (Q true ρ) := rr (by with_unfolding_all rfl)
theorem w59 {Γ : Gm} {E : DX → DEnv → Prop} {ρ : DEnv} {Q : Bool → DEnv → Prop} : wTs Γ E (.cons e .nil) ρ Q = (wT Γ E e ρ Q) := rr (by with_unfolding_all rfl)
theorem w60 {Γ : Gm} {E : DX → DEnv → Prop} {ρ : DEnv} {Q : List D → DEnv → Prop} : wA Γ E .nil ρ Q = (Q [] ρ) := rr (by with_unfolding_all rfl)
theorem w61 {Γ : Gm} {E : DX → DEnv → Prop} {ρ : DEnv} {Q : List D → DEnv → Prop} : wA Γ E (.cons e l) ρ Q = (wE Γ E e ρ (kA1 Γ E l Q)) := rr (by with_unfolding_all rfl)
theorem w62 {Γ : Gm} {E : DX → DEnv → Prop} {ρ : DEnv} {Q : Option Int → DEnv → Prop} : wO Γ E .nil ρ Q = (Q none ρ) := rr (by with_unfolding_all rfl)
theorem w63 {Γ : Gm} {E : DX → DEnv → Prop} {ρ : DEnv} {Q : Option Int → DEnv → Prop} : wO Γ E (.cons e .nil) ρ Q = (wE Γ E e ρ (kO1 Q)) := rr (by with_unfolding_all rfl)
theorem w64 {Γ : Gm} {E : DX → DEnv → Prop} {ρ : DEnv} {N : DEnv → Prop} {R : D → DEnv → Prop} {F : Bool} {B C : DEnv → Prop} : wS Γ E (.asg g e) { nx := N, rt := R, rtF := F, bk := B, ct := C } ρ = (wE Γ E e ρ (kAsg g N)) := rr (by with_unfolding_all rfl)
theorem w65 {Γ : Gm} {E : DX → DEnv → Prop} {ρ : DEnv} {N : DEnv → Prop} {R : D → DEnv → Prop} {F : Bool} {B C : DEnv → Prop} : wS Γ E (.own i e) { nx := N, rt := R, rtF := F, bk := B, ct := C } ρ = (wE Γ E e ρ (kOwn i N)) := rr (by with_unfolding_all rfl)
theorem w66 {Γ : Gm} {E : DX → DEnv → Prop} {ρ : DEnv} {N : DEnv → Prop} {R : D → DEnv → Prop} {F : Bool} {B C : DEnv → Prop} : wS Γ E (.lcs fz i g k l t e) { nx := N, rt := R, rtF := F, bk := B, ct := C } ρ = (wE Γ E (.lc g k l t e) ρ (kLcs fz i N)) := rr (by with_unfolding_all rfl)
theorem w67 {Γ : Gm} {E : DX → DEnv → Prop} {ρ : DEnv} {N : DEnv → Prop} {R : D → DEnv → Prop} {F : Bool} {B C : DEnv → Prop} : wS Γ E (.aug i o e) { nx := N, rt := R, rtF := F, bk := B, ct := C } ρ = (sAug Γ E i o e ρ N ρ[i]?) := rr (by with_unfolding_all rfl)
theorem w68 {Γ : Gm} {E : DX → DEnv → Prop} {ρ : DEnv} {N : DEnv → Prop} {R : D → DEnv → Prop} {F : Bool} {B C : DEnv → Prop} : wS Γ E (.ret e) { nx := N, rt := R, rtF := F, bk := B, ct := C } ρ = (wE Γ E e ρ (kRet e F R)) := rr (by with_unfolding_all rfl)
theorem w69 {Γ : Gm} {E : DX → DEnv → Prop} {ρ : DEnv} {N : DEnv → Prop} {R : D → DEnv → Prop} {F : Bool} {B C : DEnv → Prop} : wS Γ E .retN { nx := N, rt := R, rtF := F, bk := B, ct := C } ρ = ((F = false ∧ R .non ρ)) := rr (by with_unfolding_all rfl)
theorem w70 {Γ : Gm} {E : DX → DEnv → Prop} {ρ : DEnv} {N : DEnv → Prop} {R : D → DEnv → Prop} {F : Bool} {B C : DEnv → Prop} : wS Γ E (.expr e) { nx := N, rt := R, rtF := F, bk := B, ct := C } ρ = (wE Γ E e ρ (kNx N)) := rr (by with_unfolding_all rfl)
theorem w71 {Γ : Gm} {E : DX → DEnv → Prop} {ρ : DEnv} {N : DEnv → Prop} {R : D → DEnv → Prop} {F : Bool} {B C : DEnv → Prop} : wS Γ E (.app i e) { nx := N, rt := R, rtF := F, bk := B, ct := C } ρ = (sApp Γ E i e ρ N ρ[i]?) := rr (by with_unfolding_all rfl)
theorem w72 {Γ : Gm} {E : DX → DEnv → Prop} {ρ : DEnv} {N : DEnv → Prop} {R : D → DEnv → Prop} {F : Bool} {B C : DEnv → Prop} : wS Γ E (.ext i e) { nx := N, rt := R, rtF := F, bk := B, ct := C } ρ = (sExt Γ E i e ρ N ρ[i]?) := rr (by with_unfolding_all rfl)
theorem w73 {Γ : Gm} {E : DX → DEnv → Prop} {ρ : DEnv} {N : DEnv → Prop} {R : D → DEnv → Prop} {F : Bool} {B C : DEnv → Prop} : wS Γ E (.put i k e) { nx := N, rt := R, rtF := F, bk := B, ct := C } ρ = (sPut Γ E i k e ρ N ρ[i]?) := rr (by with_unfolding_all rfl)
theorem w74 {Γ : Gm} {E : DX → DEnv → Prop} {ρ : DEnv} {N : DEnv → Prop} {R : D → DEnv → Prop} {F : Bool} {B C : DEnv → Prop} : wS Γ E (.seti i k e) { nx := N, rt := R, rtF := F, bk := B, ct := C } ρ = (sSet Γ E i k e ρ N ρ[i]?) := rr (by with_unfolding_all rfl)
theorem w75 {Γ : Gm} {E : DX → DEnv → Prop} {ρ : DEnv} {N : DEnv → Prop} {R : D → DEnv → Prop} {F : Bool} {B C : DEnv → Prop} : wS Γ E (.ins i k e) { nx := N, rt := R, rtF := F, bk := B, ct := C } ρ = (sIns Γ E i k e ρ N ρ[i]?) := rr (by with_unfolding_all rfl)
theorem w76 {Γ : Gm} {E : DX → DEnv → Prop} {ρ : DEnv} {Z : EndD} : wS Γ E (.ife c a b) Z ρ = (wT Γ E c ρ (kIf Γ E a b Z)) := rr (by with_unfolding_all rfl)
theorem w77 {Γ : Gm} {E : DX → DEnv → Prop} {ρ : DEnv} {Z : EndD} : wS Γ E (.for_ g k l b) Z ρ = (wA Γ E l ρ (kFor1 Γ E g k b Z)) := rr (by with_unfolding_all rfl)
theorem w78 {Γ : Gm} {E : DX → DEnv → Prop} {ρ : DEnv} {N : DEnv → Prop} {R : D → DEnv → Prop} {F : Bool} {B C : DEnv → Prop} : wS Γ E .brk { nx := N, rt := R, rtF := F, bk := B, ct := C } ρ = (B ρ) := rr (by with_unfolding_all rfl)
theorem w79 {Γ : Gm} {E : DX → DEnv → Prop} {ρ : DEnv} {N : DEnv → Prop} {R : D → DEnv → Prop} {F : Bool} {B C : DEnv → Prop} : wS Γ E .cont { nx := N, rt := R, rtF := F, bk := B, ct := C } ρ = (C ρ) := rr (by with_unfolding_all rfl)
theorem w80 {Γ : Gm} {E : DX → DEnv → Prop} {ρ : DEnv} {N : DEnv → Prop} {R : D → DEnv → Prop} {F : Bool} {B C : DEnv → Prop} : wS Γ E .pass { nx := N, rt := R, rtF := F, bk := B, ct := C } ρ = (N ρ) := rr (by with_unfolding_all rfl)
theorem w81 {Γ : Gm} {E : DX → DEnv → Prop} {ρ : DEnv} {Z : EndD} : wS Γ E (.rse c l) Z ρ = (wA Γ E l ρ (kRse Γ E c)) := rr (by with_unfolding_all rfl)
theorem w82 {Γ : Gm} {E : DX → DEnv → Prop} {ρ : DEnv} {N : DEnv → Prop} {R : D → DEnv → Prop} {F : Bool} {B C : DEnv → Prop} : wS Γ E (.par2 i j a b) { nx := N, rt := R, rtF := F, bk := B, ct := C } ρ = (wE Γ E a ρ (kPar1 Γ E i j b N)) := rr (by with_unfolding_all rfl)
theorem w83 {Γ : Gm} {E : DX → DEnv → Prop} {ρ : DEnv} {Z : EndD} : wS Γ E (.tryA b h) Z ρ = (wSs Γ (kH Γ E h Z) b Z ρ) := rr (by with_unfolding_all rfl)
theorem w84 {Γ : Gm} {E : DX → DEnv → Prop} {ρ : DEnv} {N : DEnv → Prop} {R : D → DEnv → Prop} {F : Bool} {B C : DEnv → Prop} : wS Γ E (.exO f i l) { nx := N, rt := R, rtF := F, bk := B, ct := C } ρ = (∃ p d0, ofO ρ[i]? = some (p, d0) ∧ wA Γ E l ρ (kExO Γ f i ρ[i]? p d0 N)) := rr (by with_unfolding_all rfl)
theorem w85 {Γ : Gm} {E : DX → DEnv → Prop} {ρ : DEnv} {N : DEnv → Prop} {R : D → DEnv → Prop} {F : Bool} {B C : DEnv → Prop} : wS Γ E (.whl c b) { nx := N, rt := R, rtF := F, bk := B, ct := C } ρ = (∃ W : Nat → DEnv → Prop, (∃ m, W m ρ) ∧ ∀ m ρ, W m ρ → wT Γ E c ρ fun k ρ1 => if k = true then wSs Γ E b { nx := fun ρ' => ∃ m', m' < m ∧ W m' ρ', rt := R, rtF := F, bk := N, ct := fun ρ' => ∃ m', m' < m ∧ W m' ρ' } ρ1 else N ρ1) := rr (by with_unfolding_all rfl)
theorem w86 {Γ : Gm} {E : DX → DEnv → Prop} {ρ : DEnv} {N : DEnv → Prop} {R : D → DEnv → Prop} {F : Bool} {B C : DEnv → Prop} : wSs Γ E .nil { nx := N, rt := R, rtF := F, bk := B, ct := C } ρ = (N ρ) := rr (by with_unfolding_all rfl)
theorem w87 {Γ : Gm} {E : DX → DEnv → Prop} {ρ : DEnv} {Z : EndD} {dx : DX} : wH Γ E .nil dx Z ρ = (E dx ρ) := rr (by with_unfolding_all rfl)
theorem w88 {Γ : Gm} {E : DX → DEnv → Prop} {ρ : DEnv} {Z : EndD} {dx : DX} : wH Γ E (.cons x o s l) dx Z ρ = (∃ b, Γ.sub dx.1 x = some b ∧ if b = true then noExc ρ = true ∧ wSs Γ (fun _ _ => False) s (Z.un o) (exS o dx ρ) else wH Γ E l dx Z ρ) := rr (by with_unfolding_all rfl)
theorem w89 {ρ : DEnv} {Q : DEnv → Prop} : wG (.nm i) d ρ Q = (Q (ρ.set i (.sh d))) := rr (by with_unfolding_all rfl)
theorem w90 {ρ : DEnv} {Q : DEnv → Prop} : wG (.tup ts) (.tup l) ρ Q = ((l.length = ts.length ∧ wGs ts l ρ Q)) := rr (by with_unfolding_all rfl)
theorem w91 {ρ : DEnv} {Q : DEnv → Prop} : wGs [] [] ρ Q = (Q ρ) := rr (by with_unfolding_all rfl)
theorem w92 {ρ : DEnv} {Q : DEnv → Prop} : wGs (t :: ts) (d :: l) ρ Q = (wG t d ρ (kGs ts l Q)) := rr (by with_unfolding_all rfl)
theorem o0 {Q : D → Prop} : binW .add (.int i) (.int j) Q = (Q (.int (i + j))) := rr (by with_unfolding_all rfl)
theorem o1 {Q : D → Prop} : binW .add (.str x) (.str y) Q = (x.length + y.length ≤ sizeLine ∧ Q (.str (x ++ y))) := rr (by with_unfolding_all rfl)
theorem o2 {Q : D → Prop} : binW .add (.lst l) (.lst m) Q = (l.length + m.length ≤ sizeLine ∧ Q (.lst (l ++ m))) := rr (by with_unfolding_all rfl)
theorem o3 {Q : D → Prop} : binW .add (.tup l) (.tup m) Q = (l.length + m.length ≤ sizeLine ∧ Q (.tup (l ++ m))) := rr (by with_unfolding_all rfl)
theorem o4 {Q : D → Prop} : binW .sub (.int i) (.int j) Q = (Q (.int (i - j))) := rr (by with_unfolding_all rfl)
theorem o5 {Q : D → Prop} : binW .mul (.int i) (.int j) Q = (CMul i j ∧ Q (.int (i * j))) := rr (by with_unfolding_all rfl)
theorem o6 {Q : D → Prop} : binW .mul (.str x) (.int n) Q = (MulOk x n ∧ Q (.str (Txt.mul x n))) := rr (by with_unfolding_all rfl)
theorem o7 {Q : D → Prop} : binW .mul (.lst l) (.int n) Q = ((-(2 ^ 63) ≤ n ∧ n < 2 ^ 63 ∧ l.length * n.toNat ≤ sizeLine) ∧ Q (.lst (repL n l))) := rr (by with_unfolding_all rfl)
theorem o8 {Q : D → Prop} : binW .mod (.int i) (.int j) Q = (0 < j ∧ Q (.int (i % j))) := rr (by with_unfolding_all rfl)
theorem o9 {Q : D → Prop} : binW .fdiv (.int i) (.int j) Q = (CDiv i j ∧ Q (.int (i / j))) := rr (by with_unfolding_all rfl)
theorem o10 {Q : D → Prop} : binW .pow (.int i) (.int j) Q = (CPow i j ∧ Q (.int (i ^ j.toNat))) := rr (by with_unfolding_all rfl)
theorem o11 {Q : Bool → Prop} : truW .non Q = (Q false) := rr (by with_unfolding_all rfl)
theorem o12 {Q : Bool → Prop} : truW (.bl b) Q = (Q b) := rr (by with_unfolding_all rfl)
theorem o13 {Q : Bool → Prop} : truW (.int i) Q = (Q (i != 0)) := rr (by with_unfolding_all rfl)
theorem o14 {Q : Bool → Prop} : truW (.str y) Q = (y.length ≤ sizeLine ∧ Q ((y.length : Int) != 0)) := rr (by with_unfolding_all rfl)
theorem o15 {Q : Bool → Prop} : truW (.lst l) Q = (Q (!l.isEmpty)) := rr (by with_unfolding_all rfl)
theorem o16 {Q : Bool → Prop} : truW (.tup l) Q = (Q (!l.isEmpty)) := rr (by with_unfolding_all rfl)
theorem o17 {Q : D → Prop} : lenW ([.str y]) Q = (y.length ≤ sizeLine ∧ Q (.int y.length)) := rr (by with_unfolding_all rfl)
theorem o18 {Q : D → Prop} : lenW ([.tup l]) Q = (Q (.int l.length)) := rr (by with_unfolding_all rfl)
theorem o19 {Q : D → Prop} : lenW ([.lst l]) Q = (Q (.int l.length)) := rr (by with_unfolding_all rfl)
theorem o20 {Q : D → Prop} : intW ([.int i]) Q = (Q (.int i)) := rr (by with_unfolding_all rfl)
theorem o21 {Q : D → Prop} : intW ([.bl k]) Q = (Q (.int (if k then 1 else 0))) := rr (by with_unfolding_all rfl)
theorem o22 {Q : D → Prop} : tupleW ([.tup l]) Q = (Q (.tup l)) := rr (by with_unfolding_all rfl)
theorem o23 {Q : D → Prop} : tupleW ([.lst l]) Q = (Q (.tup l)) := rr (by with_unfolding_all rfl)
theorem o24 {Q : D → Prop} : tupleW ([.dct l]) Q = (Q (.tup (l.map fun kv => dK kv.1))) := rr (by with_unfolding_all rfl)
theorem o25 {Q : D → Prop} : listW ([.tup l]) Q = (Q (.lst l)) := rr (by with_unfolding_all rfl)
theorem o26 {Q : D → Prop} : listW ([.lst l]) Q = (Q (.lst l)) := rr (by with_unfolding_all rfl)
theorem o27 {Q : D → Prop} : min2W ([.int i, .int j]) Q = (Q (.int (if j < i then j else i))) := rr (by with_unfolding_all rfl)
theorem o28 {Q : D → Prop} : max2W ([.int i, .int j]) Q = (Q (.int (if j > i then j else i))) := rr (by with_unfolding_all rfl)
theorem o29 {Q : D → Prop} : absW ([.int i]) Q = (Q (.int (if i < 0 then -i else i))) := rr (by with_unfolding_all rfl)
theorem o30 {Q : D → Prop} : strW ([.int i]) Q = (i.natAbs.log2 < 1920 ∧ Q (.str (Str.ofString (toString i)))) := rr (by with_unfolding_all rfl)
theorem o31 {Q : D → Prop} : anyW ([.lst l]) Q = (∃ bs : List Bool, l = bs.map D.bl ∧ Q (.bl (bs.any id))) := rr (by with_unfolding_all rfl)
theorem o32 {Q : D → Prop} : allW ([.lst l]) Q = (∃ bs : List Bool, l = bs.map D.bl ∧ Q (.bl (bs.all id))) := rr (by with_unfolding_all rfl)
theorem o33 {Q : D → Prop} : sumW ([.lst l]) Q = (∃ ns : List Int, l = ns.map D.int ∧ Q (.int ns.sum)) := rr (by with_unfolding_all rfl)
theorem o34 {Q : D → Prop} {a : List D} : biW .len a Q = (lenW a Q) := rr (by with_unfolding_all rfl)
theorem o35 {Q : D → Prop} {a : List D} : biW .int a Q = (intW a Q) := rr (by with_unfolding_all rfl)
theorem o36 {Q : D → Prop} {a : List D} : biW .tuple a Q = (tupleW a Q) := rr (by with_unfolding_all rfl)
theorem o37 {Q : D → Prop} {a : List D} : biW .list a Q = (listW a Q) := rr (by with_unfolding_all rfl)
theorem o38 {Q : D → Prop} {a : List D} : biW .any a Q = (anyW a Q) := rr (by with_unfolding_all rfl)
theorem o39 {Q : D → Prop} {a : List D} : biW .all a Q = (allW a Q) := rr (by with_unfolding_all rfl)
theorem o40 {Q : D → Prop} {a : List D} : biW .ord a Q = (ordW a Q) := rr (by with_unfolding_all rfl)
theorem o41 {Q : D → Prop} {a : List D} : biW .min2 a Q = (min2W a Q) := rr (by with_unfolding_all rfl)
theorem o42 {Q : D → Prop} {a : List D} : biW .max2 a Q = (max2W a Q) := rr (by with_unfolding_all rfl)
theorem o43 {Q : D → Prop} {a : List D} : biW .abs a Q = (absW a Q) := rr (by with_unfolding_all rfl)
theorem o44 {Q : D → Prop} {a : List D} : biW .sum a Q = (sumW a Q) := rr (by with_unfolding_all rfl)
theorem o45 {Q : D → Prop} {a : List D} : biW .str a Q = (strW a Q) := rr (by with_unfolding_all rfl)
theorem o46 {Q : D → Prop} : meW .starts (.str x) ([.str y]) Q = (Q (.bl (Txt.startswith x y))) := rr (by with_unfolding_all rfl)
theorem o47 {Q : D → Prop} : meW .starts2 (.str x) ([.str y, .int i]) Q = (Q (.bl (Txt.startswith3 x y i))) := rr (by with_unfolding_all rfl)
theorem o48 {Q : D → Prop} : meW .join (.str x) [d] Q = (∃ l ys, strsD d = some l ∧ l = ys.map D.str ∧ (ys.map (·.length)).sum + ys.length * x.length ≤ 16777216 ∧ Q (.str (Txt.join x ys))) := rr (by with_unfolding_all rfl)
theorem o49 {Q : D → Prop} : meW .strip1 (.str x) ([.str y]) Q = (x.length ≤ sizeLine ∧ Q (.str (Txt.stripChars x y))) := rr (by with_unfolding_all rfl)
theorem o50 {Q : D → Prop} : meW .split1 (.str x) ([.str y]) Q = ((y.length == 0) = false ∧ x.length + 2 ≤ sizeLine ∧ Q (.lst ((Txt.split x y).map D.str))) := rr (by with_unfolding_all rfl)
theorem o51 {R : List D → Prop} : itW .seq ([.tup l]) R = (R l) := rr (by with_unfolding_all rfl)
theorem o52 {R : List D → Prop} : itW .seq ([.lst l]) R = (R l) := rr (by with_unfolding_all rfl)
theorem o53 {R : List D → Prop} : itW .str ([.str z]) R = (R (z.cps.toList.map fun c => .str ⟨#[c]⟩)) := rr (by with_unfolding_all rfl)
theorem o54 {R : List D → Prop} : itW .rng1 ([.int n]) R = (-(2 ^ 62) ≤ n ∧ n < 2 ^ 62 ∧ R ((List.range n.toNat).map fun (i : Nat) => .int (i : Int))) := rr (by with_unfolding_all rfl)
theorem o55 {R : List D → Prop} : itW .rng2 ([.int a, .int b]) R = ((-(2 ^ 62) ≤ a ∧ a < 2 ^ 62 ∧ -(2 ^ 62) ≤ b ∧ b < 2 ^ 62) ∧ R ((List.range (b - a).toNat).map fun (i : Nat) => .int (a + (i : Int)))) := rr (by with_unfolding_all rfl)
theorem o56 {R : List D → Prop} : itW .en [d] R = (∃ l, strsD d = some l ∧ R (enD 0 l)) := rr (by with_unfolding_all rfl)
theorem o57 {R : List D → Prop} : itW .zip ([d, e]) R = (∃ l m, strsD d = some l ∧ strsD e = some m ∧ R (List.zipWith (fun x y => .tup [x, y]) l m)) := rr (by with_unfolding_all rfl)
theorem o58 {R : List D → Prop} : itW .rng3 ([.int a, .int b, .int c]) R = (∃ n, RgC a b c n ∧ R ((List.range n).map fun (i : Nat) => .int (a + (i : Int) * c))) := rr (by with_unfolding_all rfl)
theorem o59 {R : List D → Prop} : itW .rev [d] R = (∃ l, strsD d = some l ∧ R l.reverse) := rr (by with_unfolding_all rfl)
theorem o60 {Q : D → Prop} : ixW (.tup l) (.int i) Q = (∃ d, atI l i = some d ∧ Q d) := rr (by with_unfolding_all rfl)
theorem o61 {Q : D → Prop} : ixW (.lst l) (.int i) Q = (∃ d, atI l i = some d ∧ Q d) := rr (by with_unfolding_all rfl)
theorem o62 {Q : D → Prop} : ixW (.str z) (.int i) Q = (z.length ≤ sizeLine ∧ ∃ c, atI z.cps.toList i = some c ∧ Q (.str ⟨#[c]⟩)) := rr (by with_unfolding_all rfl)
theorem o63 {Q : D → Prop} : augW .add (.int a) (.int b) Q = (Q (.int (a + b))) := rr (by with_unfolding_all rfl)
theorem o64 {Q : D → Prop} : augW .sub (.int a) (.int b) Q = (Q (.int (a - b))) := rr (by with_unfolding_all rfl)
theorem o65 {Q : D → Prop} : augW .add (.str a) (.str b) Q = (a.length + b.length ≤ sizeLine ∧ Q (.str (a ++ b))) := rr (by with_unfolding_all rfl)
theorem o66 {Q : D → Prop} {lw hi : Option Int} : slW (.tup l) lw hi Q = (Q (.tup (cutD l lw hi))) := rr (by with_unfolding_all rfl)
theorem o67 {Q : D → Prop} {lw hi : Option Int} : slW (.lst l) lw hi Q = (Q (.lst (cutD l lw hi))) := rr (by with_unfolding_all rfl)
theorem o68 {Q : D → Prop} {lw hi : Option Int} : slW (.str z) lw hi Q = (z.length ≤ sizeLine ∧ Q (.str (cutS z lw hi))) := rr (by with_unfolding_all rfl)
theorem o69 {Q : D → Prop} : rvW (.tup l) Q = (Q (.tup l.reverse)) := rr (by with_unfolding_all rfl)
theorem o70 {Q : D → Prop} : rvW (.lst l) Q = (Q (.lst l.reverse)) := rr (by with_unfolding_all rfl)
theorem o71 {Q : Bool → Prop} : cmpW .lt (.int i) (.int j) Q = (Q (ltB i j)) := rr (by with_unfolding_all rfl)
theorem o72 {Q : Bool → Prop} : cmpW .le (.int i) (.int j) Q = (Q (leB i j)) := rr (by with_unfolding_all rfl)
theorem o73 {Q : Bool → Prop} : cmpW .gt (.int i) (.int j) Q = (Q (ltB j i)) := rr (by with_unfolding_all rfl)
theorem o74 {Q : Bool → Prop} : cmpW .ge (.int i) (.int j) Q = (Q (leB j i)) := rr (by with_unfolding_all rfl)
theorem o75 {Q : Bool → Prop} : cmpW .lt (.str x) (.str y) Q = (Q (decide (x.cps.toList < y.cps.toList))) := rr (by with_unfolding_all rfl)
theorem o76 {Q : Bool → Prop} : cmpW .le (.str x) (.str y) Q = (Q (!decide (y.cps.toList < x.cps.toList))) := rr (by with_unfolding_all rfl)
theorem o77 {Q : Bool → Prop} : cmpW .gt (.str x) (.str y) Q = (Q (decide (y.cps.toList < x.cps.toList))) := rr (by with_unfolding_all rfl)
theorem o78 {Q : Bool → Prop} : cmpW .ge (.str x) (.str y) Q = (Q (!decide (x.cps.toList < y.cps.toList))) := rr (by with_unfolding_all rfl)
theorem o79 {Q : Bool → Prop} : cmpW .is (.bl u) .non Q = (Q false) := rr (by with_unfolding_all rfl)
theorem o80 {Q : Bool → Prop} : cmpW .isn (.bl u) .non Q = (Q true) := rr (by with_unfolding_all rfl)
theorem o81 {Q : Bool → Prop} : cmpW .is (.int u) .non Q = (Q false) := rr (by with_unfolding_all rfl)
theorem o82 {Q : Bool → Prop} : cmpW .isn (.int u) .non Q = (Q true) := rr (by with_unfolding_all rfl)
theorem o83 {Q : Bool → Prop} : cmpW .is (.str u) .non Q = (Q false) := rr (by with_unfolding_all rfl)
theorem o84 {Q : Bool → Prop} : cmpW .isn (.str u) .non Q = (Q true) := rr (by with_unfolding_all rfl)
theorem o85 {Q : Bool → Prop} : cmpW .is (.tup u) .non Q = (Q false) := rr (by with_unfolding_all rfl)
theorem o86 {Q : Bool → Prop} : cmpW .isn (.tup u) .non Q = (Q true) := rr (by with_unfolding_all rfl)
theorem o87 {Q : Bool → Prop} : cmpW .is (.lst u) .non Q = (Q false) := rr (by with_unfolding_all rfl)
theorem o88 {Q : Bool → Prop} : cmpW .isn (.lst u) .non Q = (Q true) := rr (by with_unfolding_all rfl)
theorem o89 {Q : Bool → Prop} : cmpW .is (.dct u) .non Q = (Q false) := rr (by with_unfolding_all rfl)
theorem o90 {Q : Bool → Prop} : cmpW .isn (.dct u) .non Q = (Q true) := rr (by with_unfolding_all rfl)
theorem o91 {Q : Bool → Prop} : cmpW .is .non .non Q = (Q true) := rr (by with_unfolding_all rfl)
theorem o92 {Q : Bool → Prop} : cmpW .isn .non .non Q = (Q false) := rr (by with_unfolding_all rfl)
theorem o93 {Q : Bool → Prop} : cmpW .eq a b Q = (eqW a b Q) := rr (by with_unfolding_all rfl)
theorem o94 {Q : Bool → Prop} : cmpW .ne a b Q = (eqW a b fun k => Q (!k)) := rr (by with_unfolding_all rfl)
theorem o95 {Q : Bool → Prop} : cmpW .inn (.str ⟨#[c]⟩) (.str z) Q = (Q (decide (c ∈ z.cps.toList))) := rr (by with_unfolding_all rfl)
theorem o96 {Q : Bool → Prop} : cmpW .nin (.str ⟨#[c]⟩) (.str z) Q = (Q (!decide (c ∈ z.cps.toList))) := rr (by with_unfolding_all rfl)
theorem o97 {Q : Bool → Prop} : cmpW .inn x (.lst l) Q = (inW x l Q) := rr ((by cases x with | str s => (obtain ⟨⟨l⟩⟩ := s; rcases l with _ | ⟨c, _ | ⟨d, r⟩⟩ <;> rfl) | _ => rfl))
theorem o98 {Q : Bool → Prop} : cmpW .nin x (.lst l) Q = (inW x l fun k => Q (!k)) := rr ((by cases x with | str s => (obtain ⟨⟨l⟩⟩ := s; rcases l with _ | ⟨c, _ | ⟨d, r⟩⟩ <;> rfl) | _ => rfl))
theorem o99 {Q : Bool → Prop} : cmpW .inn x (.tup l) Q = (inW x l Q) := rr ((by cases x with | str s => (obtain ⟨⟨l⟩⟩ := s; rcases l with _ | ⟨c, _ | ⟨d, r⟩⟩ <;> rfl) | _ => rfl))
theorem o100 {Q : Bool → Prop} : cmpW .nin x (.tup l) Q = (inW x l fun k => Q (!k)) := rr ((by cases x with | str s => (obtain ⟨⟨l⟩⟩ := s; rcases l with _ | ⟨c, _ | ⟨d, r⟩⟩ <;> rfl) | _ => rfl))
theorem o101 {Q : Bool → Prop} : eqW .non .non Q = (Q true) := rr (by with_unfolding_all rfl)
theorem o102 {Q : Bool → Prop} : eqW .non (.bl v) Q = (Q false) := rr (by with_unfolding_all rfl)
theorem o103 {Q : Bool → Prop} : eqW .non (.int v) Q = (Q false) := rr (by with_unfolding_all rfl)
theorem o104 {Q : Bool → Prop} : eqW .non (.str v) Q = (Q false) := rr (by with_unfolding_all rfl)
theorem o105 {Q : Bool → Prop} : eqW .non (.tup v) Q = (eqDW .non (.tup v) Q) := rr (by with_unfolding_all rfl)
theorem o106 {Q : Bool → Prop} : eqW .non (.lst v) Q = (eqDW .non (.lst v) Q) := rr (by with_unfolding_all rfl)
theorem o107 {Q : Bool → Prop} : eqW .non (.dct v) Q = (eqDW .non (.dct v) Q) := rr (by with_unfolding_all rfl)
theorem o108 {Q : Bool → Prop} : eqW .non (.opq v) Q = (eqDW .non (.opq v) Q) := rr (by with_unfolding_all rfl)
theorem o109 {Q : Bool → Prop} : eqW (.bl u) .non Q = (Q false) := rr (by with_unfolding_all rfl)
theorem o110 {Q : Bool → Prop} : eqW (.bl u) (.bl v) Q = (Q (eqBl u v)) := rr (by with_unfolding_all rfl)
theorem o111 {Q : Bool → Prop} : eqW (.bl u) (.int v) Q = (eqDW (.bl u) (.int v) Q) := rr (by with_unfolding_all rfl)
theorem o112 {Q : Bool → Prop} : eqW (.bl u) (.str v) Q = (Q false) := rr (by with_unfolding_all rfl)
theorem o113 {Q : Bool → Prop} : eqW (.bl u) (.tup v) Q = (eqDW (.bl u) (.tup v) Q) := rr (by with_unfolding_all rfl)
theorem o114 {Q : Bool → Prop} : eqW (.bl u) (.lst v) Q = (eqDW (.bl u) (.lst v) Q) := rr (by with_unfolding_all rfl)
theorem o115 {Q : Bool → Prop} : eqW (.bl u) (.dct v) Q = (eqDW (.bl u) (.dct v) Q) := rr (by with_unfolding_all rfl)
theorem o116 {Q : Bool → Prop} : eqW (.bl u) (.opq v) Q = (eqDW (.bl u) (.opq v) Q) := rr (by with_unfolding_all rfl)
theorem o117 {Q : Bool → Prop} : eqW (.int u) .non Q = (Q false) := rr (by with_unfolding_all rfl)
theorem o118 {Q : Bool → Prop} : eqW (.int u) (.bl v) Q = (eqDW (.int u) (.bl v) Q) := rr (by with_unfolding_all rfl)
theorem o119 {Q : Bool → Prop} : eqW (.int u) (.int v) Q = (Q (eqI u v)) := rr (by with_unfolding_all rfl)
theorem o120 {Q : Bool → Prop} : eqW (.int u) (.str v) Q = (Q false) := rr (by with_unfolding_all rfl)
theorem o121 {Q : Bool → Prop} : eqW (.int u) (.tup v) Q = (eqDW (.int u) (.tup v) Q) := rr (by with_unfolding_all rfl)
theorem o122 {Q : Bool → Prop} : eqW (.int u) (.lst v) Q = (eqDW (.int u) (.lst v) Q) := rr (by with_unfolding_all rfl)
theorem o123 {Q : Bool → Prop} : eqW (.int u) (.dct v) Q = (eqDW (.int u) (.dct v) Q) := rr (by with_unfolding_all rfl)
theorem o124 {Q : Bool → Prop} : eqW (.int u) (.opq v) Q = (eqDW (.int u) (.opq v) Q) := rr (by with_unfolding_all rfl)
theorem o125 {Q : Bool → Prop} : eqW (.str u) .non Q = (Q false) := rr (by with_unfolding_all rfl)
theorem o126 {Q : Bool → Prop} : eqW (.str u) (.bl v) Q = (Q false) := rr (by with_unfolding_all rfl)
theorem o127 {Q : Bool → Prop} : eqW (.str u) (.int v) Q = (Q false) := rr (by with_unfolding_all rfl)
theorem o128 {Q : Bool → Prop} : eqW (.str u) (.str v) Q = (Q (eqS u v)) := rr (by with_unfolding_all rfl)
theorem o129 {Q : Bool → Prop} : eqW (.str u) (.tup v) Q = (eqDW (.str u) (.tup v) Q) := rr (by with_unfolding_all rfl)
theorem o130 {Q : Bool → Prop} : eqW (.str u) (.lst v) Q = (eqDW (.str u) (.lst v) Q) := rr (by with_unfolding_all rfl)
theorem o131 {Q : Bool → Prop} : eqW (.str u) (.dct v) Q = (eqDW (.str u) (.dct v) Q) := rr (by with_unfolding_all rfl)
theorem o132 {Q : Bool → Prop} : eqW (.str u) (.opq v) Q = (eqDW (.str u) (.opq v) Q) := rr (by with_unfolding_all rfl)
theorem o133 {Q : Bool → Prop} : eqW (.tup u) .non Q = (eqDW (.tup u) .non Q) := rr (by with_unfolding_all rfl)
theorem o134 {Q : Bool → Prop} : eqW (.tup u) (.bl v) Q = (eqDW (.tup u) (.bl v) Q) := rr (by with_unfolding_all rfl)
theorem o135 {Q : Bool → Prop} : eqW (.tup u) (.int v) Q = (eqDW (.tup u) (.int v) Q) := rr (by with_unfolding_all rfl)
theorem o136 {Q : Bool → Prop} : eqW (.tup u) (.str v) Q = (eqDW (.tup u) (.str v) Q) := rr (by with_unfolding_all rfl)
theorem o137 {Q : Bool → Prop} : eqW (.tup u) (.tup v) Q = (eqDW (.tup u) (.tup v) Q) := rr (by with_unfolding_all rfl)
theorem o138 {Q : Bool → Prop} : eqW (.tup u) (.lst v) Q = (eqDW (.tup u) (.lst v) Q) := rr (by with_unfolding_all rfl)
theorem o139 {Q : Bool → Prop} : eqW (.tup u) (.dct v) Q = (eqDW (.tup u) (.dct v) Q) := rr (by with_unfolding_all rfl)
theorem o140 {Q : Bool → Prop} : eqW (.tup u) (.opq v) Q = (eqDW (.tup u) (.opq v) Q) := rr (by with_unfolding_all rfl)
theorem o141 {Q : Bool → Prop} : eqW (.lst u) .non Q = (eqDW (.lst u) .non Q) := rr (by with_unfolding_all rfl)
theorem o142 {Q : Bool → Prop} : eqW (.lst u) (.bl v) Q = (eqDW (.lst u) (.bl v) Q) := rr (by with_unfolding_all rfl)
theorem o143 {Q : Bool → Prop} : eqW (.lst u) (.int v) Q = (eqDW (.lst u) (.int v) Q) := rr (by with_unfolding_all rfl)
theorem o144 {Q : Bool → Prop} : eqW (.lst u) (.str v) Q = (eqDW (.lst u) (.str v) Q) := rr (by with_unfolding_all rfl)
theorem o145 {Q : Bool → Prop} : eqW (.lst u) (.tup v) Q = (eqDW (.lst u) (.tup v) Q) := rr (by with_unfolding_all rfl)
theorem o146 {Q : Bool → Prop} : eqW (.lst u) (.lst v) Q = (eqDW (.lst u) (.lst v) Q) := rr (by with_unfolding_all rfl)
theorem o147 {Q : Bool → Prop} : eqW (.lst u) (.dct v) Q = (eqDW (.lst u) (.dct v) Q) := rr (by with_unfolding_all rfl)
theorem o148 {Q : Bool → Prop} : eqW (.lst u) (.opq v) Q = (eqDW (.lst u) (.opq v) Q) := rr (by with_unfolding_all rfl)
theorem o149 {Q : Bool → Prop} : eqW (.dct u) .non Q = (eqDW (.dct u) .non Q) := rr (by with_unfolding_all rfl)
theorem o150 {Q : Bool → Prop} : eqW (.dct u) (.bl v) Q = (eqDW (.dct u) (.bl v) Q) := rr (by with_unfolding_all rfl)
theorem o151 {Q : Bool → Prop} : eqW (.dct u) (.int v) Q = (eqDW (.dct u) (.int v) Q) := rr (by with_unfolding_all rfl)
theorem o152 {Q : Bool → Prop} : eqW (.dct u) (.str v) Q = (eqDW (.dct u) (.str v) Q) := rr (by with_unfolding_all rfl)
theorem o153 {Q : Bool → Prop} : eqW (.dct u) (.tup v) Q = (eqDW (.dct u) (.tup v) Q) := rr (by with_unfolding_all rfl)
theorem o154 {Q : Bool → Prop} : eqW (.dct u) (.lst v) Q = (eqDW (.dct u) (.lst v) Q) := rr (by with_unfolding_all rfl)
theorem o155 {Q : Bool → Prop} : eqW (.dct u) (.dct v) Q = (eqDW (.dct u) (.dct v) Q) := rr (by with_unfolding_all rfl)
theorem o156 {Q : Bool → Prop} : eqW (.dct u) (.opq v) Q = (eqDW (.dct u) (.opq v) Q) := rr (by with_unfolding_all rfl)
theorem o157 {Q : Bool → Prop} : eqW (.opq u) .non Q = (eqDW (.opq u) .non Q) := rr (by with_unfolding_all rfl)
theorem o158 {Q : Bool → Prop} : eqW (.opq u) (.bl v) Q = (eqDW (.opq u) (.bl v) Q) := rr (by with_unfolding_all rfl)
theorem o159 {Q : Bool → Prop} : eqW (.opq u) (.int v) Q = (eqDW (.opq u) (.int v) Q) := rr (by with_unfolding_all rfl)
theorem o160 {Q : Bool → Prop} : eqW (.opq u) (.str v) Q = (eqDW (.opq u) (.str v) Q) := rr (by with_unfolding_all rfl)
theorem o161 {Q : Bool → Prop} : eqW (.opq u) (.tup v) Q = (eqDW (.opq u) (.tup v) Q) := rr (by with_unfolding_all rfl)
theorem o162 {Q : Bool → Prop} : eqW (.opq u) (.lst v) Q = (eqDW (.opq u) (.lst v) Q) := rr (by with_unfolding_all rfl)
theorem o163 {Q : Bool → Prop} : eqW (.opq u) (.dct v) Q = (eqDW (.opq u) (.dct v) Q) := rr (by with_unfolding_all rfl)
theorem o164 {Q : Bool → Prop} : eqW (.opq u) (.opq v) Q = (eqDW (.opq u) (.opq v) Q) := rr (by with_unfolding_all rfl)
theorem o165 {s : Sl} {r : DEnv} {m : List Bool} : keepD (true :: m) (s :: r) = s :: keepD m r := rr (by first | rfl | (with_unfolding_all rfl) | simp)
theorem o166 {s : Sl} {r : DEnv} {m : List Bool} : keepD (false :: m) (s :: r) = .un :: keepD m r := rr (by first | rfl | (with_unfolding_all rfl) | simp)
theorem o167 {s : Sl} {r : DEnv} : keepD [] (s :: r) = .un :: keepD [] r := rr (by first | rfl | (with_unfolding_all rfl) | simp)
theorem o168 {m : List Bool} : keepD m [] = [] := rr (keepD_nil)
theorem o169 {d : D} {r : DEnv} {m : List Bool} : PlM (true :: m) (.sh d :: r) = (Pl d ∧ PlM m r) := rr (plM_sh)
theorem o170 {s : Sl} {r : DEnv} {m : List Bool} : PlM (false :: m) (s :: r) = PlM m r := rr (by first | rfl | (with_unfolding_all rfl) | simp)
theorem o171 {r : DEnv} : PlM [] r = True := rr (plM_nil)
theorem o172 {d e : D} : (Sl.sh d = Sl.sh e) = (d = e) := rr (sl_sh)
theorem o173 {d e : List (Key × D)} : (D.dct d = D.dct e) = (d = e) := rr (d_dct)
theorem o174 {i : Int} : dK (.inl i) = .int i := rr (by first | rfl | (with_unfolding_all rfl) | simp)
theorem o175 {x : Str} : dK (.inr x) = .str x := rr (by first | rfl | (with_unfolding_all rfl) | simp)
theorem o176 {n : Nat} : ((no_index (OfNat.ofNat n) : Nat) : Int) = OfNat.ofNat n := rr (by first | rfl | (with_unfolding_all rfl) | simp)
theorem o177 {p : Prop} : (False → p) = True := rr (by first | rfl | (with_unfolding_all rfl) | simp)
theorem o178 {p : Prop} : (True → p) = p := rr (by first | rfl | (with_unfolding_all rfl) | simp)
theorem o179 {α : Type} {x : α} {l : List α} : (x :: l)[0]? = some x := rr (by first | rfl | (with_unfolding_all rfl) | simp)
theorem o180 {α : Type} {x : α} {l : List α} {i : Nat} : (x :: l)[i + 1]? = l[i]? := rr (by first | rfl | (with_unfolding_all rfl) | simp)
theorem o181 {α : Type} {x y : α} {l : List α} : (x :: l).set 0 y = y :: l := rr (by first | rfl | (with_unfolding_all rfl) | simp)
theorem o182 {α : Type} {x y : α} {l : List α} {i : Nat} : (x :: l).set (i + 1) y = x :: l.set i y := rr (by first | rfl | (with_unfolding_all rfl) | simp)
theorem o183 {p : Prop} : (True ∧ p) = p := rr (by first | rfl | (with_unfolding_all rfl) | simp)
theorem o184 {α : Type} {a b : α} : (some a = some b) = (a = b) := rr (by first | rfl | (with_unfolding_all rfl) | simp)
theorem o185 {α : Type} {b : Prop} {p : α → Prop} : (∃ x, b ∧ p x) = (b ∧ ∃ x, p x) := rr (by first | rfl | (with_unfolding_all rfl) | simp)
theorem o186 {α : Type} {a' : α} {p : α → Prop} : (∃ a, a' = a ∧ p a) = p a' := rr (by first | rfl | (with_unfolding_all rfl) | simp)
theorem o187 {α : Type} {a' : α} {p : α → Prop} : (∃ a, a = a' ∧ p a) = p a' := rr (by first | rfl | (with_unfolding_all rfl) | simp)
theorem o188 {b : Bool} : (b && true) = b := rr (by first | rfl | (with_unfolding_all rfl) | simp)
theorem o189 {b : Bool} : (true && b) = b := rr (by first | rfl | (with_unfolding_all rfl) | simp)
theorem o190 : (!true) = false := rr (by first | rfl | (with_unfolding_all rfl) | simp)
theorem o191 : (!false) = true := rr (by first | rfl | (with_unfolding_all rfl) | simp)
theorem o192 {b : Bool} : (b || false) = b := rr (by first | rfl | (with_unfolding_all rfl) | simp)
theorem o193 {b : Bool} : (false || b) = b := rr (by first | rfl | (with_unfolding_all rfl) | simp)
theorem o194 {b : Bool} : (true || b) = true := rr (by first | rfl | (with_unfolding_all rfl) | simp)
theorem o195 {b : Bool} : (b || true) = true := rr (by first | rfl | (with_unfolding_all rfl) | simp)
theorem o196 {b : Bool} : (false && b) = false := rr (by first | rfl | (with_unfolding_all rfl) | simp)
theorem o197 {b : Bool} : (b && false) = false := rr (by first | rfl | (with_unfolding_all rfl) | simp)
theorem o198 : (true = false) = False := rr (by first | rfl | (with_unfolding_all rfl) | simp)
theorem o199 : (false = true) = False := rr (by first | rfl | (with_unfolding_all rfl) | simp)
theorem o200 : (¬ True) = False := rr (by first | rfl | (with_unfolding_all rfl) | simp)
theorem o201 : (¬ False) = True := rr (by first | rfl | (with_unfolding_all rfl) | simp)
theorem o202 {b : Bool} : (¬ b = false) = (b = true) := rr (by first | rfl | (with_unfolding_all rfl) | simp)
theorem o203 {b : Bool} : ((!b) = true) = (b = false) := rr (by first | rfl | (with_unfolding_all rfl) | simp)
theorem o204 {p : Prop} [Decidable p] {α : Type} {x y : α} : (if ¬ p then x else y) = if p then y else x := rr (by first | rfl | (with_unfolding_all rfl) | simp)
theorem o205 : decide True = true := rr (by first | rfl | (with_unfolding_all rfl) | simp)
theorem o206 : decide False = false := rr (by first | rfl | (with_unfolding_all rfl) | simp)
theorem o207 {p : Prop} [Decidable p] : (decide p = true) = p := rr (by first | rfl | (with_unfolding_all rfl) | simp)
theorem o208 {p : Prop} [Decidable p] : (decide p = false) = ¬ p := rr (by first | rfl | (with_unfolding_all rfl) | simp)
theorem o209 {α : Type} {x : α} {l m : List α} : (x :: l) ++ m = x :: (l ++ m) := rr (by first | rfl | (with_unfolding_all rfl) | simp)
theorem o210 {α : Type} {m : List α} : [] ++ m = m := rr (by first | rfl | (with_unfolding_all rfl) | simp)
theorem o211 {α : Type} {p : α → Bool} {x : α} {l : List α} : (x :: l).any p = (p x || l.any p) := rr (by first | rfl | (with_unfolding_all rfl) | simp)
theorem o212 {α : Type} {p : α → Bool} : ([] : List α).any p = false := rr (by first | rfl | (with_unfolding_all rfl) | simp)
theorem o213 {α : Type} {x : α} {l : List α} : atI (x :: l) (0 : Int) = some x := rr (atI_0)
theorem o214 {α : Type} {x y : α} {l : List α} : atI (x :: y :: l) (1 : Int) = some y := rr (atI_1)
theorem o215 {α : Type} {x y z : α} {l : List α} : atI (x :: y :: z :: l) (2 : Int) = some z := rr (atI_2)
theorem o216 {α : Type} {x y z u : α} {l : List α} : atI (x :: y :: z :: u :: l) (3 : Int) = some u := rr (atI_3)
theorem o217 {α : Type} {x y z u v : α} {l : List α} : atI (x :: y :: z :: u :: v :: l) (4 : Int) = some v := rr (atI_4)
theorem o218 {α : Type} {x y z u v w : α} {l : List α} : atI (x :: y :: z :: u :: v :: w :: l) (5 : Int) = some w := rr (atI_5)
theorem o219 {α : Type} {x y z u v w t : α} {l : List α} : atI (x :: y :: z :: u :: v :: w :: t :: l) (6 : Int) = some t := rr (atI_6)
theorem o220 {i : Int} : keyD (.int i) = some (.inl i) := rr (by first | rfl | (with_unfolding_all rfl) | simp)
theorem o221 {x : Str} : keyD (.str x) = some (.inr x) := rr (by first | rfl | (with_unfolding_all rfl) | simp)
theorem o222 {ρ : DEnv} : wipeD ρ [] = ρ := rr (by first | rfl | (with_unfolding_all rfl) | simp)
theorem o223 {ρ : DEnv} {i : Nat} {l : List Nat} : wipeD ρ (i :: l) = (wipeD ρ l).set i .un := rr (by first | rfl | (with_unfolding_all rfl) | simp)
theorem o224 {i : Nat} : (Tg.nm i).slots = [i] := rr (by first | rfl | (with_unfolding_all rfl) | simp)
theorem o225 {l : List Tg} : (Tg.tup l).slots = slotsL l := rr (by first | rfl | (with_unfolding_all rfl) | simp)
theorem o226 : slotsL [] = [] := rr (by first | rfl | (with_unfolding_all rfl) | simp)
theorem o227 {t : Tg} {r : List Tg} : slotsL (t :: r) = t.slots ++ slotsL r := rr (by first | rfl | (with_unfolding_all rfl) | simp)
theorem o228 {i j : Int} : (ltB i j = true) = (i < j) := rr (ltB_true)
theorem o229 {i j : Int} : (leB i j = true) = (i ≤ j) := rr (leB_true)
theorem o230 {i j : Int} : (eqI i j = true) = (i = j) := rr (eqI_true)
theorem o231 {i j : Str} : (eqS i j = true) = (i = j) := rr (eqS_true)
theorem o232 {i j : Bool} : (eqBl i j = true) = (i = j) := rr (eqBl_true)
theorem o233 {i j : Int} : (ltB i j = false) = (j ≤ i) := rr (ltB_false)
theorem o234 {i j : Int} : (leB i j = false) = (j < i) := rr (leB_false)
theorem o235 {i j : Int} : (eqI i j = false) = ¬ (i = j) := rr (eqI_false)
theorem o236 {i j : Str} : (eqS i j = false) = ¬ (i = j) := rr (eqS_false)
theorem o237 {i j : Bool} : (eqBl i j = false) = ¬ (i = j) := rr (eqBl_false)
theorem o238 {c : Nat} {Q : D → Prop} : ordW [.str ⟨#[c]⟩] Q = Q (.int (c : Int)) := rr (ordW1)
theorem o239 {t u : String} : subTy t u = (t == u || (t == "bool" && u == "int")) := rr (by first | rfl | (with_unfolding_all rfl) | simp)
theorem o240 {p : Option Addr} {l : List D} : ofO (some (.own p l)) = some (p, .lst l) := rr (by first | rfl | (with_unfolding_all rfl) | simp)
theorem o241 {p : Option Addr} {l : List (Key × D)} : ofO (some (.ownK p l)) = some (p, .dct l) := rr (by first | rfl | (with_unfolding_all rfl) | simp)
theorem o242 {p : Option Addr} {l : List D} : slO p (.lst l) = .own p l := rr (by first | rfl | (with_unfolding_all rfl) | simp)
theorem o243 {p : Option Addr} {l : List (Key × D)} : slO p (.dct l) = .ownK p l := rr (by first | rfl | (with_unfolding_all rfl) | simp)
theorem o244 {p : Option Addr} {l : List D} : (Sl.own p l).isOwn = true := rr (by first | rfl | (with_unfolding_all rfl) | simp)
theorem o245 {p : Option Addr} {l : List (Key × D)} : (Sl.ownK p l).isOwn = true := rr (by first | rfl | (with_unfolding_all rfl) | simp)
theorem o246 {ρ : DEnv} : unS none ρ = ρ := rr (by first | rfl | (with_unfolding_all rfl) | simp)
theorem o247 {ρ : DEnv} {i : Nat} : unS (some i) ρ = ρ.set i .un := rr (by first | rfl | (with_unfolding_all rfl) | simp)
theorem o248 {ρ : DEnv} {dx : DX} : exS none dx ρ = ρ := rr (by first | rfl | (with_unfolding_all rfl) | simp)
theorem o249 {ρ : DEnv} {dx : DX} {i : Nat} : exS (some i) dx ρ = ρ.set i (.exc dx.1 dx.2) := rr (by first | rfl | (with_unfolding_all rfl) | simp)
theorem o250 {o : Option Nat} {Z : EndD} : Z.un o = { nx := fun ρ => noExc (unS o ρ) = true ∧ Z.nx (unS o ρ), rt := fun d ρ => noExc (unS o ρ) = true ∧ Z.rt d (unS o ρ), rtF := Z.rtF, bk := fun ρ => noExc (unS o ρ) = true ∧ Z.bk (unS o ρ), ct := fun ρ => noExc (unS o ρ) = true ∧ Z.ct (unS o ρ) } := rr (by first | rfl | (with_unfolding_all rfl) | simp)

theorem step_i {Γ : Gm} {E : DX → DEnv → Prop} {x : Sxs} {s : Sx} {l : Sxs} {N : DEnv → Prop} {R : D → DEnv → Prop} {F : Bool} {B C : DEnv → Prop} {ρ : DEnv} (h : x = .cons s l) (q : wS Γ E s { nx := wSs Γ E l { nx := N, rt := R, rtF := F, bk := B, ct := C }, rt := R, rtF := F, bk := B, ct := C } ρ) : wSs Γ E x { nx := N, rt := R, rtF := F, bk := B, ct := C } ρ := by rw [h]; exact q
theorem stop_i {Γ : Gm} {E : DX → DEnv → Prop} {x : Sxs} {N : DEnv → Prop} {R : D → DEnv → Prop} {F : Bool} {B C : DEnv → Prop} {ρ : DEnv} (h : x = .nil) (q : N ρ) : wSs Γ E x { nx := N, rt := R, rtF := F, bk := B, ct := C } ρ := by rw [h]; exact q
theorem forL_i {G : D → DEnv → (DEnv → Prop) → Prop} {T : EndD → DEnv → Prop} {N : DEnv → Prop} {R : D → DEnv → Prop} {F : Bool} {B C : DEnv → Prop} (I : List D → DEnv → Prop) (last : ∀ ρ, I [] ρ → N ρ)
    (step : ∀ d ds ρ, I (d :: ds) ρ → ∀ N2 : DEnv → Prop, (∀ ρ', I ds ρ' → N2 ρ') → G d ρ fun ρ1 => T { nx := N2, rt := R, rtF := F, bk := N, ct := N2 } ρ1) :
    ∀ (ds : List D) (ρ : DEnv), I ds ρ → forL G T { nx := N, rt := R, rtF := F, bk := B, ct := C } ds ρ := forL_ind (Z := { nx := N, rt := R, rtF := F, bk := B, ct := C }) I last step
theorem sq_i {Γ : Gm} {E : DX → DEnv → Prop} {x : Sxs} {s : Sx} {l : Sxs} {N0 : DEnv → Prop} {R : D → DEnv → Prop} {F : Bool} {B C : DEnv → Prop} {ρ : DEnv} (N : DEnv → Prop) (hx : x = .cons s l) (hN : ∀ ρ', N ρ' → wSs Γ E l { nx := N0, rt := R, rtF := F, bk := B, ct := C } ρ') (h : ∀ N' : DEnv → Prop, (∀ ρ', N ρ' → N' ρ') → wS Γ E s { nx := N', rt := R, rtF := F, bk := B, ct := C } ρ) : wSs Γ E x { nx := N0, rt := R, rtF := F, bk := B, ct := C } ρ := by rw [hx]; exact h _ hN

end DL
/-! WS: texts -/
namespace DL
open PySem PySem.Spec PyProof.Rows L2
def catF (l : List Str) : Str := l.foldl (· ++ ·) Str.empty
theorem join_cat : ∀ l : List Str, Txt.join (Str.ofString "") l = catF l := fun l => by
  have e0 : Str.ofString "" = Str.empty := by decide
  have gen : ∀ (l : List Str) (a : Str), l.foldl (· ++ ·) a = a ++ Str.join Str.empty l := by
    intro l
    induction l with
    | nil => intro a; exact (Str.append_empty a).symm
    | cons x r ih =>
      intro a
      show r.foldl (· ++ ·) (a ++ x) = _
      rw [ih]
      cases r with
      | nil => exact Str.append_empty _
      | cons y s =>
        show a ++ x ++ _ = a ++ (x ++ Str.empty ++ Str.join Str.empty (y :: s))
        rw [Str.append_empty, Str.append_assoc]
  have j : Txt.join (Str.ofString "") l = Str.join (Str.ofString "") l := by first | exact Str.glued_eq_join _ l | exact StrLaws.glued_eq_join _ l | exact Builtin.Str.glued_eq_join _ l
  rw [j, e0]
  unfold catF
  rw [gen, Str.empty_append]
theorem fold_list : ∀ (l : List Str) (a : Str), (l.foldl (· ++ ·) a).cps.toList = a.cps.toList ++ (l.map (·.cps.toList)).flatten
  | [], a => by simp
  | x :: r, a => by
    rw [List.foldl_cons, fold_list r, List.map_cons, List.flatten_cons, ← List.append_assoc, toL_app]
theorem cat_list (l : List Str) : (catF l).cps.toList = (l.map (·.cps.toList)).flatten := by
  unfold catF
  rw [fold_list]
  rfl
/-- a text of at most c signs, all of p -/
def strP (p : Nat → Bool) (c : Nat) (d : D) : Prop := ∃ s : Str, d = .str s ∧ s.length ≤ c ∧ s.cps.toList.all p = true
theorem to_strP {p : Nat → Bool} {c : Nat} : ∀ {l : List D}, (∀ x ∈ l, strP p c x) → ∃ ys : List Str, l = ys.map .str ∧ ∀ y ∈ ys, y.length ≤ c ∧ y.cps.toList.all p = true
  | [], _ => ⟨[], rfl, nofun⟩
  | x :: l, h => by
    obtain ⟨s, rfl, h1, h2⟩ := h x List.mem_cons_self
    obtain ⟨ys, rfl, hys⟩ := to_strP fun y hy => h y (List.mem_cons_of_mem _ hy)
    exact ⟨s :: ys, rfl, fun y hy => by
      rcases List.mem_cons.mp hy with z | z
      · rw [z]; exact ⟨h1, h2⟩
      · exact hys y z⟩
theorem sum_lens {c : Nat} : ∀ {ys : List Str}, (∀ y ∈ ys, y.length ≤ c) → (ys.map (·.length)).sum ≤ ys.length * c
  | [], _ => by simp
  | y :: ys, h => by
    have := sum_lens fun z hz => h z (List.mem_cons_of_mem _ hz)
    have := h y List.mem_cons_self
    rw [List.map_cons, List.sum_cons, List.length_cons, Nat.succ_mul]
    omega
theorem cat_len_sum (ys : List Str) : (catF ys).length = (ys.map (·.length)).sum := by
  rw [← toL_len, cat_list, List.length_flatten, List.map_map]
  rfl
theorem cat_len {c n : Nat} {ys : List Str} (hy : ∀ y ∈ ys, y.length ≤ c) (hn : ys.length ≤ n) : (catF ys).length ≤ n * c := by
  rw [cat_len_sum]
  exact Nat.le_trans (sum_lens hy) (Nat.mul_le_mul_right c hn)
theorem join_p {p : Nat → Bool} {l : List D} {c n : Nat} {R : D → Prop} (h : ∀ x ∈ l, strP p c x) (hn : l.length ≤ n) (hz : n * c ≤ 1000000) (q : ∀ s : Str, s.length ≤ n * c → s.cps.toList.all p = true → R (.str s)) :
    ∃ l', strsD (.lst l) = some l' ∧ ∃ ys : List Str, l' = ys.map D.str ∧ (ys.map (·.length)).sum + ys.length * (Str.ofString "").length ≤ 16777216 ∧ R (.str (Txt.join (Str.ofString "") ys)) := by
  obtain ⟨ys, rfl, hy⟩ := to_strP h
  rw [List.length_map] at hn
  have e0 : (Str.ofString "").length = 0 := by decide
  refine ⟨_, rfl, ys, rfl, ?_, ?_⟩
  · have := sum_lens fun y h => (hy y h).1
    have := Nat.mul_le_mul_right c hn
    rw [e0]; omega
  · rw [join_cat]
    refine q _ (cat_len (fun y h => (hy y h).1) hn) ?_
    rw [cat_list, List.all_flatten, List.all_map, List.all_eq_true]
    exact fun y h => (hy y h).2
theorem ix_any {l : List D} {r : Int} (P : D → Prop) (h0 : 0 ≤ r) (h1 : r < l.length) (hP : ∀ x ∈ l, P x) : ∃ d, atI l r = some d ∧ P d := by
  obtain ⟨j, rfl⟩ := Int.eq_ofNat_of_zero_le h0
  have hj : j < l.length := by omega
  exact ⟨l[j], atI_nat (List.getElem?_eq_getElem hj), hP _ (List.getElem_mem hj)⟩
theorem ix_sign {z : Str} {r : Int} (h0 : 0 ≤ r) (h1 : r < z.length) : ∃ c, atI z.cps.toList r = some c ∧ c ∈ z.cps.toList := by
  obtain ⟨j, rfl⟩ := Int.eq_ofNat_of_zero_le h0
  have hj : j < z.cps.toList.length := by rw [toL_len]; omega
  exact ⟨_, atI_nat (List.getElem?_eq_getElem hj), List.getElem_mem hj⟩
theorem cutS_len (s : Str) (a b : Option Int) : (cutS s a b).length ≤ s.length := by
  have e : (cutS s a b).cps.toList.length ≤ s.cps.toList.length := by
    unfold cutS
    rw [List.toList_toArray, List.length_take, List.length_drop]
    omega
  rw [toL_len, toL_len] at e
  exact e
theorem cutS_all {p : Nat → Bool} {s : Str} (a b : Option Int) (h : s.cps.toList.all p = true) : (cutS s a b).cps.toList.all p = true := by
  unfold cutS
  rw [List.toList_toArray, List.all_eq_true]
  exact fun c hc => List.all_eq_true.mp h c (List.mem_of_mem_drop (List.mem_of_mem_take hc))
theorem app_all {p : Nat → Bool} {s t : Str} (h : s.cps.toList.all p = true) (h2 : t.cps.toList.all p = true) : (s ++ t).cps.toList.all p = true := by
  rw [toL_app, List.all_append, h, h2]; rfl
/-- a list kept or not, item by item -/
theorem lcL_filter {G : D → DEnv → (DEnv → Prop) → Prop} {T : DEnv → (Bool → DEnv → Prop) → Prop} {E : DEnv → (D → DEnv → Prop) → Prop} {ρ : DEnv} {Q : List D → Prop} {items : List D} (f : D → Bool) (g : D → D) (hn : items.length ≤ sizeLine)
    (step : ∀ d acc, d ∈ items → acc.length < sizeLine → ∀ R : List D → Prop, (f d = true → R (acc ++ [g d])) → (f d = false → R acc) → G d ρ fun ρ2 => T ρ2 fun b ρ3 => ρ3 = ρ2 ∧ if b = true then E ρ3 fun y ρ4 => ρ4 = ρ3 ∧ acc.length < sizeLine ∧ R (acc ++ [y]) else R acc)
    (last : Q ((items.filter f).map g)) : lcL G T E ρ Q items [] := by
  refine lcL_ind (fun ds acc => acc.length + ds.length ≤ items.length ∧ (∀ d ∈ ds, d ∈ items) ∧ acc ++ (ds.filter f).map g = (items.filter f).map g) (fun acc h => ?_) (fun d ds acc h R hR => ?_) items [] ⟨by simp, fun _ h => h, by simp⟩
  · have z := h.2.2
    rw [List.filter_nil, List.map_nil, List.append_nil] at z
    rw [z]; exact last
  · have h1 := h.1
    rw [List.length_cons] at h1
    refine step d acc (h.2.1 d List.mem_cons_self) (by omega) R (fun hf => hR _ ⟨by rw [List.length_append, List.length_singleton]; omega, fun x hx => h.2.1 x (List.mem_cons_of_mem _ hx), ?_⟩) (fun hf => hR _ ⟨by omega, fun x hx => h.2.1 x (List.mem_cons_of_mem _ hx), ?_⟩)
    · rw [← h.2.2, List.filter_cons_of_pos hf, List.map_cons, List.append_assoc]; rfl
    · rw [← h.2.2, List.filter_cons_of_neg (by rw [hf]; exact Bool.false_ne_true)]
/-- every item, changed -/
theorem lcL_ex {G : D → DEnv → (DEnv → Prop) → Prop} {T : DEnv → (Bool → DEnv → Prop) → Prop} {E : DEnv → (D → DEnv → Prop) → Prop} {ρ : DEnv} {Q : List D → Prop} {items : List D} (g : D → D) (hn : items.length ≤ sizeLine)
    (step : ∀ d acc, d ∈ items → acc.length < sizeLine → ∀ R : List D → Prop, R (acc ++ [g d]) → G d ρ fun ρ2 => T ρ2 fun b ρ3 => ρ3 = ρ2 ∧ if b = true then E ρ3 fun y ρ4 => ρ4 = ρ3 ∧ acc.length < sizeLine ∧ R (acc ++ [y]) else R acc)
    (last : Q (items.map g)) : lcL G T E ρ Q items [] :=
  lcL_filter (fun _ => true) g hn (fun d acc hd hlt R h1 _ => step d acc hd hlt R (h1 rfl)) (by rw [List.filter_eq_self.mpr (fun _ _ => rfl)]; exact last)
end DL
namespace DL
open PySem PySem.Spec PyProof.Rows L2

/-! is_number: 0 -/
def n_is_number : List Str := ["value"]
def b_is_number_0 : Sxs := .cons (.ret (.and (.isT ["int"] (.v 0)) (.cons (.not (.isT ["bool"] (.v 0))) (.cons (.cmp .ge (.v 0) (.int 0)) .nil)))) .nil
def b_is_number : Sxs :=
  b_is_number_0
/-! is_row_of_signs: 1 -/
def n_is_row_of_signs : List Str := ["value", "sign"]
def b_is_row_of_signs_0 : Sxs := .cons (.ret (.bl true)) .nil
def b_is_row_of_signs_1 : Sxs := .cons (.ret (.bl false)) .nil
def b_is_row_of_signs_2 : Sxs := .cons (.ife (.and (.cmp .ne (.v 1) (.str "\n")) (.cons (.or (.not (.cmp2 .le .le (.gi "BLANK" 32) (.bi .ord (.cons (.v 1) .nil)) (.gi "TILDE" 126))) (.cons (.cmp .eq (.bi .ord (.cons (.v 1) .nil)) (.gi "PERCENT" 37)) .nil)) .nil)) b_is_row_of_signs_1 .nil) .nil
def b_is_row_of_signs_3 : Sxs := .cons (.for_ (.nm 1) .str (.cons (.v 0) .nil) b_is_row_of_signs_2) b_is_row_of_signs_0
def b_is_row_of_signs_4 : Sxs := .cons (.ret (.bl false)) .nil
def b_is_row_of_signs_5 : Sxs := .cons (.ife (.not (.tr (.isT ["str"] (.v 0)))) b_is_row_of_signs_4 .nil) b_is_row_of_signs_3
def b_is_row_of_signs : Sxs :=
  b_is_row_of_signs_5
/-! is_edit: 2 -/
def n_is_edit : List Str := ["value"]
def b_is_edit_0 : Sxs := .cons (.ret (.and (.cmp .le (.ix (.v 0) (.int 0)) (.ix (.v 0) (.int 1))) (.cons (.call 1 (.cons (.ix (.v 0) (.int 2)) .nil)) .nil))) .nil
def b_is_edit_1 : Sxs := .cons (.ret (.bl false)) .nil
def b_is_edit_2 : Sxs := .cons (.ife (.or (.not (.tr (.isT ["tuple"] (.v 0)))) (.cons (.cmp .ne (.bi .len (.cons (.v 0) .nil)) (.int 3)) (.cons (.not (.tr (.call 0 (.cons (.ix (.v 0) (.int 0)) .nil)))) (.cons (.not (.tr (.call 0 (.cons (.ix (.v 0) (.int 1)) .nil)))) .nil)))) b_is_edit_1 .nil) b_is_edit_0
def b_is_edit : Sxs :=
  b_is_edit_2
/-! need_edit: 3 -/
def n_need_edit : List Str := ["text", "edit"]
def b_need_edit_0 : Sxs := .cons (.rse 3 (.cons (.v 1) .nil)) .nil
def b_need_edit_1 : Sxs := .cons (.ife (.or (.not (.tr (.call 2 (.cons (.v 1) .nil)))) (.cons (.cmp .gt (.ix (.v 1) (.int 1)) (.bi .len (.cons (.v 0) .nil))) .nil)) b_need_edit_0 .nil) .nil
def b_need_edit : Sxs :=
  b_need_edit_1
/-! edited: 4 -/
def n_edited : List Str := ["text", "edit", "start", "end", "new"]
def b_edited_0 : Sxs := .cons (.ret (.bin .add (.bin .add (.sl (.v 0) .nil (.cons (.v 2) .nil)) (.v 4)) (.sl (.v 0) (.cons (.v 3) .nil) .nil))) .nil
def b_edited_1 : Sxs := .cons (.asg (.tup [(.nm 2), (.nm 3), (.nm 4)]) (.v 1)) b_edited_0
def b_edited_2 : Sxs := .cons (.expr (.call 3 (.cons (.v 0) (.cons (.v 1) .nil)))) b_edited_1
def b_edited : Sxs :=
  b_edited_2
/-! do_overlap: 5 -/
def n_do_overlap : List Str := ["one", "other"]
def b_do_overlap_0 : Sxs := .cons (.ret (.and (.cmp .lt (.ix (.v 0) (.int 0)) (.ix (.v 1) (.int 1))) (.cons (.cmp .lt (.ix (.v 1) (.int 0)) (.ix (.v 0) (.int 1))) .nil))) .nil
def b_do_overlap_1 : Sxs := .cons (.ret (.and (.cmp .le (.ix (.v 0) (.int 0)) (.ix (.v 1) (.int 1))) (.cons (.cmp .le (.ix (.v 1) (.int 0)) (.ix (.v 0) (.int 1))) .nil))) .nil
def b_do_overlap_2 : Sxs := .cons (.ife (.or (.cmp .eq (.ix (.v 0) (.int 0)) (.ix (.v 0) (.int 1))) (.cons (.cmp .eq (.ix (.v 1) (.int 0)) (.ix (.v 1) (.int 1))) .nil)) b_do_overlap_1 .nil) b_do_overlap_0
def b_do_overlap : Sxs :=
  b_do_overlap_2
/-! growth_of: 6 -/
def n_growth_of : List Str := ["entry"]
def b_growth_of_0 : Sxs := .cons (.ret (.bin .sub (.bi .len (.cons (.ix (.v 0) (.int 3)) .nil)) (.bin .sub (.ix (.v 0) (.int 2)) (.ix (.v 0) (.int 1))))) .nil
def b_growth_of : Sxs :=
  b_growth_of_0
/-! shifted: 7 -/
def n_shifted : List Str := ["edit", "paper", "name", "by", "entry"]
def b_shifted_0 : Sxs := .cons (.ret (.tup (.cons (.bin .add (.ix (.v 0) (.int 0)) (.v 3)) (.cons (.bin .add (.ix (.v 0) (.int 1)) (.v 3)) (.cons (.ix (.v 0) (.int 2)) .nil))))) .nil
def b_shifted_1 : Sxs := .cons (.asg (.nm 3) (.bin .add (.v 3) (.call 6 (.cons (.v 4) .nil)))) .nil
def b_shifted_2 : Sxs := .cons (.ife (.cmp .le (.ix (.v 4) (.int 2)) (.ix (.v 0) (.int 0))) b_shifted_1 .nil) .nil
def b_shifted_3 : Sxs := .cons (.rse 10 (.cons (.str "place") .nil)) .nil
def b_shifted_4 : Sxs := .cons (.ife (.tr (.call 5 (.cons (.sl (.v 4) (.cons (.int 1) .nil) (.cons (.int 3) .nil)) (.cons (.sl (.v 0) .nil (.cons (.int 2) .nil)) .nil)))) b_shifted_3 .nil) b_shifted_2
def b_shifted_5 : Sxs := .cons (.ife (.cmp .eq (.ix (.v 4) (.int 0)) (.v 2)) b_shifted_4 .nil) .nil
def b_shifted_6 : Sxs := .cons (.for_ (.nm 4) .seq (.cons (.v 1) .nil) b_shifted_5) b_shifted_0
def b_shifted_7 : Sxs := .cons (.asg (.nm 3) (.int 0)) b_shifted_6
def b_shifted : Sxs :=
  b_shifted_7
/-! is_name: 25 -/
def n_is_name : List Str := ["value", "sign"]
def e_is_name_0 : Ex := (.cmp .inn (.v 1) (.gs "LETTERS" "abcdefghijklmnopqrstuvwxyz"))
def b_is_name_0 : Sxs := .cons (.ret (.bi .all (.cons (.lc (.nm 1) .str (.cons (.v 0) .nil) .nil e_is_name_0) .nil))) .nil
def b_is_name_1 : Sxs := .cons (.ret (.bl false)) .nil
def b_is_name_2 : Sxs := .cons (.ife (.or (.not (.tr (.isT ["str"] (.v 0)))) (.cons (.cmp .gt (.bi .len (.cons (.v 0) .nil)) (.gi "MOST_LETTERS" 8)) .nil)) b_is_name_1 .nil) b_is_name_0
def b_is_name : Sxs :=
  b_is_name_2
/-! are_apart: 26 -/
def n_are_apart : List Str := ["one", "following"]
def b_are_apart_0 : Sxs := .cons (.ret (.or (.cmp .lt (.ix (.v 0) (.int 1)) (.ix (.v 0) (.int 2))) (.cons (.cmp .lt (.ix (.v 1) (.int 1)) (.ix (.v 1) (.int 2))) (.cons (.cmp .lt (.ix (.v 0) (.int 1)) (.ix (.v 1) (.int 1))) .nil)))) .nil
def b_are_apart_1 : Sxs := .cons (.ret (.bl false)) .nil
def b_are_apart_2 : Sxs := .cons (.ife (.cmp .gt (.ix (.v 0) (.int 2)) (.ix (.v 1) (.int 1))) b_are_apart_1 .nil) b_are_apart_0
def b_are_apart_3 : Sxs := .cons (.ret (.cmp .lt (.ix (.v 0) (.int 0)) (.ix (.v 1) (.int 0)))) .nil
def b_are_apart_4 : Sxs := .cons (.ife (.cmp .ne (.ix (.v 0) (.int 0)) (.ix (.v 1) (.int 0))) b_are_apart_3 .nil) b_are_apart_2
def b_are_apart : Sxs :=
  b_are_apart_4
/-! is_paper: 27 -/
def n_is_paper : List Str := ["value", "entry", "at"]
def e_is_paper_0 : Ex := (.call 26 (.cons (.ix (.v 0) (.v 2)) (.cons (.ix (.v 0) (.bin .add (.v 2) (.int 1))) .nil)))
def b_is_paper_0 : Sxs := .cons (.ret (.bi .all (.cons (.lc (.nm 2) .rng1 (.cons (.bin .sub (.bi .len (.cons (.v 0) .nil)) (.int 1)) .nil) .nil e_is_paper_0) .nil))) .nil
def b_is_paper_1 : Sxs := .cons (.ret (.bl false)) .nil
def b_is_paper_2 : Sxs := .cons (.ife (.or (.not (.tr (.isT ["tuple"] (.v 1)))) (.cons (.cmp .ne (.bi .len (.cons (.v 1) .nil)) (.int 4)) (.cons (.not (.tr (.call 25 (.cons (.ix (.v 1) (.int 0)) .nil)))) (.cons (.not (.tr (.call 2 (.cons (.sl (.v 1) (.cons (.int 1) .nil) .nil) .nil)))) .nil)))) b_is_paper_1 .nil) .nil
def b_is_paper_3 : Sxs := .cons (.for_ (.nm 1) .seq (.cons (.v 0) .nil) b_is_paper_2) b_is_paper_0
def b_is_paper_4 : Sxs := .cons (.ret (.bl false)) .nil
def b_is_paper_5 : Sxs := .cons (.ife (.not (.tr (.isT ["tuple"] (.v 0)))) b_is_paper_4 .nil) b_is_paper_3
def b_is_paper : Sxs :=
  b_is_paper_5
/-! changed_by: 28 -/
def n_changed_by : List Str := ["texts", "paper", "found", "name", "text", "entry"]
def b_changed_by_0 : Sxs := .cons (.ret (.bi .tuple (.cons (.b 2) .nil))) .nil
def b_changed_by_1 : Sxs := .cons (.app 2 (.tup (.cons (.v 3) (.cons (.v 4) .nil)))) .nil
def b_changed_by_2 : Sxs := .cons (.asg (.nm 4) (.bin .add (.bin .add (.sl (.v 4) .nil (.cons (.ix (.v 5) (.int 1)) .nil)) (.ix (.v 5) (.int 3))) (.sl (.v 4) (.cons (.ix (.v 5) (.int 2)) .nil) .nil))) .nil
def b_changed_by_3 : Sxs := .cons (.ife (.cmp .eq (.ix (.v 5) (.int 0)) (.v 3)) b_changed_by_2 .nil) .nil
def b_changed_by_4 : Sxs := .cons (.for_ (.nm 5) .seq (.cons (.rv (.v 1)) .nil) b_changed_by_3) b_changed_by_1
def b_changed_by_5 : Sxs := .cons (.for_ (.tup [(.nm 3), (.nm 4)]) .seq (.cons (.v 0) .nil) b_changed_by_4) b_changed_by_0
def b_changed_by_6 : Sxs := .cons (.own 2 (.lst .nil)) b_changed_by_5
def b_changed_by : Sxs :=
  b_changed_by_6
end DL
namespace DL
open PySem PySem.Spec PyProof.Rows L2

/-! law_mixed: 8 -/
def n_law_mixed : List Str := ["_law_cell", "_law_turn", "_law_one", "_law_two"]
def b_law_mixed_0 : Sxs := .cons (.ret (.bin .mod (.bi .int (.cons (.bin .add (.bin .add (.bin .mul (.v 3) (.int 16807)) (.bin .fdiv (.v 3) (.int 1013))) (.v 1)) .nil)) (.int 998244353))) .nil
def b_law_mixed_1 : Sxs := .cons (.asg (.nm 3) (.bin .mod (.bi .int (.cons (.bin .add (.bin .add (.bin .mul (.v 2) (.v 2)) (.bin .mul (.v 1) (.int 40692))) (.bin .fdiv (.v 2) (.int 7))) .nil)) (.int 2147483399))) b_law_mixed_0
def b_law_mixed_2 : Sxs := .cons (.asg (.nm 2) (.bin .mod (.bi .int (.cons (.bin .add (.bin .add (.bin .mul (.v 0) (.int 48271)) (.bin .mul (.v 1) (.int 69621))) (.int 12345)) .nil)) (.int 2147483647))) b_law_mixed_1
def b_law_mixed : Sxs :=
  b_law_mixed_2
/-! law_draw: 9 -/
def n_law_draw : List Str := ["_law_state", "_law_limit", "_law_cells", "_law_found", "_law_cell"]
def b_law_draw_0 : Sxs := .cons (.ret (.v 3)) .nil
def b_law_draw_1 : Sxs := .cons (.seti 0 (.int 2) (.bin .mul (.bin .fdiv (.bi .int (.cons (.ix (.b 0) (.int 2)) .nil)) (.v 1)) (.bi .int (.cons (.cmp .gt (.ix (.b 0) (.int 5)) (.int 0)) .nil)))) b_law_draw_0
def b_law_draw_2 : Sxs := .cons (.seti 0 (.int 5) (.bin .sub (.ix (.b 0) (.int 5)) (.int 1))) b_law_draw_1
def b_law_draw_3 : Sxs := .cons (.asg (.nm 3) (.bin .mod (.bi .int (.cons (.ix (.b 0) (.int 2)) .nil)) (.v 1))) b_law_draw_2
def b_law_draw_4 : Sxs := .cons (.ret (.bin .mod (.bi .int (.cons (.call 8 (.cons (.ix (.wk (.ix (.b 0) (.int 6))) (.bin .mod (.bi .int (.cons (.ix (.b 0) (.int 3)) .nil)) (.bi .len (.cons (.v 2) .nil)))) (.cons (.ix (.b 0) (.int 3)) .nil))) .nil)) (.v 1))) .nil
def b_law_draw_5 : Sxs := .cons (.ife (.or (.cmp .eq (.ix (.b 0) (.int 4)) (.int 1)) (.cons (.cmp .eq (.ix (.b 0) (.int 2)) (.int 0)) .nil)) b_law_draw_4 .nil) b_law_draw_3
def b_law_draw_6 : Sxs := .cons (.seti 0 (.int 5) (.int 60)) .nil
def b_law_draw_7 : Sxs := .cons (.seti 0 (.int 2) (.v 4)) b_law_draw_6
def b_law_draw_8 : Sxs := .cons (.ret (.bin .mod (.bi .int (.cons (.call 8 (.cons (.v 4) (.cons (.ix (.b 0) (.int 3)) .nil))) .nil)) (.v 1))) .nil
def b_law_draw_9 : Sxs := .cons (.ife (.cmp .lt (.v 4) (.bin .pow (.int 10) (.int 18))) b_law_draw_8 .nil) b_law_draw_7
def b_law_draw_10 : Sxs := .cons (.seti 0 (.int 1) (.bin .add (.ix (.b 0) (.int 1)) (.int 1))) b_law_draw_9
def b_law_draw_11 : Sxs := .cons (.asg (.nm 4) (.ix (.v 2) (.ix (.b 0) (.int 1)))) b_law_draw_10
def b_law_draw_12 : Sxs := .cons (.ife (.and (.cmp .eq (.ix (.b 0) (.int 4)) (.int 0)) (.cons (.cmp .eq (.ix (.b 0) (.int 2)) (.int 0)) (.cons (.cmp .lt (.ix (.b 0) (.int 1)) (.bi .len (.cons (.v 2) .nil))) .nil))) b_law_draw_11 .nil) b_law_draw_5
def b_law_draw_13 : Sxs := .cons (.ret (.bin .mod (.bi .int (.cons (.call 8 (.cons (.int 0) (.cons (.ix (.b 0) (.int 3)) .nil))) .nil)) (.v 1))) .nil
def b_law_draw_14 : Sxs := .cons (.ife (.cmp .eq (.bi .len (.cons (.v 2) .nil)) (.int 0)) b_law_draw_13 .nil) b_law_draw_12
def b_law_draw_15 : Sxs := .cons (.asg (.nm 2) (.wk (.ix (.b 0) (.int 0)))) b_law_draw_14
def b_law_draw_16 : Sxs := .cons (.seti 0 (.int 3) (.bin .add (.ix (.b 0) (.int 3)) (.int 1))) b_law_draw_15
def b_law_draw : Sxs :=
  b_law_draw_16
/-! law_start: 10 -/
def n_law_start : List Str := ["_law_script", "_law_state", "_law_cell"]
def e_law_start_0 : Ex := (.bin .mod (.bi .int (.cons (.v 2) .nil)) (.int 2147483647))
def b_law_start_0 : Sxs := .cons (.ret (.mv 1)) .nil
def b_law_start_1 : Sxs := .cons (.exO 9 1 (.cons (.int 2) .nil)) b_law_start_0
def b_law_start_2 : Sxs := .cons (.seti 1 (.int 4) (.int 1)) .nil
def b_law_start_3 : Sxs := .cons (.ife (.or (.cmp .eq (.bi .len (.cons (.v 0) .nil)) (.int 0)) (.cons (.cmp .eq (.bin .mod (.bi .int (.cons (.ix (.v 0) (.int 0)) .nil)) (.int 2)) (.int 1)) .nil)) b_law_start_2 .nil) b_law_start_1
def b_law_start_4 : Sxs := .cons (.own 1 (.lst (.cons (.bi .list (.cons (.v 0) .nil)) (.cons (.int 0) (.cons (.int 0) (.cons (.int 0) (.cons (.int 0) (.cons (.int 0) (.cons (.lc (.nm 2) .seq (.cons (.v 0) .nil) .nil e_law_start_0) .nil))))))))) b_law_start_3
def b_law_start : Sxs :=
  b_law_start_4
/-! law_same0: 12 -/
def n_law_same0 : List Str := ["_law_actual", "_law_due_here", "_law_k"]
def b_law_same0_0 : Sxs := .cons (.ret (.and (.isT ["str"] (.v 0)) (.cons (.cmp .eq (.v 0) (.v 1)) .nil))) .nil
def b_law_same0_1 : Sxs := .cons (.ret (.and (.isT ["int"] (.v 0)) (.cons (.not (.isT ["bool"] (.v 0))) (.cons (.cmp .eq (.v 0) (.v 1)) .nil)))) .nil
def b_law_same0_2 : Sxs := .cons (.ife (.tr (.isT ["int"] (.v 1))) b_law_same0_1 .nil) b_law_same0_0
def b_law_same0_3 : Sxs := .cons (.ret (.and (.isT ["bool"] (.v 0)) (.cons (.cmp .eq (.v 0) (.v 1)) .nil))) .nil
def b_law_same0_4 : Sxs := .cons (.ife (.tr (.isT ["bool"] (.v 1))) b_law_same0_3 .nil) b_law_same0_2
def b_law_same0_5 : Sxs := .cons (.ret (.cmp .is (.v 0) .non)) .nil
def b_law_same0_6 : Sxs := .cons (.ife (.cmp .is (.v 1) .non) b_law_same0_5 .nil) b_law_same0_4
def b_law_same0_7 : Sxs := .cons (.ret (.bl true)) .nil
def b_law_same0_8 : Sxs := .cons (.ret (.bl false)) .nil
def b_law_same0_9 : Sxs := .cons (.ife (.not (.tr (.call 11 (.cons (.ix (.v 0) (.v 2)) (.cons (.ix (.v 1) (.v 2)) .nil))))) b_law_same0_8 .nil) .nil
def b_law_same0_10 : Sxs := .cons (.for_ (.nm 2) .rng1 (.cons (.bi .len (.cons (.v 1) .nil)) .nil) b_law_same0_9) b_law_same0_7
def b_law_same0_11 : Sxs := .cons (.ret (.bl false)) .nil
def b_law_same0_12 : Sxs := .cons (.ife (.cmp .ne (.bi .len (.cons (.v 0) .nil)) (.bi .len (.cons (.v 1) .nil))) b_law_same0_11 .nil) b_law_same0_10
def b_law_same0_13 : Sxs := .cons (.ret (.bl false)) .nil
def b_law_same0_14 : Sxs := .cons (.ife (.or (.cmp .ne (.isT ["tuple"] (.v 1)) (.isT ["tuple"] (.v 0))) (.cons (.cmp .ne (.isT ["list"] (.v 1)) (.isT ["list"] (.v 0))) .nil)) b_law_same0_13 .nil) b_law_same0_12
def b_law_same0_15 : Sxs := .cons (.ife (.or (.tr (.isT ["tuple"] (.v 1))) (.cons (.tr (.isT ["list"] (.v 1))) .nil)) b_law_same0_14 .nil) b_law_same0_6
def b_law_same0 : Sxs :=
  b_law_same0_15
/-! law_same1: 13 -/
def n_law_same1 : List Str := ["_law_actual", "_law_due_here", "_law_k"]
def b_law_same1_0 : Sxs := .cons (.ret (.and (.isT ["str"] (.v 0)) (.cons (.cmp .eq (.v 0) (.v 1)) .nil))) .nil
def b_law_same1_1 : Sxs := .cons (.ret (.and (.isT ["int"] (.v 0)) (.cons (.not (.isT ["bool"] (.v 0))) (.cons (.cmp .eq (.v 0) (.v 1)) .nil)))) .nil
def b_law_same1_2 : Sxs := .cons (.ife (.tr (.isT ["int"] (.v 1))) b_law_same1_1 .nil) b_law_same1_0
def b_law_same1_3 : Sxs := .cons (.ret (.and (.isT ["bool"] (.v 0)) (.cons (.cmp .eq (.v 0) (.v 1)) .nil))) .nil
def b_law_same1_4 : Sxs := .cons (.ife (.tr (.isT ["bool"] (.v 1))) b_law_same1_3 .nil) b_law_same1_2
def b_law_same1_5 : Sxs := .cons (.ret (.cmp .is (.v 0) .non)) .nil
def b_law_same1_6 : Sxs := .cons (.ife (.cmp .is (.v 1) .non) b_law_same1_5 .nil) b_law_same1_4
def b_law_same1_7 : Sxs := .cons (.ret (.bl true)) .nil
def b_law_same1_8 : Sxs := .cons (.ret (.bl false)) .nil
def b_law_same1_9 : Sxs := .cons (.ife (.not (.tr (.call 12 (.cons (.ix (.v 0) (.v 2)) (.cons (.ix (.v 1) (.v 2)) .nil))))) b_law_same1_8 .nil) .nil
def b_law_same1_10 : Sxs := .cons (.for_ (.nm 2) .rng1 (.cons (.bi .len (.cons (.v 1) .nil)) .nil) b_law_same1_9) b_law_same1_7
def b_law_same1_11 : Sxs := .cons (.ret (.bl false)) .nil
def b_law_same1_12 : Sxs := .cons (.ife (.cmp .ne (.bi .len (.cons (.v 0) .nil)) (.bi .len (.cons (.v 1) .nil))) b_law_same1_11 .nil) b_law_same1_10
def b_law_same1_13 : Sxs := .cons (.ret (.bl false)) .nil
def b_law_same1_14 : Sxs := .cons (.ife (.or (.cmp .ne (.isT ["tuple"] (.v 1)) (.isT ["tuple"] (.v 0))) (.cons (.cmp .ne (.isT ["list"] (.v 1)) (.isT ["list"] (.v 0))) .nil)) b_law_same1_13 .nil) b_law_same1_12
def b_law_same1_15 : Sxs := .cons (.ife (.or (.tr (.isT ["tuple"] (.v 1))) (.cons (.tr (.isT ["list"] (.v 1))) .nil)) b_law_same1_14 .nil) b_law_same1_6
def b_law_same1 : Sxs :=
  b_law_same1_15
/-! law_signs: 14 -/
def n_law_signs : List Str := ["_law_signs_here"]
def b_law_signs_0 : Sxs := .cons (.ret (.bin .add (.v 0) (.str "abcdefghijklmnopqrstuvwxyz{|}~\n"))) .nil
def b_law_signs_1 : Sxs := .cons (.asg (.nm 0) (.str " !\"#$&'()*+,-./0123456789:;<=>?@ABCDEFGHIJKLMNOPQRSTUVWXYZ[\\]^_`")) b_law_signs_0
def b_law_signs : Sxs :=
  b_law_signs_1
/-! law_string: 15 -/
def n_law_string : List Str := ["_law_state", "_law_most", "_law_signs_here", "_law_size", "_law_k"]
def e_law_string_0 : Ex := (.ix (.v 2) (.call 9 (.cons (.v 0) (.cons (.bi .len (.cons (.v 2) .nil)) .nil))))
def b_law_string_0 : Sxs := .cons (.ret (.me .join (.str "") (.cons (.lc (.nm 4) .rng1 (.cons (.v 3) .nil) .nil e_law_string_0) .nil))) .nil
def b_law_string_1 : Sxs := .cons (.asg (.nm 3) (.ix (.lst (.cons (.call 9 (.cons (.v 0) (.cons (.bin .add (.v 1) (.int 1)) .nil))) (.cons (.call 9 (.cons (.v 0) (.cons (.int 5) .nil))) (.cons (.int 0) (.cons (.v 1) .nil))))) (.call 9 (.cons (.v 0) (.cons (.int 4) .nil))))) b_law_string_0
def b_law_string_2 : Sxs := .cons (.asg (.nm 2) (.ix (.lst (.cons (.call 14 .nil) (.cons (.str "ab \n") (.cons (.str "ab") .nil)))) (.call 9 (.cons (.v 0) (.cons (.int 3) .nil))))) b_law_string_1
def b_law_string : Sxs :=
  b_law_string_2
/-! law_text: 16 -/
def n_law_text : List Str := ["_law_state", "_law_text_here", "_law_at"]
def e_law_text_0 : Ex := (.bin .add (.sl (.v 1) (.cons (.v 2) .nil) (.cons (.bin .add (.v 2) (.int 40)) .nil)) (.str "\n"))
def b_law_text_0 : Sxs := .cons (.ret (.me .join (.str "") (.cons (.lc (.nm 2) .rng3 (.cons (.int 0) (.cons (.bi .len (.cons (.v 1) .nil)) (.cons (.int 40) .nil))) .nil e_law_text_0) .nil))) .nil
def b_law_text_1 : Sxs := .cons (.asg (.nm 1) (.call 15 (.cons (.v 0) (.cons (.int 120) .nil)))) b_law_text_0
def b_law_text : Sxs :=
  b_law_text_1
/-! law_edits: 17 -/
def n_law_edits : List Str := ["_law_state", "_law_size", "_law_found", "_law_at", "_law_k", "_law_start_here", "_law_end"]
def b_law_edits_0 : Sxs := .cons (.ret (.v 2)) .nil
def b_law_edits_1 : Sxs := .cons (.asg (.nm 3) (.v 6)) .nil
def b_law_edits_2 : Sxs := .cons (.app 2 (.tup (.cons (.v 5) (.cons (.v 6) (.cons (.call 15 (.cons (.v 0) (.cons (.int 20) .nil))) .nil))))) b_law_edits_1
def b_law_edits_3 : Sxs := .cons (.ife (.or (.cmp .eq (.bi .len (.cons (.b 2) .nil)) (.int 0)) (.cons (.cmp .gt (.v 6) (.v 5)) (.cons (.cmp .ne (.sl (.ix (.b 2) (.bin .sub (.bi .len (.cons (.b 2) .nil)) (.int 1))) .nil (.cons (.int 2) .nil)) (.tup (.cons (.v 5) (.cons (.v 5) .nil)))) .nil))) b_law_edits_2 .nil) .nil
def b_law_edits_4 : Sxs := .cons (.asg (.nm 6) (.bi .min2 (.cons (.bi .int (.cons (.v 6) .nil)) (.cons (.bi .int (.cons (.v 1) .nil)) .nil)))) b_law_edits_3
def b_law_edits_5 : Sxs := .cons (.asg (.nm 5) (.bi .min2 (.cons (.bi .int (.cons (.v 5) .nil)) (.cons (.bi .int (.cons (.v 1) .nil)) .nil)))) b_law_edits_4
def b_law_edits_6 : Sxs := .cons (.asg (.nm 6) (.bin .add (.v 5) (.ix (.lst (.cons (.int 0) (.cons (.int 1) (.cons (.call 9 (.cons (.v 0) (.cons (.bin .add (.v 1) (.int 1)) .nil))) .nil)))) (.call 9 (.cons (.v 0) (.cons (.int 3) .nil)))))) b_law_edits_5
def b_law_edits_7 : Sxs := .cons (.asg (.nm 5) (.bin .add (.v 3) (.ix (.lst (.cons (.int 0) (.cons (.int 1) (.cons (.call 9 (.cons (.v 0) (.cons (.bin .add (.bin .sub (.v 1) (.v 3)) (.int 1)) .nil))) .nil)))) (.call 9 (.cons (.v 0) (.cons (.int 3) .nil)))))) b_law_edits_6
def b_law_edits_8 : Sxs := .cons (.for_ (.nm 4) .rng1 (.cons (.call 9 (.cons (.v 0) (.cons (.int 5) .nil))) .nil) b_law_edits_7) b_law_edits_0
def b_law_edits_9 : Sxs := .cons (.asg (.nm 3) (.int 0)) b_law_edits_8
def b_law_edits_10 : Sxs := .cons (.own 2 (.lst .nil)) b_law_edits_9
def b_law_edits : Sxs :=
  b_law_edits_10
/-! law_done: 18 -/
def n_law_done : List Str := ["_law_text_here", "_law_edits_here", "_law_found", "_law_at", "_law_edit"]
def b_law_done_0 : Sxs := .cons (.ret (.bin .add (.v 2) (.sl (.v 0) (.cons (.v 3) .nil) .nil))) .nil
def b_law_done_1 : Sxs := .cons (.asg (.nm 3) (.ix (.v 4) (.int 1))) .nil
def b_law_done_2 : Sxs := .cons (.asg (.nm 2) (.bin .add (.bin .add (.v 2) (.sl (.v 0) (.cons (.v 3) .nil) (.cons (.ix (.v 4) (.int 0)) .nil))) (.ix (.v 4) (.int 2)))) b_law_done_1
def b_law_done_3 : Sxs := .cons (.for_ (.nm 4) .seq (.cons (.v 1) .nil) b_law_done_2) b_law_done_0
def b_law_done_4 : Sxs := .cons (.asg (.nm 3) (.int 0)) b_law_done_3
def b_law_done_5 : Sxs := .cons (.asg (.nm 2) (.str "")) b_law_done_4
def b_law_done : Sxs :=
  b_law_done_5
/-! law_names: 19 -/
def n_law_names : List Str := ["_law_state", "_law_many", "_law_names_here", "_law_k", "_law_name", "_law_j", "_law_other"]
def e_law_names_2 : Ex := (.ix (.str "ab") (.call 9 (.cons (.v 0) (.cons (.int 2) .nil))))
def e_law_names_1 : Ex := (.ix (.str "abcdefghijklmnopqrstuvwxyz") (.call 9 (.cons (.v 0) (.cons (.int 26) .nil))))
def e_law_names_0 : Ex := (.v 6)
def t_law_names_0 : Exs := (.cons (.cmp .lt (.v 6) (.v 4)) .nil)
def b_law_names_0 : Sxs := .cons (.ret (.v 2)) .nil
def b_law_names_1 : Sxs := .cons (.ins 2 (.bi .len (.cons (.lc (.nm 6) .seq (.cons (.b 2) .nil) t_law_names_0 e_law_names_0) .nil)) (.v 4)) .nil
def b_law_names_2 : Sxs := .cons (.ife (.cmp .nin (.v 4) (.b 2)) b_law_names_1 .nil) .nil
def b_law_names_3 : Sxs := .cons (.asg (.nm 4) (.me .join (.str "") (.cons (.lc (.nm 5) .rng1 (.cons (.bin .add (.int 1) (.call 9 (.cons (.v 0) (.cons (.int 8) .nil)))) .nil) .nil e_law_names_1) .nil))) .nil
def b_law_names_4 : Sxs := .cons (.ife (.cmp .eq (.call 9 (.cons (.v 0) (.cons (.int 3) .nil))) (.int 0)) b_law_names_3 .nil) b_law_names_2
def b_law_names_5 : Sxs := .cons (.asg (.nm 4) (.me .join (.str "") (.cons (.lc (.nm 5) .rng1 (.cons (.call 9 (.cons (.v 0) (.cons (.int 4) .nil))) .nil) .nil e_law_names_2) .nil))) b_law_names_4
def b_law_names_6 : Sxs := .cons (.for_ (.nm 3) .rng1 (.cons (.v 1) .nil) b_law_names_5) b_law_names_0
def b_law_names_7 : Sxs := .cons (.own 2 (.lst .nil)) b_law_names_6
def b_law_names : Sxs :=
  b_law_names_7
/-! law_touches: 20 -/
def n_law_touches : List Str := ["_law_edit", "_law_other", "_law_low", "_law_high"]
def b_law_touches_0 : Sxs := .cons (.ret (.cmp .lt (.v 2) (.v 3))) .nil
def b_law_touches_1 : Sxs := .cons (.ret (.cmp .le (.v 2) (.v 3))) .nil
def b_law_touches_2 : Sxs := .cons (.ife (.or (.cmp .eq (.ix (.v 0) (.int 0)) (.ix (.v 0) (.int 1))) (.cons (.cmp .eq (.ix (.v 1) (.int 0)) (.ix (.v 1) (.int 1))) .nil)) b_law_touches_1 .nil) b_law_touches_0
def b_law_touches_3 : Sxs := .cons (.asg (.nm 3) (.ix (.v 1) (.int 1))) .nil
def b_law_touches_4 : Sxs := .cons (.ife (.cmp .lt (.ix (.v 1) (.int 1)) (.v 3)) b_law_touches_3 .nil) b_law_touches_2
def b_law_touches_5 : Sxs := .cons (.asg (.nm 3) (.ix (.v 0) (.int 1))) b_law_touches_4
def b_law_touches_6 : Sxs := .cons (.asg (.nm 2) (.ix (.v 1) (.int 0))) .nil
def b_law_touches_7 : Sxs := .cons (.ife (.cmp .gt (.ix (.v 1) (.int 0)) (.v 2)) b_law_touches_6 .nil) b_law_touches_5
def b_law_touches_8 : Sxs := .cons (.asg (.nm 2) (.ix (.v 0) (.int 0))) b_law_touches_7
def b_law_touches : Sxs :=
  b_law_touches_8
/-! law_due: 21 -/
def n_law_due : List Str := ["_law_edit", "_law_edits_here", "_law_moved", "_law_other"]
def b_law_due_0 : Sxs := .cons (.ret (.tup (.cons (.bin .add (.ix (.v 0) (.int 0)) (.v 2)) (.cons (.bin .add (.ix (.v 0) (.int 1)) (.v 2)) (.cons (.ix (.v 0) (.int 2)) .nil))))) .nil
def b_law_due_1 : Sxs := .cons (.asg (.nm 2) (.bin .sub (.bin .add (.v 2) (.bi .len (.cons (.ix (.v 3) (.int 2)) .nil))) (.bin .sub (.ix (.v 3) (.int 1)) (.ix (.v 3) (.int 0))))) .nil
def b_law_due_2 : Sxs := .cons (.ife (.cmp .le (.ix (.v 3) (.int 1)) (.ix (.v 0) (.int 0))) b_law_due_1 .nil) .nil
def b_law_due_3 : Sxs := .cons (.ret (.lst (.cons (.str "place") (.cons (.bl true) .nil)))) .nil
def b_law_due_4 : Sxs := .cons (.ife (.tr (.call 20 (.cons (.v 0) (.cons (.v 3) .nil)))) b_law_due_3 .nil) b_law_due_2
def b_law_due_5 : Sxs := .cons (.for_ (.nm 3) .seq (.cons (.v 1) .nil) b_law_due_4) b_law_due_0
def b_law_due_6 : Sxs := .cons (.asg (.nm 2) (.int 0)) b_law_due_5
def b_law_due : Sxs :=
  b_law_due_6
/-! law_told: 22 -/
def n_law_told : List Str := ["_law_edit", "_law_paper", "_law_name", "_law_named", "e"]
def b_law_told_0 : Sxs := .cons (.ret (.lst (.cons (.fld 4 "reason") (.cons (.and (.isE 4 "KnotError") (.cons (.isE 4 "ValueError") (.cons (.not (.isE 4 "Refused")) .nil))) .nil)))) .nil
def b_law_told_1 : Sxs := .cons (.ret (.call 7 (.cons (.v 0) (.cons (.v 1) (.cons (.v 2) .nil))))) .nil
def b_law_told_2 : Sxs := .cons (.ret (.callK 7 ["edit", "paper", "name"] [0, 1, 2] (.cons (.v 0) (.cons (.v 1) (.cons (.v 2) .nil))))) .nil
def b_law_told_3 : Sxs := .cons (.ife (.tr (.v 3)) b_law_told_2 .nil) b_law_told_1
def b_law_told_4 : Sxs := .cons (.tryA b_law_told_3 (.cons "Clash" (some 4) b_law_told_0 .nil)) .nil
def b_law_told : Sxs :=
  b_law_told_4
/-! law_near: 23 -/
def n_law_near : List Str := ["_law_state", "_law_edits_here", "_law_size", "_law_places", "_law_edit", "_law_at"]
def b_law_near_0 : Sxs := .cons (.ret (.bi .max2 (.cons (.int 0) (.cons (.bi .min2 (.cons (.bi .int (.cons (.v 5) .nil)) (.cons (.bi .int (.cons (.v 2) .nil)) .nil))) .nil)))) .nil
def b_law_near_1 : Sxs := .cons (.asg (.nm 5) (.ix (.v 3) (.call 9 (.cons (.v 0) (.cons (.bi .len (.cons (.v 3) .nil)) .nil))))) b_law_near_0
def b_law_near_2 : Sxs := .cons (.asg (.nm 3) (.bin .add (.v 3) (.lst (.cons (.ix (.v 4) (.int 0)) (.cons (.ix (.v 4) (.int 1)) (.cons (.bin .add (.ix (.v 4) (.int 0)) (.int 1)) (.cons (.bin .add (.ix (.v 4) (.int 1)) (.int 1)) (.cons (.bin .sub (.ix (.v 4) (.int 0)) (.int 1)) (.cons (.bin .sub (.ix (.v 4) (.int 1)) (.int 1)) .nil))))))))) .nil
def b_law_near_3 : Sxs := .cons (.for_ (.nm 4) .seq (.cons (.v 1) .nil) b_law_near_2) b_law_near_1
def b_law_near_4 : Sxs := .cons (.asg (.nm 3) (.lst (.cons (.int 0) (.cons (.v 2) (.cons (.call 9 (.cons (.v 0) (.cons (.bin .add (.v 2) (.int 1)) .nil))) .nil))))) b_law_near_3
def b_law_near : Sxs :=
  b_law_near_4
/-! law: 24 -/
def n_law : List Str := ["_law_script", "_law_state", "_law_text_here", "_law_size", "_law_names_here", "_law_name", "_law_edits_here", "_law_paper", "_law_other", "_law_behind", "_law_turn", "_law_row", "_law_start_here", "_law_end", "_law_edit", "_law_due_here", "_law_without", "_law_all_of", "_law_one"]
def e_law_2 : Ex := (.bin .add (.tup (.cons (.v 8) .nil)) (.v 14))
def e_law_1 : Ex := (.v 18)
def t_law_1 : Exs := (.cons (.cmp .le (.ix (.v 18) (.int 1)) (.ix (.v 8) (.int 0))) .nil)
def e_law_0 : Ex := (.v 11)
def t_law_0 : Exs := (.cons (.cmp .ne (.ix (.v 11) (.int 0)) (.v 5)) .nil)
def b_law_0 : Sxs := .cons (.ret (.bl true)) .nil
def b_law_1 : Sxs := .cons (.ret (.bl false)) .nil
def b_law_2 : Sxs := .cons (.ife (.and (.cmp .eq (.v 10) (.int 0)) (.cons (.not (.tr (.call 13 (.cons (.call 22 (.cons (.v 14) (.cons (.v 16) (.cons (.v 5) (.cons (.bl false) .nil))))) (.cons (.v 14) .nil))))) .nil)) b_law_1 .nil) .nil
def b_law_3 : Sxs := .cons (.asg (.nm 16) (.bi .tuple (.cons (.lc (.nm 11) .seq (.cons (.v 7) .nil) t_law_0 e_law_0) .nil))) b_law_2
def b_law_4 : Sxs := .cons (.ret (.bl false)) .nil
def b_law_5 : Sxs := .cons (.ife (.not (.tr (.call 13 (.cons (.call 4 (.cons (.v 9) (.cons (.v 15) .nil))) (.cons (.callB 18 (.cons (.v 2) (.cons (.b 17) .nil))) .nil))))) b_law_4 .nil) .nil
def b_law_6 : Sxs := .cons (.ins 17 (.bi .len (.cons (.lc (.nm 18) .seq (.cons (.b 17) .nil) t_law_1 e_law_1) .nil)) (.v 8)) .nil
def b_law_7 : Sxs := .cons (.for_ (.nm 8) .seq (.cons (.bin .add (.v 6) (.lst (.cons (.v 14) .nil))) .nil) b_law_6) b_law_5
def b_law_8 : Sxs := .cons (.own 17 (.lst .nil)) b_law_7
def b_law_9 : Sxs := .cons (.ife (.and (.tr (.isT ["tuple"] (.v 15))) (.cons (.cmp .eq (.v 3) (.bi .len (.cons (.v 2) .nil))) (.cons (.or (.cmp .eq (.v 9) (.str "")) (.cons (.cmp .eq (.ix (.v 9) (.neg (.int 1))) (.str "\n")) .nil)) .nil))) b_law_8 .nil) b_law_3
def b_law_10 : Sxs := .cons (.ret (.bl false)) .nil
def b_law_11 : Sxs := .cons (.ife (.not (.tr (.call 13 (.cons (.call 22 (.cons (.v 14) (.cons (.v 7) (.cons (.v 5) (.cons (.cmp .eq (.bin .mod (.v 10) (.int 2)) (.int 1)) .nil))))) (.cons (.v 15) .nil))))) b_law_10 .nil) b_law_9
def b_law_12 : Sxs := .cons (.asg (.nm 15) (.call 21 (.cons (.v 14) (.cons (.v 6) .nil)))) b_law_11
def b_law_13 : Sxs := .cons (.asg (.nm 14) (.tup (.cons (.v 12) (.cons (.v 13) (.cons (.call 15 (.cons (.v 1) (.cons (.int 20) .nil))) .nil))))) b_law_12
def b_law_14 : Sxs := .cons (.par2 12 13 (.v 13) (.v 12)) .nil
def b_law_15 : Sxs := .cons (.ife (.cmp .lt (.v 13) (.v 12)) b_law_14 .nil) b_law_13
def b_law_16 : Sxs := .cons (.asg (.nm 13) (.ix (.lst (.cons (.v 12) (.cons (.call 23 (.cons (.v 1) (.cons (.v 6) (.cons (.v 3) .nil)))) .nil))) (.call 9 (.cons (.v 1) (.cons (.int 2) .nil))))) b_law_15
def b_law_17 : Sxs := .cons (.asg (.nm 12) (.call 23 (.cons (.v 1) (.cons (.v 6) (.cons (.v 3) .nil))))) b_law_16
def b_law_18 : Sxs := .cons (.for_ (.nm 10) .rng1 (.cons (.int 8) .nil) b_law_17) b_law_0
def b_law_19 : Sxs := .cons (.asg (.nm 9) (.call 18 (.cons (.v 2) (.cons (.v 6) .nil)))) b_law_18
def b_law_20 : Sxs := .cons (.asg (.nm 7) (.bin .add (.v 7) (.bi .tuple (.cons (.lc (.nm 14) .seq (.cons (.v 11) .nil) .nil e_law_2) .nil)))) .nil
def b_law_21 : Sxs := .cons (.asg (.nm 11) (.call 17 (.cons (.v 1) (.cons (.v 3) .nil)))) .nil
def b_law_22 : Sxs := .cons (.ife (.cmp .ne (.v 8) (.v 5)) b_law_21 .nil) b_law_20
def b_law_23 : Sxs := .cons (.asg (.nm 11) (.v 6)) b_law_22
def b_law_24 : Sxs := .cons (.for_ (.nm 8) .seq (.cons (.v 4) .nil) b_law_23) b_law_19
def b_law_25 : Sxs := .cons (.asg (.nm 7) (.tup .nil)) b_law_24
def b_law_26 : Sxs := .cons (.asg (.nm 6) (.call 17 (.cons (.v 1) (.cons (.v 3) .nil)))) b_law_25
def b_law_27 : Sxs := .cons (.asg (.nm 5) (.ix (.v 4) (.call 9 (.cons (.v 1) (.cons (.bi .len (.cons (.v 4) .nil)) .nil))))) b_law_26
def b_law_28 : Sxs := .cons (.asg (.nm 4) (.lst (.cons (.str "") .nil))) .nil
def b_law_29 : Sxs := .cons (.ife (.cmp .eq (.bi .len (.cons (.v 4) .nil)) (.int 0)) b_law_28 .nil) b_law_27
def b_law_30 : Sxs := .cons (.asg (.nm 4) (.call 19 (.cons (.v 1) (.cons (.int 5) .nil)))) b_law_29
def b_law_31 : Sxs := .cons (.asg (.nm 3) (.ix (.lst (.cons (.bi .len (.cons (.v 2) .nil)) (.cons (.bi .len (.cons (.v 2) .nil)) (.cons (.bin .pow (.int 10) (.int 9)) .nil)))) (.call 9 (.cons (.v 1) (.cons (.int 3) .nil))))) b_law_30
def b_law_32 : Sxs := .cons (.asg (.nm 2) (.call 16 (.cons (.v 1) .nil))) b_law_31
def b_law_33 : Sxs := .cons (.asg (.nm 1) (.call 10 (.cons (.v 0) .nil))) b_law_32
def b_law : Sxs :=
  b_law_33
end DL
namespace DL
open PySem PySem.Spec PyProof.Rows L2

/-! law_same0_v2: 30 -/
def n_law_same0_v2 : List Str := ["_law_actual", "_law_due", "_law_k"]
def b_law_same0_v2_0 : Sxs := .cons (.ret (.and (.isT ["str"] (.v 0)) (.cons (.cmp .eq (.v 0) (.v 1)) .nil))) .nil
def b_law_same0_v2_1 : Sxs := .cons (.ret (.and (.isT ["int"] (.v 0)) (.cons (.not (.isT ["bool"] (.v 0))) (.cons (.cmp .eq (.v 0) (.v 1)) .nil)))) .nil
def b_law_same0_v2_2 : Sxs := .cons (.ife (.tr (.isT ["int"] (.v 1))) b_law_same0_v2_1 .nil) b_law_same0_v2_0
def b_law_same0_v2_3 : Sxs := .cons (.ret (.and (.isT ["bool"] (.v 0)) (.cons (.cmp .eq (.v 0) (.v 1)) .nil))) .nil
def b_law_same0_v2_4 : Sxs := .cons (.ife (.tr (.isT ["bool"] (.v 1))) b_law_same0_v2_3 .nil) b_law_same0_v2_2
def b_law_same0_v2_5 : Sxs := .cons (.ret (.cmp .is (.v 0) .non)) .nil
def b_law_same0_v2_6 : Sxs := .cons (.ife (.cmp .is (.v 1) .non) b_law_same0_v2_5 .nil) b_law_same0_v2_4
def b_law_same0_v2_7 : Sxs := .cons (.ret (.bl true)) .nil
def b_law_same0_v2_8 : Sxs := .cons (.ret (.bl false)) .nil
def b_law_same0_v2_9 : Sxs := .cons (.ife (.not (.tr (.call 29 (.cons (.ix (.v 0) (.v 2)) (.cons (.ix (.v 1) (.v 2)) .nil))))) b_law_same0_v2_8 .nil) .nil
def b_law_same0_v2_10 : Sxs := .cons (.for_ (.nm 2) .rng1 (.cons (.bi .len (.cons (.v 1) .nil)) .nil) b_law_same0_v2_9) b_law_same0_v2_7
def b_law_same0_v2_11 : Sxs := .cons (.ret (.bl false)) .nil
def b_law_same0_v2_12 : Sxs := .cons (.ife (.cmp .ne (.bi .len (.cons (.v 0) .nil)) (.bi .len (.cons (.v 1) .nil))) b_law_same0_v2_11 .nil) b_law_same0_v2_10
def b_law_same0_v2_13 : Sxs := .cons (.ret (.bl false)) .nil
def b_law_same0_v2_14 : Sxs := .cons (.ife (.or (.cmp .ne (.isT ["tuple"] (.v 1)) (.isT ["tuple"] (.v 0))) (.cons (.cmp .ne (.isT ["list"] (.v 1)) (.isT ["list"] (.v 0))) .nil)) b_law_same0_v2_13 .nil) b_law_same0_v2_12
def b_law_same0_v2_15 : Sxs := .cons (.ife (.or (.tr (.isT ["tuple"] (.v 1))) (.cons (.tr (.isT ["list"] (.v 1))) .nil)) b_law_same0_v2_14 .nil) b_law_same0_v2_6
def b_law_same0_v2 : Sxs :=
  b_law_same0_v2_15
/-! law_same1_v2: 31 -/
def n_law_same1_v2 : List Str := ["_law_actual", "_law_due", "_law_k"]
def b_law_same1_v2_0 : Sxs := .cons (.ret (.and (.isT ["str"] (.v 0)) (.cons (.cmp .eq (.v 0) (.v 1)) .nil))) .nil
def b_law_same1_v2_1 : Sxs := .cons (.ret (.and (.isT ["int"] (.v 0)) (.cons (.not (.isT ["bool"] (.v 0))) (.cons (.cmp .eq (.v 0) (.v 1)) .nil)))) .nil
def b_law_same1_v2_2 : Sxs := .cons (.ife (.tr (.isT ["int"] (.v 1))) b_law_same1_v2_1 .nil) b_law_same1_v2_0
def b_law_same1_v2_3 : Sxs := .cons (.ret (.and (.isT ["bool"] (.v 0)) (.cons (.cmp .eq (.v 0) (.v 1)) .nil))) .nil
def b_law_same1_v2_4 : Sxs := .cons (.ife (.tr (.isT ["bool"] (.v 1))) b_law_same1_v2_3 .nil) b_law_same1_v2_2
def b_law_same1_v2_5 : Sxs := .cons (.ret (.cmp .is (.v 0) .non)) .nil
def b_law_same1_v2_6 : Sxs := .cons (.ife (.cmp .is (.v 1) .non) b_law_same1_v2_5 .nil) b_law_same1_v2_4
def b_law_same1_v2_7 : Sxs := .cons (.ret (.bl true)) .nil
def b_law_same1_v2_8 : Sxs := .cons (.ret (.bl false)) .nil
def b_law_same1_v2_9 : Sxs := .cons (.ife (.not (.tr (.call 30 (.cons (.ix (.v 0) (.v 2)) (.cons (.ix (.v 1) (.v 2)) .nil))))) b_law_same1_v2_8 .nil) .nil
def b_law_same1_v2_10 : Sxs := .cons (.for_ (.nm 2) .rng1 (.cons (.bi .len (.cons (.v 1) .nil)) .nil) b_law_same1_v2_9) b_law_same1_v2_7
def b_law_same1_v2_11 : Sxs := .cons (.ret (.bl false)) .nil
def b_law_same1_v2_12 : Sxs := .cons (.ife (.cmp .ne (.bi .len (.cons (.v 0) .nil)) (.bi .len (.cons (.v 1) .nil))) b_law_same1_v2_11 .nil) b_law_same1_v2_10
def b_law_same1_v2_13 : Sxs := .cons (.ret (.bl false)) .nil
def b_law_same1_v2_14 : Sxs := .cons (.ife (.or (.cmp .ne (.isT ["tuple"] (.v 1)) (.isT ["tuple"] (.v 0))) (.cons (.cmp .ne (.isT ["list"] (.v 1)) (.isT ["list"] (.v 0))) .nil)) b_law_same1_v2_13 .nil) b_law_same1_v2_12
def b_law_same1_v2_15 : Sxs := .cons (.ife (.or (.tr (.isT ["tuple"] (.v 1))) (.cons (.tr (.isT ["list"] (.v 1))) .nil)) b_law_same1_v2_14 .nil) b_law_same1_v2_6
def b_law_same1_v2 : Sxs :=
  b_law_same1_v2_15
/-! law_same2: 32 -/
def n_law_same2 : List Str := ["_law_actual", "_law_due", "_law_k"]
def b_law_same2_0 : Sxs := .cons (.ret (.and (.isT ["str"] (.v 0)) (.cons (.cmp .eq (.v 0) (.v 1)) .nil))) .nil
def b_law_same2_1 : Sxs := .cons (.ret (.and (.isT ["int"] (.v 0)) (.cons (.not (.isT ["bool"] (.v 0))) (.cons (.cmp .eq (.v 0) (.v 1)) .nil)))) .nil
def b_law_same2_2 : Sxs := .cons (.ife (.tr (.isT ["int"] (.v 1))) b_law_same2_1 .nil) b_law_same2_0
def b_law_same2_3 : Sxs := .cons (.ret (.and (.isT ["bool"] (.v 0)) (.cons (.cmp .eq (.v 0) (.v 1)) .nil))) .nil
def b_law_same2_4 : Sxs := .cons (.ife (.tr (.isT ["bool"] (.v 1))) b_law_same2_3 .nil) b_law_same2_2
def b_law_same2_5 : Sxs := .cons (.ret (.cmp .is (.v 0) .non)) .nil
def b_law_same2_6 : Sxs := .cons (.ife (.cmp .is (.v 1) .non) b_law_same2_5 .nil) b_law_same2_4
def b_law_same2_7 : Sxs := .cons (.ret (.bl true)) .nil
def b_law_same2_8 : Sxs := .cons (.ret (.bl false)) .nil
def b_law_same2_9 : Sxs := .cons (.ife (.not (.tr (.call 31 (.cons (.ix (.v 0) (.v 2)) (.cons (.ix (.v 1) (.v 2)) .nil))))) b_law_same2_8 .nil) .nil
def b_law_same2_10 : Sxs := .cons (.for_ (.nm 2) .rng1 (.cons (.bi .len (.cons (.v 1) .nil)) .nil) b_law_same2_9) b_law_same2_7
def b_law_same2_11 : Sxs := .cons (.ret (.bl false)) .nil
def b_law_same2_12 : Sxs := .cons (.ife (.cmp .ne (.bi .len (.cons (.v 0) .nil)) (.bi .len (.cons (.v 1) .nil))) b_law_same2_11 .nil) b_law_same2_10
def b_law_same2_13 : Sxs := .cons (.ret (.bl false)) .nil
def b_law_same2_14 : Sxs := .cons (.ife (.or (.cmp .ne (.isT ["tuple"] (.v 1)) (.isT ["tuple"] (.v 0))) (.cons (.cmp .ne (.isT ["list"] (.v 1)) (.isT ["list"] (.v 0))) .nil)) b_law_same2_13 .nil) b_law_same2_12
def b_law_same2_15 : Sxs := .cons (.ife (.or (.tr (.isT ["tuple"] (.v 1))) (.cons (.tr (.isT ["list"] (.v 1))) .nil)) b_law_same2_14 .nil) b_law_same2_6
def b_law_same2 : Sxs :=
  b_law_same2_15
/-! law_same3: 33 -/
def n_law_same3 : List Str := ["_law_actual", "_law_due", "_law_k"]
def b_law_same3_0 : Sxs := .cons (.ret (.and (.isT ["str"] (.v 0)) (.cons (.cmp .eq (.v 0) (.v 1)) .nil))) .nil
def b_law_same3_1 : Sxs := .cons (.ret (.and (.isT ["int"] (.v 0)) (.cons (.not (.isT ["bool"] (.v 0))) (.cons (.cmp .eq (.v 0) (.v 1)) .nil)))) .nil
def b_law_same3_2 : Sxs := .cons (.ife (.tr (.isT ["int"] (.v 1))) b_law_same3_1 .nil) b_law_same3_0
def b_law_same3_3 : Sxs := .cons (.ret (.and (.isT ["bool"] (.v 0)) (.cons (.cmp .eq (.v 0) (.v 1)) .nil))) .nil
def b_law_same3_4 : Sxs := .cons (.ife (.tr (.isT ["bool"] (.v 1))) b_law_same3_3 .nil) b_law_same3_2
def b_law_same3_5 : Sxs := .cons (.ret (.cmp .is (.v 0) .non)) .nil
def b_law_same3_6 : Sxs := .cons (.ife (.cmp .is (.v 1) .non) b_law_same3_5 .nil) b_law_same3_4
def b_law_same3_7 : Sxs := .cons (.ret (.bl true)) .nil
def b_law_same3_8 : Sxs := .cons (.ret (.bl false)) .nil
def b_law_same3_9 : Sxs := .cons (.ife (.not (.tr (.call 32 (.cons (.ix (.v 0) (.v 2)) (.cons (.ix (.v 1) (.v 2)) .nil))))) b_law_same3_8 .nil) .nil
def b_law_same3_10 : Sxs := .cons (.for_ (.nm 2) .rng1 (.cons (.bi .len (.cons (.v 1) .nil)) .nil) b_law_same3_9) b_law_same3_7
def b_law_same3_11 : Sxs := .cons (.ret (.bl false)) .nil
def b_law_same3_12 : Sxs := .cons (.ife (.cmp .ne (.bi .len (.cons (.v 0) .nil)) (.bi .len (.cons (.v 1) .nil))) b_law_same3_11 .nil) b_law_same3_10
def b_law_same3_13 : Sxs := .cons (.ret (.bl false)) .nil
def b_law_same3_14 : Sxs := .cons (.ife (.or (.cmp .ne (.isT ["tuple"] (.v 1)) (.isT ["tuple"] (.v 0))) (.cons (.cmp .ne (.isT ["list"] (.v 1)) (.isT ["list"] (.v 0))) .nil)) b_law_same3_13 .nil) b_law_same3_12
def b_law_same3_15 : Sxs := .cons (.ife (.or (.tr (.isT ["tuple"] (.v 1))) (.cons (.tr (.isT ["list"] (.v 1))) .nil)) b_law_same3_14 .nil) b_law_same3_6
def b_law_same3 : Sxs :=
  b_law_same3_15
/-! law_same4: 34 -/
def n_law_same4 : List Str := ["_law_actual", "_law_due", "_law_k"]
def b_law_same4_0 : Sxs := .cons (.ret (.and (.isT ["str"] (.v 0)) (.cons (.cmp .eq (.v 0) (.v 1)) .nil))) .nil
def b_law_same4_1 : Sxs := .cons (.ret (.and (.isT ["int"] (.v 0)) (.cons (.not (.isT ["bool"] (.v 0))) (.cons (.cmp .eq (.v 0) (.v 1)) .nil)))) .nil
def b_law_same4_2 : Sxs := .cons (.ife (.tr (.isT ["int"] (.v 1))) b_law_same4_1 .nil) b_law_same4_0
def b_law_same4_3 : Sxs := .cons (.ret (.and (.isT ["bool"] (.v 0)) (.cons (.cmp .eq (.v 0) (.v 1)) .nil))) .nil
def b_law_same4_4 : Sxs := .cons (.ife (.tr (.isT ["bool"] (.v 1))) b_law_same4_3 .nil) b_law_same4_2
def b_law_same4_5 : Sxs := .cons (.ret (.cmp .is (.v 0) .non)) .nil
def b_law_same4_6 : Sxs := .cons (.ife (.cmp .is (.v 1) .non) b_law_same4_5 .nil) b_law_same4_4
def b_law_same4_7 : Sxs := .cons (.ret (.bl true)) .nil
def b_law_same4_8 : Sxs := .cons (.ret (.bl false)) .nil
def b_law_same4_9 : Sxs := .cons (.ife (.not (.tr (.call 33 (.cons (.ix (.v 0) (.v 2)) (.cons (.ix (.v 1) (.v 2)) .nil))))) b_law_same4_8 .nil) .nil
def b_law_same4_10 : Sxs := .cons (.for_ (.nm 2) .rng1 (.cons (.bi .len (.cons (.v 1) .nil)) .nil) b_law_same4_9) b_law_same4_7
def b_law_same4_11 : Sxs := .cons (.ret (.bl false)) .nil
def b_law_same4_12 : Sxs := .cons (.ife (.cmp .ne (.bi .len (.cons (.v 0) .nil)) (.bi .len (.cons (.v 1) .nil))) b_law_same4_11 .nil) b_law_same4_10
def b_law_same4_13 : Sxs := .cons (.ret (.bl false)) .nil
def b_law_same4_14 : Sxs := .cons (.ife (.or (.cmp .ne (.isT ["tuple"] (.v 1)) (.isT ["tuple"] (.v 0))) (.cons (.cmp .ne (.isT ["list"] (.v 1)) (.isT ["list"] (.v 0))) .nil)) b_law_same4_13 .nil) b_law_same4_12
def b_law_same4_15 : Sxs := .cons (.ife (.or (.tr (.isT ["tuple"] (.v 1))) (.cons (.tr (.isT ["list"] (.v 1))) .nil)) b_law_same4_14 .nil) b_law_same4_6
def b_law_same4 : Sxs :=
  b_law_same4_15
/-! law_is_number: 35 -/
def n_law_is_number : List Str := ["_law_value"]
def b_law_is_number_0 : Sxs := .cons (.ret (.and (.isT ["int"] (.v 0)) (.cons (.not (.isT ["bool"] (.v 0))) (.cons (.cmp .ge (.v 0) (.int 0)) .nil)))) .nil
def b_law_is_number : Sxs :=
  b_law_is_number_0
/-! law_is_edit: 36 -/
def n_law_is_edit : List Str := ["_law_value", "_law_sign"]
def e_law_is_edit_0 : Ex := (.v 1)
def t_law_is_edit_0 : Exs := (.cons (.cmp .nin (.v 1) (.call 14 .nil)) .nil)
def b_law_is_edit_0 : Sxs := .cons (.ret (.cmp .eq (.bi .len (.cons (.lc (.nm 1) .str (.cons (.ix (.v 0) (.int 2)) .nil) t_law_is_edit_0 e_law_is_edit_0) .nil)) (.int 0))) .nil
def b_law_is_edit_1 : Sxs := .cons (.ret (.bl false)) .nil
def b_law_is_edit_2 : Sxs := .cons (.ife (.or (.cmp .gt (.ix (.v 0) (.int 0)) (.ix (.v 0) (.int 1))) (.cons (.not (.tr (.isT ["str"] (.ix (.v 0) (.int 2))))) .nil)) b_law_is_edit_1 .nil) b_law_is_edit_0
def b_law_is_edit_3 : Sxs := .cons (.ret (.bl false)) .nil
def b_law_is_edit_4 : Sxs := .cons (.ife (.or (.not (.tr (.isT ["tuple"] (.v 0)))) (.cons (.cmp .ne (.bi .len (.cons (.v 0) .nil)) (.int 3)) (.cons (.not (.tr (.call 35 (.cons (.ix (.v 0) (.int 0)) .nil)))) (.cons (.not (.tr (.call 35 (.cons (.ix (.v 0) (.int 1)) .nil)))) .nil)))) b_law_is_edit_3 .nil) b_law_is_edit_2
def b_law_is_edit : Sxs :=
  b_law_is_edit_4
/-! law_is_name: 37 -/
def n_law_is_name : List Str := ["_law_value", "_law_letter"]
def e_law_is_name_0 : Ex := (.v 1)
def t_law_is_name_0 : Exs := (.cons (.cmp .nin (.v 1) (.str "abcdefghijklmnopqrstuvwxyz")) .nil)
def b_law_is_name_0 : Sxs := .cons (.ret (.cmp .eq (.bi .len (.cons (.lc (.nm 1) .str (.cons (.v 0) .nil) t_law_is_name_0 e_law_is_name_0) .nil)) (.int 0))) .nil
def b_law_is_name_1 : Sxs := .cons (.ret (.bl false)) .nil
def b_law_is_name_2 : Sxs := .cons (.ife (.or (.not (.tr (.isT ["str"] (.v 0)))) (.cons (.cmp .gt (.bi .len (.cons (.v 0) .nil)) (.int 8)) .nil)) b_law_is_name_1 .nil) b_law_is_name_0
def b_law_is_name : Sxs :=
  b_law_is_name_2
/-! law_is_paper: 38 -/
def n_law_is_paper : List Str := ["_law_value", "_law_k", "_law_row", "_law_last"]
def b_law_is_paper_0 : Sxs := .cons (.ret (.bl true)) .nil
def b_law_is_paper_1 : Sxs := .cons (.ret (.bl false)) .nil
def b_law_is_paper_2 : Sxs := .cons (.ife (.and (.cmp .eq (.sl (.v 2) .nil (.cons (.int 2) .nil)) (.sl (.v 3) .nil (.cons (.int 2) .nil))) (.cons (.cmp .eq (.ix (.v 2) (.int 1)) (.ix (.v 2) (.int 2))) (.cons (.cmp .eq (.ix (.v 3) (.int 1)) (.ix (.v 3) (.int 2))) .nil))) b_law_is_paper_1 .nil) .nil
def b_law_is_paper_3 : Sxs := .cons (.ret (.bl false)) .nil
def b_law_is_paper_4 : Sxs := .cons (.ife (.or (.cmp .lt (.ix (.v 2) (.int 0)) (.ix (.v 3) (.int 0))) (.cons (.and (.cmp .eq (.ix (.v 2) (.int 0)) (.ix (.v 3) (.int 0))) (.cons (.cmp .lt (.ix (.v 2) (.int 1)) (.ix (.v 3) (.int 2))) .nil)) .nil)) b_law_is_paper_3 .nil) b_law_is_paper_2
def b_law_is_paper_5 : Sxs := .cons (.asg (.nm 3) (.ix (.v 0) (.bin .sub (.v 1) (.int 1)))) b_law_is_paper_4
def b_law_is_paper_6 : Sxs := .cons (.ife (.cmp .gt (.v 1) (.int 0)) b_law_is_paper_5 .nil) .nil
def b_law_is_paper_7 : Sxs := .cons (.ret (.bl false)) .nil
def b_law_is_paper_8 : Sxs := .cons (.ife (.or (.not (.tr (.isT ["tuple"] (.v 2)))) (.cons (.cmp .ne (.bi .len (.cons (.v 2) .nil)) (.int 4)) (.cons (.not (.tr (.call 37 (.cons (.ix (.v 2) (.int 0)) .nil)))) (.cons (.not (.tr (.call 36 (.cons (.sl (.v 2) (.cons (.int 1) .nil) .nil) .nil)))) .nil)))) b_law_is_paper_7 .nil) b_law_is_paper_6
def b_law_is_paper_9 : Sxs := .cons (.asg (.nm 2) (.ix (.v 0) (.v 1))) b_law_is_paper_8
def b_law_is_paper_10 : Sxs := .cons (.for_ (.nm 1) .rng1 (.cons (.bi .len (.cons (.v 0) .nil)) .nil) b_law_is_paper_9) b_law_is_paper_0
def b_law_is_paper_11 : Sxs := .cons (.ret (.bl false)) .nil
def b_law_is_paper_12 : Sxs := .cons (.ife (.not (.tr (.isT ["tuple"] (.v 0)))) b_law_is_paper_11 .nil) b_law_is_paper_10
def b_law_is_paper : Sxs :=
  b_law_is_paper_12
/-! law_odd: 39 -/
def n_law_odd : List Str := ["_law_state", "_law_values"]
def b_law_odd_0 : Sxs := .cons (.ret (.ix (.v 1) (.call 9 (.cons (.v 0) (.cons (.int 15) .nil))))) .nil
def b_law_odd_1 : Sxs := .cons (.asg (.nm 1) (.lst (.cons .non (.cons (.bl true) (.cons (.int 0) (.cons (.neg (.int 1)) (.cons (.bin .pow (.int 10) (.int 30)) (.cons (.str "") (.cons (.str "ab") (.cons (.tup .nil) (.cons (.lst .nil) (.cons (.tup (.cons (.tup .nil) .nil)) (.cons (.tup (.cons .non .nil)) (.cons (.tup (.cons (.int 0) (.cons (.int 0) .nil))) (.cons (.lst (.cons (.int 0) (.cons (.int 0) (.cons (.str "") .nil)))) (.cons (.tup (.cons (.str "") (.cons (.int 0) (.cons (.int 0) (.cons (.str "") .nil))))) (.cons (.tup (.cons (.str "a") .nil)) .nil))))))))))))))))) b_law_odd_0
def b_law_odd : Sxs :=
  b_law_odd_1
/-! law_spoilt: 40 -/
def n_law_spoilt : List Str := ["_law_state", "_law_row", "_law_at", "_law_kind", "_law_start_here", "_law_end"]
def b_law_spoilt_0 : Sxs := .cons (.ret (.v 1)) .nil
def b_law_spoilt_1 : Sxs := .cons (.ret (.call 39 (.cons (.v 0) .nil))) .nil
def b_law_spoilt_2 : Sxs := .cons (.ife (.cmp .eq (.v 3) (.int 10)) b_law_spoilt_1 .nil) b_law_spoilt_0
def b_law_spoilt_3 : Sxs := .cons (.ret (.bin .add (.tup (.cons (.ix (.lst (.cons .non (.cons (.int 0) (.cons (.str "A") (.cons (.str "a1") (.cons (.str "abcdefghi") (.cons (.bin .add (.ix (.v 1) (.int 0)) (.str "a")) (.cons (.str "z") (.cons (.tup (.cons (.str "a") .nil)) .nil))))))))) (.call 9 (.cons (.v 0) (.cons (.int 8) .nil)))) .nil)) (.sl (.v 1) (.cons (.int 1) .nil) .nil))) .nil
def b_law_spoilt_4 : Sxs := .cons (.ife (.and (.cmp .eq (.v 3) (.int 9)) (.cons (.cmp .eq (.v 2) (.int 1)) .nil)) b_law_spoilt_3 .nil) b_law_spoilt_2
def b_law_spoilt_5 : Sxs := .cons (.ret (.ix (.lst (.cons (.bi .list (.cons (.v 1) .nil)) (.cons (.sl (.v 1) (.cons (.int 1) .nil) .nil) (.cons (.sl (.v 1) .nil (.cons (.bin .sub (.bi .len (.cons (.v 1) .nil)) (.int 1)) .nil)) (.cons (.bin .add (.v 1) (.tup (.cons (.int 0) .nil))) .nil))))) (.call 9 (.cons (.v 0) (.cons (.int 4) .nil))))) .nil
def b_law_spoilt_6 : Sxs := .cons (.ife (.cmp .eq (.v 3) (.int 8)) b_law_spoilt_5 .nil) b_law_spoilt_4
def b_law_spoilt_7 : Sxs := .cons (.ret (.bin .add (.sl (.v 1) .nil (.cons (.bin .add (.v 2) (.int 2)) .nil)) (.tup (.cons (.ix (.lst (.cons .non (.cons (.int 0) (.cons (.bin .add (.ix (.v 1) (.bin .add (.v 2) (.int 2))) (.str "\t")) (.cons (.bin .add (.str "\t") (.ix (.v 1) (.bin .add (.v 2) (.int 2)))) (.cons (.tup (.cons (.ix (.v 1) (.bin .add (.v 2) (.int 2))) .nil)) (.cons (.lst .nil) (.cons (.bl true) .nil)))))))) (.call 9 (.cons (.v 0) (.cons (.int 7) .nil)))) .nil)))) .nil
def b_law_spoilt_8 : Sxs := .cons (.ife (.cmp .eq (.v 3) (.int 7)) b_law_spoilt_7 .nil) b_law_spoilt_6
def b_law_spoilt_9 : Sxs := .cons (.ret (.bin .add (.bin .add (.sl (.v 1) .nil (.cons (.v 2) .nil)) (.tup (.cons (.ix (.lst (.cons (.bl true) (.cons .non (.cons (.bi .str (.cons (.v 4) .nil)) (.cons (.tup (.cons (.v 4) .nil)) .nil))))) (.call 9 (.cons (.v 0) (.cons (.int 4) .nil)))) .nil))) (.sl (.v 1) (.cons (.bin .add (.v 2) (.int 1)) .nil) .nil))) .nil
def b_law_spoilt_10 : Sxs := .cons (.ife (.cmp .eq (.v 3) (.int 6)) b_law_spoilt_9 .nil) b_law_spoilt_8
def b_law_spoilt_11 : Sxs := .cons (.ret (.bin .add (.bin .add (.sl (.v 1) .nil (.cons (.v 2) .nil)) (.tup (.cons (.v 5) (.cons (.v 4) .nil)))) (.sl (.v 1) (.cons (.bin .add (.v 2) (.int 2)) .nil) .nil))) .nil
def b_law_spoilt_12 : Sxs := .cons (.ife (.cmp .eq (.v 3) (.int 5)) b_law_spoilt_11 .nil) b_law_spoilt_10
def b_law_spoilt_13 : Sxs := .cons (.ret (.bin .add (.bin .add (.sl (.v 1) .nil (.cons (.bin .add (.v 2) (.int 1)) .nil)) (.tup (.cons (.ix (.lst (.cons (.bin .sub (.v 5) (.int 1)) (.cons (.bin .add (.v 5) (.int 1)) .nil))) (.bin .sub (.v 3) (.int 3))) .nil))) (.sl (.v 1) (.cons (.bin .add (.v 2) (.int 2)) .nil) .nil))) .nil
def b_law_spoilt_14 : Sxs := .cons (.ife (.cmp .lt (.v 3) (.int 5)) b_law_spoilt_13 .nil) b_law_spoilt_12
def b_law_spoilt_15 : Sxs := .cons (.ret (.bin .add (.bin .add (.sl (.v 1) .nil (.cons (.v 2) .nil)) (.tup (.cons (.ix (.lst (.cons (.bin .add (.v 4) (.int 1)) (.cons (.bin .sub (.v 4) (.int 1)) (.cons (.bin .add (.v 5) (.int 1)) .nil)))) (.v 3)) .nil))) (.sl (.v 1) (.cons (.bin .add (.v 2) (.int 1)) .nil) .nil))) .nil
def b_law_spoilt_16 : Sxs := .cons (.ife (.cmp .lt (.v 3) (.int 3)) b_law_spoilt_15 .nil) b_law_spoilt_14
def b_law_spoilt_17 : Sxs := .cons (.asg (.nm 5) (.ix (.v 1) (.bin .add (.v 2) (.int 1)))) b_law_spoilt_16
def b_law_spoilt_18 : Sxs := .cons (.asg (.nm 4) (.ix (.v 1) (.v 2))) b_law_spoilt_17
def b_law_spoilt_19 : Sxs := .cons (.asg (.nm 3) (.call 9 (.cons (.v 0) (.cons (.int 12) .nil)))) b_law_spoilt_18
def b_law_spoilt : Sxs :=
  b_law_spoilt_19
/-! law_spoilt_paper: 41 -/
def n_law_spoilt_paper : List Str := ["_law_state", "_law_paper", "_law_kind", "_law_at", "_law_start_here"]
def b_law_spoilt_paper_0 : Sxs := .cons (.ret (.call 39 (.cons (.v 0) .nil))) .nil
def b_law_spoilt_paper_1 : Sxs := .cons (.ret (.ix (.lst (.cons (.bi .list (.cons (.v 1) .nil)) (.cons (.bin .add (.v 1) (.tup (.cons .non .nil))) (.cons (.bin .add (.v 1) (.tup (.cons (.tup .nil) .nil))) (.cons (.tup (.cons (.v 1) .nil)) .nil))))) (.call 9 (.cons (.v 0) (.cons (.int 4) .nil))))) .nil
def b_law_spoilt_paper_2 : Sxs := .cons (.ife (.cmp .eq (.v 2) (.int 7)) b_law_spoilt_paper_1 .nil) b_law_spoilt_paper_0
def b_law_spoilt_paper_3 : Sxs := .cons (.ret (.bin .add (.bin .add (.sl (.v 1) .nil (.cons (.v 3) .nil)) (.tup (.cons (.tup (.cons (.ix (.ix (.v 1) (.v 3)) (.int 0)) (.cons (.v 4) (.cons (.bin .add (.v 4) (.call 9 (.cons (.v 0) (.cons (.int 2) .nil)))) (.cons (.str "x") .nil))))) .nil))) (.sl (.v 1) (.cons (.v 3) .nil) .nil))) .nil
def b_law_spoilt_paper_4 : Sxs := .cons (.asg (.nm 4) (.ix (.ix (.v 1) (.v 3)) (.int 1))) b_law_spoilt_paper_3
def b_law_spoilt_paper_5 : Sxs := .cons (.ife (.and (.cmp .eq (.v 2) (.int 6)) (.cons (.cmp .lt (.v 3) (.bi .len (.cons (.v 1) .nil))) .nil)) b_law_spoilt_paper_4 .nil) b_law_spoilt_paper_2
def b_law_spoilt_paper_6 : Sxs := .cons (.ret (.bin .add (.bin .add (.sl (.v 1) .nil (.cons (.v 3) .nil)) (.sl (.sl (.v 1) .nil (.cons (.v 3) .nil)) (.cons (.neg (.int 1)) .nil) .nil)) (.sl (.v 1) (.cons (.v 3) .nil) .nil))) .nil
def b_law_spoilt_paper_7 : Sxs := .cons (.ife (.cmp .eq (.v 2) (.int 5)) b_law_spoilt_paper_6 .nil) b_law_spoilt_paper_5
def b_law_spoilt_paper_8 : Sxs := .cons (.ret (.bin .add (.sl (.v 1) (.cons (.v 3) .nil) .nil) (.sl (.v 1) .nil (.cons (.v 3) .nil)))) .nil
def b_law_spoilt_paper_9 : Sxs := .cons (.ife (.cmp .eq (.v 2) (.int 4)) b_law_spoilt_paper_8 .nil) b_law_spoilt_paper_7
def b_law_spoilt_paper_10 : Sxs := .cons (.ret (.bin .add (.bin .add (.sl (.v 1) .nil (.cons (.v 3) .nil)) (.tup (.cons (.call 40 (.cons (.v 0) (.cons (.ix (.v 1) (.v 3)) (.cons (.int 1) .nil)))) .nil))) (.sl (.v 1) (.cons (.bin .add (.v 3) (.int 1)) .nil) .nil))) .nil
def b_law_spoilt_paper_11 : Sxs := .cons (.ife (.and (.cmp .lt (.v 2) (.int 4)) (.cons (.cmp .lt (.v 3) (.bi .len (.cons (.v 1) .nil))) .nil)) b_law_spoilt_paper_10 .nil) b_law_spoilt_paper_9
def b_law_spoilt_paper_12 : Sxs := .cons (.asg (.nm 3) (.call 9 (.cons (.v 0) (.cons (.bin .add (.bi .len (.cons (.v 1) .nil)) (.int 1)) .nil)))) b_law_spoilt_paper_11
def b_law_spoilt_paper_13 : Sxs := .cons (.asg (.nm 2) (.call 9 (.cons (.v 0) (.cons (.int 9) .nil)))) b_law_spoilt_paper_12
def b_law_spoilt_paper : Sxs :=
  b_law_spoilt_paper_13
/-! law_told_v2: 42 -/
def n_law_told_v2 : List Str := ["_law_text_here", "_law_edit", "e"]
def b_law_told_v2_0 : Sxs := .cons (.ret (.lst (.cons (.str "edit") (.cons (.fld 2 "value") (.cons (.and (.isE 2 "KnotError") (.cons (.isE 2 "ValueError") .nil)) .nil))))) .nil
def b_law_told_v2_1 : Sxs := .cons (.ret (.call 4 (.cons (.v 0) (.cons (.v 1) .nil)))) .nil
def b_law_told_v2_2 : Sxs := .cons (.tryA b_law_told_v2_1 (.cons "InvalidEdit" (some 2) b_law_told_v2_0 .nil)) .nil
def b_law_told_v2 : Sxs :=
  b_law_told_v2_2
/-! law_edited: 43 -/
def n_law_edited : List Str := ["_law_state", "_law_text_here", "_law_turn", "_law_size", "_law_start_here", "_law_end", "_law_edit", "_law_due", "_law_good"]
def b_law_edited_0 : Sxs := .cons (.ret (.bl true)) .nil
def b_law_edited_1 : Sxs := .cons (.ret (.bl false)) .nil
def b_law_edited_2 : Sxs := .cons (.ife (.not (.tr (.call 34 (.cons (.tup (.cons (.call 42 (.cons (.v 1) (.cons (.v 6) .nil))) (.cons (.call 2 (.cons (.v 6) .nil)) .nil))) (.cons (.tup (.cons (.v 7) (.cons (.v 8) .nil))) .nil))))) b_law_edited_1 .nil) .nil
def b_law_edited_3 : Sxs := .cons (.asg (.nm 7) (.call 18 (.cons (.v 1) (.cons (.lst (.cons (.v 6) .nil)) .nil)))) .nil
def b_law_edited_4 : Sxs := .cons (.ife (.and (.tr (.v 8)) (.cons (.cmp .le (.ix (.v 6) (.int 1)) (.v 3)) .nil)) b_law_edited_3 .nil) b_law_edited_2
def b_law_edited_5 : Sxs := .cons (.asg (.nm 8) (.call 36 (.cons (.v 6) .nil))) b_law_edited_4
def b_law_edited_6 : Sxs := .cons (.asg (.nm 7) (.lst (.cons (.str "edit") (.cons (.v 6) (.cons (.bl true) .nil))))) b_law_edited_5
def b_law_edited_7 : Sxs := .cons (.asg (.nm 6) (.call 40 (.cons (.v 0) (.cons (.v 6) (.cons (.int 0) .nil))))) .nil
def b_law_edited_8 : Sxs := .cons (.ife (.cmp .gt (.v 2) (.int 1)) b_law_edited_7 .nil) b_law_edited_6
def b_law_edited_9 : Sxs := .cons (.asg (.nm 6) (.tup (.cons (.v 4) (.cons (.v 5) (.cons (.call 15 (.cons (.v 0) (.cons (.ix (.lst (.cons (.int 20) (.cons (.int 80) .nil))) (.call 9 (.cons (.v 0) (.cons (.int 2) .nil)))) .nil))) .nil))))) b_law_edited_8
def b_law_edited_10 : Sxs := .cons (.asg (.nm 5) (.ix (.lst (.cons (.v 4) (.cons (.v 3) (.cons (.bin .add (.v 4) (.call 9 (.cons (.v 0) (.cons (.bin .add (.bin .sub (.v 3) (.v 4)) (.int 1)) .nil)))) .nil)))) (.call 9 (.cons (.v 0) (.cons (.int 3) .nil))))) b_law_edited_9
def b_law_edited_11 : Sxs := .cons (.asg (.nm 4) (.ix (.lst (.cons (.int 0) (.cons (.v 3) (.cons (.call 9 (.cons (.v 0) (.cons (.bin .add (.v 3) (.int 1)) .nil))) .nil)))) (.call 9 (.cons (.v 0) (.cons (.int 3) .nil))))) b_law_edited_10
def b_law_edited_12 : Sxs := .cons (.asg (.nm 3) (.bi .len (.cons (.v 1) .nil))) b_law_edited_11
def b_law_edited_13 : Sxs := .cons (.for_ (.nm 2) .rng1 (.cons (.int 4) .nil) b_law_edited_12) b_law_edited_0
def b_law_edited : Sxs :=
  b_law_edited_13
/-! law_v2: 44 -/
def n_law_v2 : List Str := ["_law_script", "_law_state", "_law_texts", "_law_rows", "_law_name", "_law_due", "_law_pair", "_law_paper", "_law_row", "_law_turn", "_law_at", "_law_passed", "_law_told_here", "_law_edits_here", "_law_other", "_law_edit"]
def e_law_v2_3 : Ex := (.tup (.cons (.v 4) (.cons (.call 16 (.cons (.v 1) .nil)) .nil)))
def e_law_v2_2 : Ex := (.ix (.v 6) (.int 0))
def e_law_v2_1 : Ex := (.v 8)
def t_law_v2_1 : Exs := (.cons (.cmp .lt (.ix (.v 8) (.int 0)) (.ix (.v 6) (.int 0))) .nil)
def e_law_v2_0 : Ex := (.bin .add (.tup (.cons (.ix (.v 8) (.int 0)) .nil)) (.v 15))
def b_law_v2_0 : Sxs := .cons (.ret (.and (.call 43 (.cons (.v 1) (.cons (.call 16 (.cons (.v 1) .nil)) .nil))) (.cons (.call 34 (.cons (.call 28 (.cons (.v 11) (.cons (.tup .nil) .nil))) (.cons (.bi .tuple (.cons (.v 11) .nil)) .nil))) .nil))) .nil
def b_law_v2_1 : Sxs := .cons (.ret (.bl false)) .nil
def b_law_v2_2 : Sxs := .cons (.ife (.not (.tr (.call 34 (.cons (.callK 28 ["texts", "paper"] [0, 1] (.cons (.bi .tuple (.cons (.v 2) .nil)) (.cons (.v 7) .nil))) (.cons (.bi .tuple (.cons (.b 5) .nil)) .nil))))) b_law_v2_1 .nil) b_law_v2_0
def b_law_v2_3 : Sxs := .cons (.ret (.bl false)) .nil
def b_law_v2_4 : Sxs := .cons (.ife (.or (.not (.tr (.call 34 (.cons (.v 12) (.cons (.bi .tuple (.cons (.bin .add (.sl (.b 5) (.cons (.v 10) .nil) .nil) (.sl (.b 5) .nil (.cons (.v 10) .nil))) .nil)) .nil))))) (.cons (.not (.tr (.call 34 (.cons (.v 11) (.cons (.bin .add (.sl (.v 2) (.cons (.v 10) .nil) .nil) (.sl (.v 2) .nil (.cons (.v 10) .nil))) .nil))))) .nil)) b_law_v2_3 .nil) b_law_v2_2
def b_law_v2_5 : Sxs := .cons (.asg (.nm 12) (.call 28 (.cons (.v 11) (.cons (.v 7) .nil)))) b_law_v2_4
def b_law_v2_6 : Sxs := .cons (.asg (.nm 11) (.bin .add (.sl (.v 2) (.cons (.v 10) .nil) .nil) (.sl (.v 2) .nil (.cons (.v 10) .nil)))) b_law_v2_5
def b_law_v2_7 : Sxs := .cons (.asg (.nm 10) (.call 9 (.cons (.v 1) (.cons (.bin .add (.bi .len (.cons (.v 2) .nil)) (.int 1)) .nil)))) b_law_v2_6
def b_law_v2_8 : Sxs := .cons (.ret (.bl false)) .nil
def b_law_v2_9 : Sxs := .cons (.ife (.not (.tr (.call 34 (.cons (.call 27 (.cons (.v 14) .nil)) (.cons (.call 38 (.cons (.v 14) .nil)) .nil))))) b_law_v2_8 .nil) .nil
def b_law_v2_10 : Sxs := .cons (.asg (.nm 14) (.call 41 (.cons (.v 1) (.cons (.v 7) .nil)))) b_law_v2_9
def b_law_v2_11 : Sxs := .cons (.for_ (.nm 9) .rng1 (.cons (.int 6) .nil) b_law_v2_10) b_law_v2_7
def b_law_v2_12 : Sxs := .cons (.ret (.bl false)) .nil
def b_law_v2_13 : Sxs := .cons (.ife (.or (.not (.tr (.call 38 (.cons (.v 7) .nil)))) (.cons (.not (.tr (.call 34 (.cons (.call 27 (.cons (.v 7) .nil)) (.cons (.bl true) .nil))))) .nil)) b_law_v2_12 .nil) b_law_v2_11
def b_law_v2_14 : Sxs := .cons (.asg (.nm 7) (.bin .add (.v 7) (.bi .tuple (.cons (.lc (.nm 15) .seq (.cons (.ix (.v 8) (.int 1)) .nil) .nil e_law_v2_0) .nil)))) .nil
def b_law_v2_15 : Sxs := .cons (.for_ (.nm 8) .seq (.cons (.v 3) .nil) b_law_v2_14) b_law_v2_13
def b_law_v2_16 : Sxs := .cons (.asg (.nm 7) (.tup .nil)) b_law_v2_15
def b_law_v2_17 : Sxs := .cons (.ins 3 (.bi .len (.cons (.lc (.nm 8) .seq (.cons (.b 3) .nil) t_law_v2_1 e_law_v2_1) .nil)) (.tup (.cons (.ix (.v 6) (.int 0)) (.cons (.v 13) .nil)))) .nil
def b_law_v2_18 : Sxs := .cons (.app 5 (.tup (.cons (.ix (.v 6) (.int 0)) (.cons (.call 18 (.cons (.ix (.v 6) (.int 1)) (.cons (.v 13) .nil))) .nil)))) b_law_v2_17
def b_law_v2_19 : Sxs := .cons (.asg (.nm 13) (.bin .mul (.call 17 (.cons (.v 1) (.cons (.bi .len (.cons (.ix (.v 6) (.int 1)) .nil)) .nil))) (.bi .int (.cons (.cmp .gt (.call 9 (.cons (.v 1) (.cons (.int 4) .nil))) (.int 0)) .nil)))) b_law_v2_18
def b_law_v2_20 : Sxs := .cons (.for_ (.nm 6) .seq (.cons (.v 2) .nil) b_law_v2_19) b_law_v2_16
def b_law_v2_21 : Sxs := .cons (.own 5 (.lst .nil)) b_law_v2_20
def b_law_v2_22 : Sxs := .cons (.app 3 (.tup (.cons (.v 4) (.cons (.call 17 (.cons (.v 1) (.cons (.int 99) .nil))) .nil)))) .nil
def b_law_v2_23 : Sxs := .cons (.ife (.cmp .nin (.v 4) (.lc (.nm 6) .seq (.cons (.v 2) .nil) .nil e_law_v2_2)) b_law_v2_22 .nil) .nil
def b_law_v2_24 : Sxs := .cons (.for_ (.nm 4) .seq (.cons (.call 19 (.cons (.v 1) (.cons (.int 2) .nil))) .nil) b_law_v2_23) b_law_v2_21
def b_law_v2_25 : Sxs := .cons (.own 3 (.lst .nil)) b_law_v2_24
def b_law_v2_26 : Sxs := .cons (.lcs true 2 (.nm 4) .seq (.cons (.call 19 (.cons (.v 1) (.cons (.call 9 (.cons (.v 1) (.cons (.int 6) .nil))) .nil))) .nil) .nil e_law_v2_3) b_law_v2_25
def b_law_v2_27 : Sxs := .cons (.asg (.nm 1) (.call 10 (.cons (.v 0) .nil))) b_law_v2_26
def b_law_v2 : Sxs :=
  b_law_v2_27
end DL
/-! W_s26: draws of k26 -/
local macro_rules | `(tactic| simp_arith only [$xs,*]) => `(tactic| simp (maxSteps := 4000000) only [DL.k1, DL.k2, DL.k3, DL.k4, DL.k5, DL.k6, DL.k7, DL.k8, DL.k9, DL.k10, DL.k11, DL.k12, DL.k13, DL.k14, DL.k15, DL.k16, DL.k17, DL.k18, DL.k19, DL.k20, DL.k21, DL.k22, DL.k23, DL.k24, DL.k25, DL.k26, DL.k27, DL.k28, DL.k29, DL.k30, DL.k31, DL.k32, DL.k33, DL.k34, DL.k35, DL.k36, DL.k37, DL.k38, DL.k39, DL.k40, DL.k41, DL.k42, DL.k43, DL.k44, DL.k45, DL.k46, DL.k47, DL.k48, DL.k49, DL.k50, DL.k51, DL.k52, DL.k53, DL.k54, DL.k55, DL.k56, DL.k57, DL.k58, DL.k59, DL.k60, DL.k61, DL.k62, DL.k63, DL.k64, DL.k65, DL.k66, DL.k67, DL.k68, DL.k69, DL.k70, DL.k71, DL.k72, DL.k73, DL.k74, DL.k75, DL.k76, DL.kr1, DL.kr2, DL.k77, DL.k78, DL.k79, DL.k80, DL.k81, DL.k82, DL.k83, DL.k84, DL.k85, DL.k86, DL.k87, DL.k88, DL.k89, DL.k90, DL.k91, DL.k92, DL.k93, DL.k94, DL.k95, DL.k96, DL.k97, DL.k98, DL.k99, DL.k101, DL.k102, DL.k103, DL.k105, DL.k106, DL.k107, DL.k108, DL.k109, DL.k110, DL.k112, DL.k114, DL.k116, DL.k118, DL.k120, DL.k122, DL.k124, DL.k126, DL.w0, DL.w1, DL.w2, DL.w3, DL.w4, DL.w5, DL.w6, DL.w7, DL.w8, DL.w9, DL.w10, DL.w11, DL.w12, DL.w13, DL.w14, DL.w15, DL.w16, DL.w17, DL.w18, DL.w19, DL.w20, DL.w21, DL.w22, DL.w23, DL.w24, DL.w25, DL.w26, DL.w27, DL.w28, DL.w29, DL.w30, DL.w31, DL.w32, DL.w33, DL.w34, DL.w35, DL.w36, DL.w37, DL.w38, DL.w39, DL.w40, DL.w41, DL.w42, DL.w43, DL.w44, DL.w45, DL.w46, DL.w47, DL.w48, DL.w49, DL.w50, DL.w51, DL.w52, DL.w53, DL.w54, DL.w55, DL.w56, DL.w57, DL.w58, DL.w59, DL.w60, DL.w61, DL.w62, DL.w63, DL.w64, DL.w65, DL.w66, DL.w67, DL.w68, DL.w69, DL.w70, DL.w71, DL.w72, DL.w73, DL.w74, DL.w75, DL.w76, DL.w77, DL.w78, DL.w79, DL.w80, DL.w81, DL.w82, DL.w83, DL.w84, DL.w85, DL.w86, DL.w87, DL.w88, DL.w89, DL.w90, DL.w91, DL.w92, DL.o0, DL.o1, DL.o2, DL.o3, DL.o4, DL.o5, DL.o6, DL.o7, DL.o8, DL.o9, DL.o10, DL.o11, DL.o12, DL.o13, DL.o14, DL.o15, DL.o16, DL.o17, DL.o18, DL.o19, DL.o20, DL.o21, DL.o22, DL.o23, DL.o24, DL.o25, DL.o26, DL.o27, DL.o28, DL.o29, DL.o30, DL.o31, DL.o32, DL.o33, DL.o34, DL.o35, DL.o36, DL.o37, DL.o38, DL.o39, DL.o40, DL.o41, DL.o42, DL.o43, DL.o44, DL.o45, DL.o46, DL.o47, DL.o48, DL.o49, DL.o50, DL.o51, DL.o52, DL.o53, DL.o54, DL.o55, DL.o56, DL.o57, DL.o58, DL.o59, DL.o60, DL.o61, DL.o62, DL.o63, DL.o64, DL.o65, DL.o66, DL.o67, DL.o68, DL.o69, DL.o70, DL.o71, DL.o72, DL.o73, DL.o74, DL.o75, DL.o76, DL.o77, DL.o78, DL.o79, DL.o80, DL.o81, DL.o82, DL.o83, DL.o84, DL.o85, DL.o86, DL.o87, DL.o88, DL.o89, DL.o90, DL.o91, DL.o92, DL.o93, DL.o94, DL.o95, DL.o96, DL.o97, DL.o98, DL.o99, DL.o100, DL.o101, DL.o102, DL.o103, DL.o104, DL.o105, DL.o106, DL.o107, DL.o108, DL.o109, DL.o110, DL.o111, DL.o112, DL.o113, DL.o114, DL.o115, DL.o116, DL.o117, DL.o118, DL.o119, DL.o120, DL.o121, DL.o122, DL.o123, DL.o124, DL.o125, DL.o126, DL.o127, DL.o128, DL.o129, DL.o130, DL.o131, DL.o132, DL.o133, DL.o134, DL.o135, DL.o136, DL.o137, DL.o138, DL.o139, DL.o140, DL.o141, DL.o142, DL.o143, DL.o144, DL.o145, DL.o146, DL.o147, DL.o148, DL.o149, DL.o150, DL.o151, DL.o152, DL.o153, DL.o154, DL.o155, DL.o156, DL.o157, DL.o158, DL.o159, DL.o160, DL.o161, DL.o162, DL.o163, DL.o164, DL.o165, DL.o166, DL.o167, DL.o168, DL.o169, DL.o170, DL.o171, DL.o172, DL.o173, DL.o174, DL.o175, DL.o176, DL.o177, DL.o178, DL.o179, DL.o180, DL.o181, DL.o182, DL.o183, DL.o184, DL.o185, DL.o186, DL.o187, DL.o188, DL.o189, DL.o190, DL.o191, DL.o192, DL.o193, DL.o194, DL.o195, DL.o196, DL.o197, DL.o198, DL.o199, DL.o200, DL.o201, DL.o202, DL.o203, DL.o204, DL.o205, DL.o206, DL.o207, DL.o208, DL.o209, DL.o210, DL.o211, DL.o212, DL.o213, DL.o214, DL.o215, DL.o216, DL.o217, DL.o218, DL.o219, DL.o220, DL.o221, DL.o222, DL.o223, DL.o224, DL.o225, DL.o226, DL.o227, DL.o228, DL.o229, DL.o230, DL.o231, DL.o232, DL.o233, DL.o234, DL.o235, DL.o236, DL.o237, DL.o238, DL.o239, DL.o240, DL.o241, DL.o242, DL.o243, DL.o244, DL.o245, DL.o246, DL.o247, DL.o248, DL.o249, DL.o250, ↓reduceIte, String.reduceBEq, List.length_cons, List.length_nil, Int.reduceLT, Int.reduceLE, Int.reduceAdd, Int.reduceSub, Int.reduceMul, Int.reduceNeg, Int.reduceEq, Int.reduceToNat, Nat.reduceAdd, Nat.reduceSub, Nat.reduceMul, Nat.reduceLT, Nat.reduceLeDiff, Nat.reduceEqDiff, $xs,*])
namespace DL
open PySem PySem.Spec PyProof.Rows L2
def stD (cD : D) (at_ : Nat) (rest turn mixed left : Int) (oD : D) : D := .lst [cD, .int at_, .int rest, .int turn, .int mixed, .int left, oD]
def sMixed26 : FSp := fun ds Q E => ∃ a b, ds = [.int a, .int b] ∧ ∀ r, 0 ≤ r → r < 998244353 → Q (.int r)
def oDraw26 : OSp := fun d0 ds Q => ∃ n cD oD cs os at_ rest turn mixed left, ds = [.int n] ∧ big n ∧ d0 = stD cD at_ rest turn mixed left oD ∧ wkC cD cs ∧ wkC oD os ∧ os.length = cs.length ∧
  ∀ r at' rest' turn' mixed' left', 0 ≤ r → r < n → Q (.int r) (stD cD at' rest' turn' mixed' left' oD)
section
variable {Γ : Gm} {E : DX → DEnv → Prop} {Q : D → Prop} {QE : DX → Prop} {ds : List D}
theorem w_law_mixed (h : sMixed26 ds Q QE) : wSs Γ E b_law_mixed (zz Q) (ent0 n_law_mixed ds) := by
  obtain ⟨a, b, rfl, q⟩ := h
  show wSs Γ E b_law_mixed _ [.sh (.int a), .sh (.int b), .un, .un]
  have z : ∀ x m : Int, 0 < m → 0 ≤ x % m ∧ x % m < m := fun x m h => ⟨Int.emod_nonneg _ (by omega), Int.emod_lt_of_pos _ h⟩
  unfold b_law_mixed
  (first | (with_reducible refine step_i (by with_unfolding_all rfl) ?_) | ((try simp_arith only [true_and]); with_reducible refine step_i (by with_unfolding_all rfl) ?_)); simp_arith only [true_and]
  (repeat (((with_reducible refine And.intro ?_ ?_); focus (first | decide | omega | exact trivial | (intro h; cases h; done) | exact Or.inr (by decide) | exact Or.inl ⟨by omega, by omega⟩ | exact ⟨by omega, by omega⟩ | (rw [sizeLine_eq]; omega) | (refine sz ?_; first | omega | (simp; done))))))
  have z1 := z (a * 48271 + b * 69621 + 12345) 2147483647 (by decide)
  generalize (a * 48271 + b * 69621 + 12345) % 2147483647 = x at z1 ⊢
  (first | (with_reducible refine step_i (by with_unfolding_all rfl) ?_) | ((try simp_arith only [true_and]); with_reducible refine step_i (by with_unfolding_all rfl) ?_)); simp_arith only [true_and]
  (repeat (((with_reducible refine And.intro ?_ ?_); focus (first | decide | omega | exact trivial | (intro h; cases h; done) | exact Or.inr (by decide) | exact Or.inl ⟨by omega, by omega⟩ | exact ⟨by omega, by omega⟩ | (rw [sizeLine_eq]; omega) | (refine sz ?_; first | omega | (simp; done))))))
  have z2 := z (x * x + b * 40692 + x / 7) 2147483399 (by decide)
  generalize (x * x + b * 40692 + x / 7) % 2147483399 = y at z2 ⊢
  (first | (with_reducible refine step_i (by with_unfolding_all rfl) ?_) | ((try simp_arith only [true_and]); with_reducible refine step_i (by with_unfolding_all rfl) ?_)); simp_arith only [true_and]
  (repeat (((with_reducible refine And.intro ?_ ?_); focus (first | decide | omega | exact trivial | (intro h; cases h; done) | exact Or.inr (by decide) | exact Or.inl ⟨by omega, by omega⟩ | exact ⟨by omega, by omega⟩ | (rw [sizeLine_eq]; omega) | (refine sz ?_; first | omega | (simp; done))))))
  obtain ⟨a1, a2⟩ := z (y * 16807 + y / 1013 + b) 998244353 (by decide)
  exact q _ a1 a2
theorem c_mixed26 {a b : Int} (q : ∀ r, 0 ≤ r → r < 998244353 → Q (.int r)) : sMixed26 [.int a, .int b] Q QE := ⟨a, b, rfl, q⟩
theorem w_law_draw (g8 : Γ.f 8 = sMixed26) {a : Addr} {d0 : D} {QD : D → D → Prop} (h : oDraw26 d0 ds QD) : wSs Γ (fun _ _ => False) b_law_draw { nx := fun ρ => ∃ d', ρ[0]? = some (slO (some a) d') ∧ (slO (some a) d').isOwn = true ∧ QD .non d', rt := fun d ρ => ∃ d', ρ[0]? = some (slO (some a) d') ∧ (slO (some a) d').isOwn = true ∧ QD d d' } (entO n_law_draw a d0 ds) := by
  obtain ⟨n, cD, oD, cs, os, at_, rest, turn, mixed, left, rfl, hn, rfl, hc, ho, hl, q⟩ := h
  show wSs Γ _ b_law_draw _ [.own (some a) [cD, .int at_, .int rest, .int turn, .int mixed, .int left, oD], .sh (.int n), .un, .un, .un]
  have hn0 : 0 < n := hn.1
  have fin : ∀ (at_ : Nat) (rest turn mixed left r : Int) , 0 ≤ r → r < n → ∃ d', Sl.own (some a) [cD, .int at_, .int rest, .int turn, .int mixed, .int left, oD] = slO (some a) d' ∧ (slO (some a) d').isOwn = true ∧ QD (.int r) d' :=
    fun at_ rest turn mixed left r h0 h1 => ⟨stD cD at_ rest turn mixed left oD, rfl, rfl, q r _ _ _ _ _ h0 h1⟩
  have em : ∀ x : Int, 0 ≤ x % n ∧ x % n < n := fun x => ⟨Int.emod_nonneg _ (by omega), Int.emod_lt_of_pos _ hn0⟩
  unfold b_law_draw
  (first | (with_reducible refine step_i (by with_unfolding_all rfl) ?_) | ((try simp_arith only [true_and]); with_reducible refine step_i (by with_unfolding_all rfl) ?_)); simp_arith only [true_and]
  refine ⟨3, rfl, ?_⟩
  (first | (with_reducible refine step_i (by with_unfolding_all rfl) ?_) | ((try simp_arith only [true_and]); with_reducible refine step_i (by with_unfolding_all rfl) ?_)); simp_arith only [true_and]
  refine ⟨.lst (cs.map .int), hc, ?_⟩
  (first | (with_reducible refine step_i (by with_unfolding_all rfl) ?_) | ((first | simp_arith only [List.length_map] | simp_arith only [true_and] | skip); with_reducible refine step_i (by with_unfolding_all rfl) ?_)); simp_arith only [List.length_map]
  split
  · (first | (with_reducible refine step_i (by with_unfolding_all rfl) ?_) | ((first | simp_arith only [g8] | simp_arith only [true_and] | skip); with_reducible refine step_i (by with_unfolding_all rfl) ?_)); simp_arith only [g8]
    refine c_mixed26 fun r _ _ => ?_; (first | simp_arith only [g8] | simp_arith only [true_and] | skip)
    exact ⟨hn0, fin _ _ _ _ _ _ (em r).1 (em r).2⟩
  · rename_i hne
    (first | (with_reducible refine stop_i (by with_unfolding_all rfl) ?_) | (simp_arith only [true_and]; with_reducible refine stop_i (by with_unfolding_all rfl) ?_) | skip)
    refine seq_i (fun ρ => ∃ (at_ : Nat) (rest turn mixed left : Int) (s3 s4 : Sl), ρ = [.own (some a) [cD, .int at_, .int rest, .int turn, .int mixed, .int left, oD], .sh (.int n), .sh (.lst (cs.map .int)), s3, s4]) ?_ fun N hN => ?_
    · rintro ρ ⟨at_, rest, turn, mixed, left, s3, s4, rfl⟩
      have tail : wSs Γ (fun _ _ => False) (.cons (.asg (.nm 3) (.bin .mod (.bi .int (.cons (.ix (.b 0) (.int 2)) .nil)) (.v 1)))
          (.cons (.seti 0 (.int 5) (.bin .sub (.ix (.b 0) (.int 5)) (.int 1)))
          (.cons (.seti 0 (.int 2) (.bin .mul (.bin .fdiv (.bi .int (.cons (.ix (.b 0) (.int 2)) .nil)) (.v 1)) (.bi .int (.cons (.cmp .gt (.ix (.b 0) (.int 5)) (.int 0)) .nil))))
          (.cons (.ret (.v 3)) .nil)))) { nx := fun ρ => ∃ d', ρ[0]? = some (slO (some a) d') ∧ (slO (some a) d').isOwn = true ∧ QD .non d', rt := fun d ρ => ∃ d', ρ[0]? = some (slO (some a) d') ∧ (slO (some a) d').isOwn = true ∧ QD d d' }
          [.own (some a) [cD, .int at_, .int rest, .int turn, .int mixed, .int left, oD], .sh (.int n), .sh (.lst (cs.map .int)), s3, s4] := by
        (first | (with_reducible refine step_i (by with_unfolding_all rfl) ?_) | ((try simp_arith only [true_and]); with_reducible refine step_i (by with_unfolding_all rfl) ?_)); simp_arith only [true_and]
        refine ⟨hn0, ?_⟩
        (first | (with_reducible refine step_i (by with_unfolding_all rfl) ?_) | ((try simp_arith only [true_and]); with_reducible refine step_i (by with_unfolding_all rfl) ?_)); simp_arith only [true_and]
        refine ⟨5, rfl, ?_⟩
        (first | (with_reducible refine step_i (by with_unfolding_all rfl) ?_) | ((try simp_arith only [true_and]); with_reducible refine step_i (by with_unfolding_all rfl) ?_)); simp_arith only [true_and]
        refine ⟨hn, ?_, 2, rfl, ?_⟩
        · split
          · exact .inr ⟨by decide, by decide⟩
          · exact .inr ⟨by decide, by decide⟩
        (first | (with_reducible refine step_i (by with_unfolding_all rfl) ?_) | ((try simp_arith only [true_and]); with_reducible refine step_i (by with_unfolding_all rfl) ?_)); simp_arith only [true_and]
        exact (fin _ _ _ _ _ _ (em _).1 (em _).2)
      have mix : wSs Γ (fun _ _ => False) (.cons (.ret (.bin .mod (.bi .int (.cons (.call 8 (.cons (.ix (.wk (.ix (.b 0) (.int 6))) (.bin .mod (.bi .int (.cons (.ix (.b 0) (.int 3)) .nil)) (.bi .len (.cons (.v 2) .nil)))) (.cons (.ix (.b 0) (.int 3)) .nil))) .nil)) (.v 1))) .nil)
          { nx := fun _ => False, rt := fun d ρ => ∃ d', ρ[0]? = some (slO (some a) d') ∧ (slO (some a) d').isOwn = true ∧ QD d d' }
          [.own (some a) [cD, .int at_, .int rest, .int turn, .int mixed, .int left, oD], .sh (.int n), .sh (.lst (cs.map .int)), s3, s4] := by
        (first | (with_reducible refine step_i (by with_unfolding_all rfl) ?_) | ((try simp_arith only [true_and]); with_reducible refine step_i (by with_unfolding_all rfl) ?_)); simp_arith only [true_and]
        refine ⟨.lst (os.map .int), ho, ?_⟩
        simp_arith only [List.length_map]
        have hc0 : (0 : Int) < cs.length := by omega
        refine ⟨hc0, ?_⟩
        have h1 := Int.emod_nonneg turn (b := (cs.length : Int)) (by omega)
        have h2 := Int.emod_lt_of_pos turn hc0
        obtain ⟨j, hj⟩ := Int.eq_ofNat_of_zero_le h1
        rw [hj] at h2 ⊢
        have hj2 : j < os.length := by omega
        rw [atI_int hj2]
        simp_arith only [g8]
        refine c_mixed26 fun r _ _ => ?_; (first | simp_arith only [g8] | simp_arith only [true_and] | skip)
        exact ⟨hn0, fin _ _ _ _ _ _ (em r).1 (em r).2⟩
      (first | (with_reducible refine step_i (by with_unfolding_all rfl) ?_) | ((try simp_arith only [true_and]); with_reducible refine step_i (by with_unfolding_all rfl) ?_)); simp_arith only [true_and]
      split
      · exact mix
      · split
        · exact mix
        · (first | (with_reducible refine stop_i (by with_unfolding_all rfl) ?_) | (simp_arith only [true_and]; with_reducible refine stop_i (by with_unfolding_all rfl) ?_) | skip)
          exact tail
    · simp_arith only [List.length_map]
      split
      · split
        · split
          · rename_i h1 h2 h3
            have hlt : at_ < cs.length := by omega
            (first | (with_reducible refine step_i (by with_unfolding_all rfl) ?_) | ((try simp_arith only [true_and]); with_reducible refine step_i (by with_unfolding_all rfl) ?_)); simp_arith only [true_and]
            rw [atI_int hlt]
            refine ⟨_, rfl, ?_⟩
            (first | (with_reducible refine step_i (by with_unfolding_all rfl) ?_) | ((try simp_arith only [true_and]); with_reducible refine step_i (by with_unfolding_all rfl) ?_)); simp_arith only [true_and]
            refine ⟨1, rfl, ?_⟩
            (first | (with_reducible refine step_i (by with_unfolding_all rfl) ?_) | ((try simp_arith only [true_and]); with_reducible refine step_i (by with_unfolding_all rfl) ?_)); simp_arith only [true_and]
            refine ⟨⟨by decide, by decide, by decide⟩, ?_⟩
            split
            · (first | (with_reducible refine step_i (by with_unfolding_all rfl) ?_) | ((first | simp_arith only [g8] | simp_arith only [true_and] | skip); with_reducible refine step_i (by with_unfolding_all rfl) ?_)); simp_arith only [g8]
              refine c_mixed26 fun r _ _ => ?_; (first | simp_arith only [g8] | simp_arith only [true_and] | skip)
              refine ⟨hn0, ?_⟩
              exact fin (at_ + 1) _ _ _ _ _ (em r).1 (em r).2
            · (first | (with_reducible refine stop_i (by with_unfolding_all rfl) ?_) | (simp_arith only [true_and]; with_reducible refine stop_i (by with_unfolding_all rfl) ?_) | skip)
              (first | (with_reducible refine step_i (by with_unfolding_all rfl) ?_) | ((try simp_arith only [true_and]); with_reducible refine step_i (by with_unfolding_all rfl) ?_)); simp_arith only [true_and]
              refine ⟨2, rfl, ?_⟩
              (first | (with_reducible refine step_i (by with_unfolding_all rfl) ?_) | ((try simp_arith only [true_and]); with_reducible refine step_i (by with_unfolding_all rfl) ?_)); simp_arith only [true_and]
              refine ⟨5, rfl, ?_⟩
              (first | (with_reducible refine stop_i (by with_unfolding_all rfl) ?_) | (simp_arith only [true_and]; with_reducible refine stop_i (by with_unfolding_all rfl) ?_) | skip)
              exact hN _ ⟨at_ + 1, _, _, _, _, _, _, rfl⟩
          · (first | (with_reducible refine stop_i (by with_unfolding_all rfl) ?_) | (simp_arith only [true_and]; with_reducible refine stop_i (by with_unfolding_all rfl) ?_) | skip)
            exact hN _ ⟨_, _, _, _, _, _, _, rfl⟩
        · (first | (with_reducible refine stop_i (by with_unfolding_all rfl) ?_) | (simp_arith only [true_and]; with_reducible refine stop_i (by with_unfolding_all rfl) ?_) | skip)
          exact hN _ ⟨_, _, _, _, _, _, _, rfl⟩
      · (first | (with_reducible refine stop_i (by with_unfolding_all rfl) ?_) | (simp_arith only [true_and]; with_reducible refine stop_i (by with_unfolding_all rfl) ?_) | skip)
        exact hN _ ⟨_, _, _, _, _, _, _, rfl⟩
end
/-! ### the lid -/
def stL : Lid where
  T := { x : Addr × List Int × Addr × List Int // x.2.2.2.length = x.2.1.length }
  I := fun θ o => ∃ (at_ : Nat) (rest turn mixed left : Int), o = .lst [.ref θ.1.1, .int at_, .int rest, .int turn, .int mixed, .int left, .ref θ.1.2.2.1]
  B := fun θ K H => Rep K H (.lst (θ.1.2.1.map D.int)) (.ref θ.1.1) ∧ Rep K H (.lst (θ.1.2.2.2.map D.int)) (.ref θ.1.2.2.1)
  S := fun θ d => ∃ (at_ : Nat) (rest turn mixed left : Int), d = stD (.opq (cellsP θ.1.1 θ.1.2.1)) at_ rest turn mixed left (.opq (cellsP θ.1.2.2.1 θ.1.2.2.2))
  mono := fun θ K H H' b s => ⟨b.1.same s, b.2.same s⟩
  into := fun θ K H o ⟨at_, rest, turn, mixed, left, e⟩ b => ⟨_, ⟨at_, rest, turn, mixed, left, rfl⟩, by
    rw [e]
    exact .lst (.cons (.opq (Same.refl _) ⟨rfl, b.1⟩) (.cons (.int _) (.cons (.int _) (.cons (.int _) (.cons (.int _) (.cons (.int _) (.cons (.opq (Same.refl _) ⟨rfl, b.2⟩) .nil)))))))⟩
  back := fun θ K H d o ⟨at_, rest, turn, mixed, left, e⟩ r => ⟨at_, rest, turn, mixed, left, by
    subst e
    cases r with
    | lst r =>
      cases r with
      | cons r0 r =>
        cases r0 with
        | opq s0 p0 =>
          obtain ⟨rfl, _⟩ := p0
          cases r with
          | cons r1 r => cases r1; cases r with
            | cons r2 r => cases r2; cases r with
              | cons r3 r => cases r3; cases r with
                | cons r4 r => cases r4; cases r with
                  | cons r5 r => cases r5; cases r with
                    | cons r6 r =>
                      cases r6 with
                      | opq s6 p6 =>
                        obtain ⟨rfl, _⟩ := p6
                        cases r; rfl⟩
def nStart26 : List D → (D → Prop) → Prop := fun ds Q => ∃ cs : List Int, ds = [.lst (cs.map .int)] ∧ cs.length ≤ 63 ∧ ∀ (os : List Int) (at_ : Nat) (rest turn mixed left : Int), os.length = cs.length → Q (stD (.lst (cs.map .int)) at_ rest turn mixed left (.lst (os.map .int)))
theorem st_ini {K : PySem.W.Frag} : ∀ (H : Hp) (d : D) (o : HO), (∃ (cs os : List Int) (at_ : Nat) (rest turn mixed left : Int), os.length = cs.length ∧ d = stD (.lst (cs.map .int)) at_ rest turn mixed left (.lst (os.map .int))) → RepO K H d o → ∃ θ, stL.I θ o ∧ stL.B θ K H := fun H d o ⟨cs, os, at_, rest, turn, mixed, left, hl, e⟩ r => by
  subst e
  cases r with
  | lst r =>
    cases r with
    | cons r0 r =>
      cases r0 with
      | lst s0 p0 =>
        cases r with
        | cons r1 r => cases r1; cases r with
          | cons r2 r => cases r2; cases r with
            | cons r3 r => cases r3; cases r with
              | cons r4 r => cases r4; cases r with
                | cons r5 r => cases r5; cases r with
                  | cons r6 r =>
                    cases r6 with
                    | lst s6 p6 =>
                      cases r
                      exact ⟨⟨⟨_, cs, _, os⟩, hl⟩, ⟨_, _, _, _, _, rfl⟩, .lst s0 p0, .lst s6 p6⟩
section
variable (P : Program) (w : World)
def sDraw26 : FSp := fun ds Q E => ∃ n, ds = [stL.d P w, .int n] ∧ big n ∧ ∀ r, 0 ≤ r → r < n → Q (.int r)
def sStart26 : FSp := fun ds Q E => ∃ cs : List Int, ds = [.lst (cs.map .int)] ∧ cs.length ≤ 63 ∧ Q (stL.d P w)
end
section
variable {P : Program} {w : World} {Γ : Gm} {E : DX → DEnv → Prop} {Q : D → Prop} {QE : DX → Prop} {ds : List D}
theorem wk_self {cs : List Int} : wkC (.lst (cs.map .int)) cs := fun _ _ _ r => r
theorem wk_opq {c : Addr} {cs : List Int} : wkC (.opq (cellsP c cs)) cs := wkCells
theorem c_draw26 {n : Int} (hn : big n) (q : ∀ r, 0 ≤ r → r < n → Q (.int r)) : sDraw26 P w [stL.d P w, .int n] Q QE := ⟨n, rfl, hn, q⟩
theorem to_ints {l : List D} (h : ∀ x ∈ l, ∃ i : Int, x = .int i) : ∃ os : List Int, l = os.map .int := by
  induction l with
  | nil => exact ⟨[], rfl⟩
  | cons x l ih =>
    obtain ⟨i, rfl⟩ := h x List.mem_cons_self
    obtain ⟨os, rfl⟩ := ih fun y hy => h y (List.mem_cons_of_mem _ hy)
    exact ⟨i :: os, rfl⟩
theorem w_law_start (g9 : Γ.o 9 = oDraw26) (h : nStart26 ds Q) : wSs Γ E b_law_start { nx := fun _ => False, rt := fun d _ => notSeq d = false ∧ Q d, rtF := true } (ent0 n_law_start ds) := by
  obtain ⟨cs, rfl, hz, q⟩ := h
  show wSs Γ E b_law_start _ [.sh (.lst (cs.map .int)), .un, .un]
  unfold b_law_start
  (first | (with_reducible refine step_i (by with_unfolding_all rfl) ?_) | ((try simp_arith only [true_and]); with_reducible refine step_i (by with_unfolding_all rfl) ?_)); simp_arith only [true_and]
  refine lcL_map (fun d => ∃ i : Int, d = .int i) (by rw [List.length_map, sizeLine_eq]; omega) (fun d acc hd ha hlt R hR => ?_) fun l hll hx => ?_
  · obtain ⟨i, _, rfl⟩ := List.mem_map.mp hd
    simp_arith only [e_law_start_0]
    exact ⟨hlt, hR _ ⟨_, rfl⟩⟩
  obtain ⟨os, rfl⟩ := to_ints hx
  rw [List.length_map, List.length_map] at hll
  try (first | simp_arith only [g8] | simp_arith only [true_and] | skip)
  refine ⟨sz (by simp), ?_⟩
  refine seq_i (fun ρ => ∃ (mixed : Int), ρ = [.sh (.lst (cs.map .int)), .own none [.lst (cs.map .int), .int (0 : Nat), .int 0, .int 0, .int mixed, .int 0, .lst (os.map .int)], .un]) ?_ fun N hN => ?_
  · rintro ρ ⟨mixed, rfl⟩
    (first | (with_reducible refine step_i (by with_unfolding_all rfl) ?_) | ((first | simp_arith only [g9] | simp_arith only [true_and] | skip); with_reducible refine step_i (by with_unfolding_all rfl) ?_)); simp_arith only [g9]
    refine ⟨none, _, rfl, ?_⟩
    refine ⟨2, _, _, cs, os, 0, 0, 0, mixed, 0, rfl, ⟨by decide, by decide⟩, rfl, wk_self, wk_self, hll, fun r at' rest' turn' mixed' left' h0 h1 => ?_⟩
    refine ⟨rfl, ?_⟩
    (first | (with_reducible refine step_i (by with_unfolding_all rfl) ?_) | ((first | simp_arith only [stD] | simp_arith only [true_and] | skip); with_reducible refine step_i (by with_unfolding_all rfl) ?_)); simp_arith only [stD]
    exact ⟨rfl, rfl, q os at' rest' turn' mixed' left' hll⟩
  · simp_arith only [List.length_map]
    have e4 : ∀ m : Int, [D.lst (cs.map .int), .int 0, .int 0, .int 0, .int 0, .int 0, .lst (os.map .int)].set 4 (.int m) = [.lst (cs.map .int), .int (0 : Nat), .int 0, .int 0, .int m, .int 0, .lst (os.map .int)] := fun m => rfl
    have set1 : wSs Γ E (.cons (.seti 1 (.int 4) (.int 1)) .nil) { nx := N, rt := fun d _ => notSeq d = false ∧ Q d, rtF := true } [.sh (.lst (cs.map .int)), .own none [.lst (cs.map .int), .int 0, .int 0, .int 0, .int 0, .int 0, .lst (os.map .int)], .un] := by
      (first | (with_reducible refine step_i (by with_unfolding_all rfl) ?_) | ((try simp_arith only [true_and]); with_reducible refine step_i (by with_unfolding_all rfl) ?_)); simp_arith only [true_and]
      refine ⟨4, rfl, ?_⟩
      (first | (with_reducible refine stop_i (by with_unfolding_all rfl) ?_) | (simp_arith only [true_and]; with_reducible refine stop_i (by with_unfolding_all rfl) ?_) | skip)
      exact hN _ ⟨1, rfl⟩
    split
    · exact set1
    · rename_i hne
      cases cs with
      | nil => exact absurd rfl hne
      | cons c r =>
        refine ⟨.int c, atI_int (cs := c :: r) (i := 0) (by simp), ?_⟩
        (first | simp_arith only [stD] | simp_arith only [true_and] | skip)
        split
        · exact set1
        · (first | (with_reducible refine stop_i (by with_unfolding_all rfl) ?_) | (simp_arith only [true_and]; with_reducible refine stop_i (by with_unfolding_all rfl) ?_) | skip)
          exact hN _ ⟨0, rfl⟩
end
end DL
/-! W_edits: edits of texts -/
namespace DL
open PySem PySem.Spec PyProof.Rows L2
/-! ### plain -/
def isNumD : D → Bool
  | .int i => decide (0 ≤ i)
  | _ => false
/-- signs of rows: line feeds, and those of lines -/
def okRow (c : Nat) : Bool := c == 10 || (decide (32 ≤ c) && decide (c ≤ 126) && !(c == 37))
def isRowD : D → Bool
  | .str s => s.cps.toList.all okRow
  | _ => false
def isEditD : D → Bool
  | .tup [a, b, c] => isNumD a && isNumD b && (match a, b with
    | .int i, .int j => decide (i ≤ j) && isRowD c
    | _, _ => false)
  | _ => false
/-- all parts of a value, but for those within its parts, are of kinds that the model tells -/
def ok1 (d : D) : Bool := okD d && (match d with
  | .tup l => l.all okD
  | _ => true)
def fitD (text : Str) : D → Bool
  | .tup [a, .int b, c] => isEditD (.tup [a, .int b, c]) && decide (b ≤ text.length)
  | _ => false
structure PEnt where
  nm : Str
  s : Int
  e : Int
  n : Str
def PEnt.d (x : PEnt) : D := .tup [.str x.nm, .int x.s, .int x.e, .str x.n]
def ovl (a b c d : Int) : Bool := if a = b ∨ c = d then decide (a ≤ d ∧ c ≤ b) else decide (a < d ∧ c < b)
def PEnt.gr (x : PEnt) : Int := (x.n.length : Int) - (x.e - x.s)
def shiftF (a b : Int) (nm : Str) : List PEnt → Int → Option Int
  | [], m => some m
  | x :: r, m => if x.nm = nm then (if ovl x.s x.e a b = true then none else shiftF a b nm r (if x.e ≤ a then m + x.gr else m)) else shiftF a b nm r m
theorem shiftF_cons {a b m : Int} {nm : Str} {x : PEnt} {r : List PEnt} : shiftF a b nm (x :: r) m = if x.nm = nm then (if ovl x.s x.e a b = true then none else shiftF a b nm r (if x.e ≤ a then m + x.gr else m)) else shiftF a b nm r m := rfl
/-! ### promises -/
def xEdit (d : D) : DX := (3, [("value", d)])
def xClash (r : Str) : DX := (10, [("reason", .str r)])
def sIsNumber : FSp := fun ds Q E => ∃ d, ds = [d] ∧ okD d = true ∧ Q (.bl (isNumD d))
def sIsRow : FSp := fun ds Q E => ∃ d, ds = [d] ∧ okD d = true ∧ Q (.bl (isRowD d))
def sIsEdit : FSp := fun ds Q E => ∃ d, ds = [d] ∧ ok1 d = true ∧ Q (.bl (isEditD d))
def sNeedEdit : FSp := fun ds Q E => ∃ t d, ds = [.str t, d] ∧ t.length ≤ sizeLine ∧ ok1 d = true ∧ (fitD t d = true → Q .non) ∧ (fitD t d = false → E (xEdit d))
def editF (t : Str) (a b : Int) (n : Str) : Str := cutS t none (some a) ++ n ++ cutS t (some b) none
def sEdited : FSp := fun ds Q E => ∃ t d, ds = [.str t, d] ∧ t.length ≤ 2000000 ∧ ok1 d = true ∧ (∀ a b n, d = .tup [.int a, .int b, .str n] → n.length ≤ 1000000) ∧ (∀ a b n, d = .tup [.int a, .int b, .str n] → fitD t d = true → Q (.str (editF t a b n))) ∧ (fitD t d = false → E (xEdit d))
def sOverlap : FSp := fun ds Q E => ∃ a b c d, ds = [.tup [.int a, .int b], .tup [.int c, .int d]] ∧ Q (.bl (ovl a b c d))
def sGrowth : FSp := fun ds Q E => ∃ x : PEnt, ds = [x.d] ∧ x.n.length ≤ sizeLine ∧ Q (.int x.gr)
def sShifted : FSp := fun ds Q E => ∃ a b t ps nm, ds = [.tup [.int a, .int b, .str t], .tup (ps.map PEnt.d), .str nm] ∧ (∀ x ∈ ps, x.n.length ≤ sizeLine) ∧ (∀ m, shiftF a b nm ps 0 = some m → Q (.tup [.int (a + m), .int (b + m), .str t])) ∧ (shiftF a b nm ps 0 = none → E (xClash "place"))
/-! ### walks -/
section
variable {Γ : Gm} {E : DX → DEnv → Prop} {Q : D → Prop} {QE : DX → Prop} {ds : List D}
theorem w_is_number (h : sIsNumber ds Q QE) : wSs Γ E b_is_number (zz Q) (ent0 n_is_number ds) := by
  obtain ⟨d, rfl, hd, q⟩ := h
  show wSs Γ E b_is_number _ [.sh d]
  unfold b_is_number
  (first | (with_reducible refine step_i (by with_unfolding_all rfl) ?_) | ((try simp_arith only [true_and]); with_reducible refine step_i (by with_unfolding_all rfl) ?_)); simp_arith only [true_and]
  cases d <;> first | (cases hd; done) | skip
  all_goals (simp_arith only [tyD, exists_eq_left', subTy, List.any_cons, List.any_nil, Bool.or_false]; simp [isNumD] at q ⊢; exact q)
theorem w_is_row (h : sIsRow ds Q QE) : wSs Γ E b_is_row_of_signs (zz Q) (ent0 n_is_row_of_signs ds) := by
  obtain ⟨d, rfl, hd, q⟩ := h
  show wSs Γ E b_is_row_of_signs _ [.sh d, .un]
  unfold b_is_row_of_signs
  cases d with
  | str s =>
    (first | (with_reducible refine step_i (by with_unfolding_all rfl) ?_) | ((try simp_arith only [true_and]); with_reducible refine step_i (by with_unfolding_all rfl) ?_)); simp_arith only [true_and]
    (first | (with_reducible refine stop_i (by with_unfolding_all rfl) ?_) | (simp_arith only [true_and]; with_reducible refine stop_i (by with_unfolding_all rfl) ?_) | skip)
    (first | (with_reducible refine step_i (by with_unfolding_all rfl) ?_) | ((try simp_arith only [true_and]); with_reducible refine step_i (by with_unfolding_all rfl) ?_)); simp_arith only [true_and]
    refine forL_i (fun ds ρ => ∃ (r : List Nat) (x : Sl), ds = r.map (fun c => D.str ⟨#[c]⟩) ∧ ρ = [.sh (.str s), x] ∧ s.cps.toList.all okRow = r.all okRow) ?_ ?_ _ _ ⟨s.cps.toList, .un, rfl, rfl, rfl⟩
    · rintro ρ ⟨r, x, e, rfl, hr⟩
      cases r with
      | cons _ _ => cases e
      | nil =>
        (first | (with_reducible refine step_i (by with_unfolding_all rfl) ?_) | ((try simp_arith only [true_and]); with_reducible refine step_i (by with_unfolding_all rfl) ?_)); simp_arith only [true_and]
        refine (?_)
        have : isRowD (.str s) = true := hr
        rw [this] at q; exact q
    · rintro d ds ρ ⟨r, x, e, rfl, hr⟩ N hN
      cases r with
      | nil => cases e
      | cons c r =>
        rw [List.map_cons] at e
        injection e with e1 e2
        subst e1 e2
        (try simp_arith only [true_and])
        (first | (with_reducible refine step_i (by with_unfolding_all rfl) ?_) | ((first | simp_arith only [sign1, ord1, nl_sign, sign_eq] | simp_arith only [true_and] | skip); with_reducible refine step_i (by with_unfolding_all rfl) ?_)); simp_arith only [sign1, ord1, nl_sign, sign_eq]
        have good : okRow c = true → N [Sl.sh (D.str s), Sl.sh (D.str { cps := #[c] })] := fun k => hN _ ⟨r, _, rfl, rfl, by rw [hr, List.all_cons, k, Bool.true_and]⟩
        have bad : okRow c = false → Q (.bl false) := fun k => by
          have z : isRowD (.str s) = false := by show s.cps.toList.all okRow = false; rw [hr, List.all_cons, k, Bool.false_and]
          rw [z] at q; exact q
        repeat' split
        all_goals first
          | ((first | (with_reducible refine stop_i (by with_unfolding_all rfl) ?_) | (simp_arith only [true_and]; with_reducible refine stop_i (by with_unfolding_all rfl) ?_) | skip); (first | (with_reducible refine stop_i (by with_unfolding_all rfl) ?_) | (simp_arith only [true_and]; with_reducible refine stop_i (by with_unfolding_all rfl) ?_) | skip); refine good ?_; simp only [okRow, Bool.or_eq_true, Bool.and_eq_true, beq_iff_eq, decide_eq_true_eq, Bool.not_eq_true', beq_eq_false_iff_ne]; ((try simp only [decide_eq_true_eq, decide_eq_false_iff_not, Bool.not_eq_true, Bool.not_eq_false, Decidable.not_not, ltB_true, leB_true, eqI_true, eqS_true, eqBl_true, ltB_false, leB_false, eqI_false, eqS_false, eqBl_false] at *); omega))
          | ((first | (with_reducible refine step_i (by with_unfolding_all rfl) ?_) | ((try simp_arith only [true_and]); with_reducible refine step_i (by with_unfolding_all rfl) ?_)); simp_arith only [true_and]; refine (bad ?_); simp only [okRow, Bool.or_eq_false_iff, Bool.and_eq_false_iff, beq_eq_false_iff_ne, decide_eq_false_iff_not, Bool.not_eq_false', beq_iff_eq]; ((try simp only [decide_eq_true_eq, decide_eq_false_iff_not, Bool.not_eq_true, Bool.not_eq_false, Decidable.not_not, ltB_true, leB_true, eqI_true, eqS_true, eqBl_true, ltB_false, leB_false, eqI_false, eqS_false, eqBl_false] at *); omega))
  | opq _ => cases hd
  | _ =>
    (first | (with_reducible refine step_i (by with_unfolding_all rfl) ?_) | ((try simp_arith only [true_and]); with_reducible refine step_i (by with_unfolding_all rfl) ?_)); simp_arith only [true_and]
    (first | (with_reducible refine step_i (by with_unfolding_all rfl) ?_) | ((try simp_arith only [true_and]); with_reducible refine step_i (by with_unfolding_all rfl) ?_)); simp_arith only [true_and]
    exact (q)
theorem c_is_number {d : D} (h : okD d = true) (q : Q (.bl (isNumD d))) : sIsNumber [d] Q QE := ⟨d, rfl, h, q⟩
theorem c_is_row {d : D} (h : okD d = true) (q : Q (.bl (isRowD d))) : sIsRow [d] Q QE := ⟨d, rfl, h, q⟩
theorem numD_int {d : D} (h : isNumD d = true) : ∃ i : Int, d = .int i ∧ 0 ≤ i := by
  cases d <;> first | (cases h; done) | exact ⟨_, rfl, of_decide_eq_true h⟩
theorem w_is_edit (g0 : Γ.f 0 = sIsNumber) (g1 : Γ.f 1 = sIsRow) (h : sIsEdit ds Q QE) : wSs Γ E b_is_edit (zz Q) (ent0 n_is_edit ds) := by
  obtain ⟨d, rfl, hd, q⟩ := h
  show wSs Γ E b_is_edit _ [.sh d]
  unfold b_is_edit
  cases d with
  | tup l =>
    have ho : l.all okD = true := hd
    rcases l with _ | ⟨a, _ | ⟨b, _ | ⟨c, _ | ⟨x, r⟩⟩⟩⟩
    · (first | (with_reducible refine step_i (by with_unfolding_all rfl) ?_) | ((try simp_arith only [true_and]); with_reducible refine step_i (by with_unfolding_all rfl) ?_)); simp_arith only [true_and]; (first | (with_reducible refine step_i (by with_unfolding_all rfl) ?_) | ((try simp_arith only [true_and]); with_reducible refine step_i (by with_unfolding_all rfl) ?_)); simp_arith only [true_and]; exact (q)
    · (first | (with_reducible refine step_i (by with_unfolding_all rfl) ?_) | ((try simp_arith only [true_and]); with_reducible refine step_i (by with_unfolding_all rfl) ?_)); simp_arith only [true_and]; (first | (with_reducible refine step_i (by with_unfolding_all rfl) ?_) | ((try simp_arith only [true_and]); with_reducible refine step_i (by with_unfolding_all rfl) ?_)); simp_arith only [true_and]; exact (q)
    · (first | (with_reducible refine step_i (by with_unfolding_all rfl) ?_) | ((try simp_arith only [true_and]); with_reducible refine step_i (by with_unfolding_all rfl) ?_)); simp_arith only [true_and]; (first | (with_reducible refine step_i (by with_unfolding_all rfl) ?_) | ((try simp_arith only [true_and]); with_reducible refine step_i (by with_unfolding_all rfl) ?_)); simp_arith only [true_and]; exact (q)
    · simp only [List.all_cons, List.all_nil, Bool.and_true, Bool.and_eq_true] at ho
      obtain ⟨ha, hb, hc⟩ := ho
      (first | (with_reducible refine step_i (by with_unfolding_all rfl) ?_) | ((first | simp_arith only [List.length_cons, List.length_nil, g0, g1] | simp_arith only [true_and] | skip); with_reducible refine step_i (by with_unfolding_all rfl) ?_)); simp_arith only [List.length_cons, List.length_nil, g0, g1]
      refine c_is_number ha ?_; (first | simp_arith only [List.length_cons, List.length_nil, g0, g1] | simp_arith only [true_and] | skip)
      (first | simp_arith only [List.length_cons, List.length_nil, g0, g1] | simp_arith only [true_and] | skip)
      have bad : isEditD (.tup [a, b, c]) = false → Q (.bl false) := fun k => by rw [k] at q; exact q
      split
      · rename_i k
        (first | (with_reducible refine step_i (by with_unfolding_all rfl) ?_) | ((try simp_arith only [true_and]); with_reducible refine step_i (by with_unfolding_all rfl) ?_)); simp_arith only [true_and]
        exact (bad (by simp only [isEditD, k, Bool.false_and]))
      · rename_i k
        refine c_is_number hb ?_; (first | simp_arith only [List.length_cons, List.length_nil, g0, g1] | simp_arith only [true_and] | skip)
        (first | simp_arith only [List.length_cons, List.length_nil, g0, g1] | simp_arith only [true_and] | skip)
        split
        · rename_i k2
          (first | (with_reducible refine step_i (by with_unfolding_all rfl) ?_) | ((try simp_arith only [true_and]); with_reducible refine step_i (by with_unfolding_all rfl) ?_)); simp_arith only [true_and]
          exact (bad (by simp only [isEditD, k2, Bool.false_and, Bool.and_false]))
        · rename_i k2
          (first | (with_reducible refine stop_i (by with_unfolding_all rfl) ?_) | (simp_arith only [true_and]; with_reducible refine stop_i (by with_unfolding_all rfl) ?_) | skip)
          rw [Bool.not_eq_false] at k k2
          obtain ⟨i, rfl, hi⟩ := numD_int k
          obtain ⟨j, rfl, hj⟩ := numD_int k2
          (first | (with_reducible refine step_i (by with_unfolding_all rfl) ?_) | ((first | simp_arith only [g1] | simp_arith only [true_and] | skip); with_reducible refine step_i (by with_unfolding_all rfl) ?_)); simp_arith only [g1]
          have e : isEditD (.tup [.int i, .int j, c]) = (decide (i ≤ j) && isRowD c) := by
            simp only [isEditD, k, k2, Bool.true_and]
          rw [e] at q
          split
          · rename_i k3
            refine c_is_row hc ?_; (first | simp_arith only [g1] | simp_arith only [true_and] | skip)
            rw [decide_eq_true k3, Bool.true_and] at q
            exact (q)
          · rename_i k3
            rw [decide_eq_false k3, Bool.false_and] at q
            exact (q)
    · have hl : ¬ ((((a :: b :: c :: x :: r).length : Nat) : Int) = 3) := by simp only [List.length_cons]; omega
      (first | (with_reducible refine step_i (by with_unfolding_all rfl) ?_) | ((try simp_arith only [true_and]); with_reducible refine step_i (by with_unfolding_all rfl) ?_)); simp_arith only [true_and]
      rw [if_neg (by omega)]
      (first | (with_reducible refine step_i (by with_unfolding_all rfl) ?_) | ((try simp_arith only [true_and]); with_reducible refine step_i (by with_unfolding_all rfl) ?_)); simp_arith only [true_and]
      exact (q)
  | opq _ => cases hd
  | _ => (first | (with_reducible refine step_i (by with_unfolding_all rfl) ?_) | ((try simp_arith only [true_and]); with_reducible refine step_i (by with_unfolding_all rfl) ?_)); simp_arith only [true_and]; (first | (with_reducible refine step_i (by with_unfolding_all rfl) ?_) | ((try simp_arith only [true_and]); with_reducible refine step_i (by with_unfolding_all rfl) ?_)); simp_arith only [true_and]; exact (q)
theorem c_is_edit {d : D} (h : ok1 d = true) (q : Q (.bl (isEditD d))) : sIsEdit [d] Q QE := ⟨d, rfl, h, q⟩
theorem editD_inv {d : D} (h : isEditD d = true) : ∃ (i j : Int) (s : Str), d = .tup [.int i, .int j, .str s] ∧ 0 ≤ i ∧ i ≤ j ∧ s.cps.toList.all okRow = true := by
  unfold isEditD at h
  split at h
  · rename_i a b c
    rw [Bool.and_eq_true, Bool.and_eq_true] at h
    obtain ⟨⟨h1, h2⟩, h3⟩ := h
    obtain ⟨i, rfl, hi⟩ := numD_int h1
    obtain ⟨j, rfl, hj⟩ := numD_int h2
    have h3 : (decide (i ≤ j) && isRowD c) = true := h3
    rw [Bool.and_eq_true, decide_eq_true_eq] at h3
    cases c with
    | str s => exact ⟨i, j, s, rfl, hi, h3.1, h3.2⟩
    | _ => cases h3.2
  · cases h
theorem fit_of {t : Str} {d : D} (h : isEditD d = false) : fitD t d = false := by
  unfold fitD
  split
  · rw [h, Bool.false_and]
  · rfl
theorem w_need_edit (g2 : Γ.f 2 = sIsEdit) (hc : Γ.cls 3 = some ([Str.ofString "value"] : List Str)) (h : sNeedEdit ds Q QE) : wSs Γ (fun dx _ => QE dx) b_need_edit (zz Q) (ent0 n_need_edit ds) := by
  obtain ⟨t, d, rfl, ht, hd, q1, q2⟩ := h
  show wSs Γ _ b_need_edit _ [.sh (.str t), .sh d]
  unfold b_need_edit
  (first | (with_reducible refine step_i (by with_unfolding_all rfl) ?_) | ((first | simp_arith only [g2] | simp_arith only [true_and] | skip); with_reducible refine step_i (by with_unfolding_all rfl) ?_)); simp_arith only [g2]
  refine c_is_edit hd ?_; (first | simp_arith only [g2] | simp_arith only [true_and] | skip)
  (first | simp_arith only [g2] | simp_arith only [true_and] | skip)
  split
  · rename_i k
    (first | (with_reducible refine step_i (by with_unfolding_all rfl) ?_) | ((first | simp_arith only [hc] | simp_arith only [true_and] | skip); with_reducible refine step_i (by with_unfolding_all rfl) ?_)); simp_arith only [hc]
    exact (q2 (fit_of k))
  · rename_i k
    rw [Bool.not_eq_false] at k
    obtain ⟨i, j, s, rfl, hi, hj, hs⟩ := editD_inv k
    (first | simp_arith only [hc] | simp_arith only [true_and] | skip)
    have e : fitD t (.tup [.int i, .int j, .str s]) = decide (j ≤ t.length) := by
      show (isEditD _ && _) = _
      rw [k, Bool.true_and]
    rw [e] at q1 q2
    refine ⟨ht, ?_⟩
    have q2' : ¬ j ≤ (t.length : Int) → QE (xEdit (.tup [.int i, .int j, .str s])) := fun z => q2 (decide_eq_false z)
    have q1' : j ≤ (t.length : Int) → Q .non := fun z => q1 (decide_eq_true z)
    split
    · rename_i k2
      (first | (with_reducible refine step_i (by with_unfolding_all rfl) ?_) | ((first | simp_arith only [hc] | simp_arith only [true_and] | skip); with_reducible refine step_i (by with_unfolding_all rfl) ?_)); simp_arith only [hc]
      exact (q2' (by omega))
    · rename_i k2
      (first | (with_reducible refine stop_i (by with_unfolding_all rfl) ?_) | (simp_arith only [true_and]; with_reducible refine stop_i (by with_unfolding_all rfl) ?_) | skip)
      (first | (with_reducible refine stop_i (by with_unfolding_all rfl) ?_) | (simp_arith only [true_and]; with_reducible refine stop_i (by with_unfolding_all rfl) ?_) | skip)
      exact q1' (by omega)
theorem c_need_edit {t : Str} {d : D} (ht : t.length ≤ sizeLine) (hd : ok1 d = true) (q1 : fitD t d = true → Q .non) (q2 : fitD t d = false → QE (xEdit d)) : sNeedEdit [.str t, d] Q QE := ⟨t, d, rfl, ht, hd, q1, q2⟩
theorem fit_inv {t : Str} {d : D} (h : fitD t d = true) : ∃ (i j : Int) (s : Str), d = .tup [.int i, .int j, .str s] ∧ 0 ≤ i ∧ i ≤ j ∧ j ≤ t.length ∧ s.cps.toList.all okRow = true := by
  have h' := h
  unfold fitD at h
  split at h
  · rw [Bool.and_eq_true, decide_eq_true_eq] at h
    obtain ⟨i, j, s, e, a, b, c⟩ := editD_inv h.1
    cases e
    exact ⟨_, _, _, rfl, a, b, h.2, c⟩
  · cases h
theorem w_edited (g3 : Γ.f 3 = sNeedEdit) (h : sEdited ds Q QE) : wSs Γ (fun dx _ => QE dx) b_edited (zz Q) (ent0 n_edited ds) := by
  obtain ⟨t, d, rfl, ht, hd, hz, q1, q2⟩ := h
  show wSs Γ _ b_edited _ [.sh (.str t), .sh d, .un, .un, .un]
  unfold b_edited
  (first | (with_reducible refine step_i (by with_unfolding_all rfl) ?_) | ((first | simp_arith only [g3] | simp_arith only [true_and] | skip); with_reducible refine step_i (by with_unfolding_all rfl) ?_)); simp_arith only [g3]
  refine c_need_edit (by rw [sizeLine_eq]; omega) hd (fun k => ?_) q2
  obtain ⟨i, j, s, rfl, h0, h1, h2, h3⟩ := fit_inv k
  (first | (with_reducible refine step_i (by with_unfolding_all rfl) ?_) | ((first | simp_arith only [List.length_cons, List.length_nil] | simp_arith only [true_and] | skip); with_reducible refine step_i (by with_unfolding_all rfl) ?_)); simp_arith only [List.length_cons, List.length_nil]
  (first | (with_reducible refine step_i (by with_unfolding_all rfl) ?_) | ((try simp_arith only [true_and]); with_reducible refine step_i (by with_unfolding_all rfl) ?_)); simp_arith only [true_and]
  have l1 := cutS_len t none (some i)
  have l2 := cutS_len t (some j) none
  have l3 := hz i j s rfl
  have hs := sizeLine_eq
  refine ⟨by omega, by omega, by omega, ?_, q1 i j s rfl k⟩
  rw [len_app]; omega
theorem w_do_overlap (h : sOverlap ds Q QE) : wSs Γ E b_do_overlap (zz Q) (ent0 n_do_overlap ds) := by
  obtain ⟨a, b, c, d, rfl, q⟩ := h
  show wSs Γ E b_do_overlap _ [.sh (.tup [.int a, .int b]), .sh (.tup [.int c, .int d])]
  unfold b_do_overlap
  have e : ∀ k, ovl a b c d = k → Q (.bl k) := fun k hk => by rw [← hk]; exact q
  (first | (with_reducible refine step_i (by with_unfolding_all rfl) ?_) | ((try simp_arith only [true_and]); with_reducible refine step_i (by with_unfolding_all rfl) ?_)); simp_arith only [true_and]
  by_cases h1 : a = b ∨ c = d
  · have z : ovl a b c d = decide (a ≤ d ∧ c ≤ b) := if_pos h1
    rw [z] at e
    have fin : wSs Γ E (.cons (.ret (.and (.cmp .le (.ix (.v 0) (.int 0)) (.ix (.v 1) (.int 1))) (.cons (.cmp .le (.ix (.v 1) (.int 0)) (.ix (.v 0) (.int 1))) .nil))) .nil) (zz Q) [.sh (.tup [.int a, .int b]), .sh (.tup [.int c, .int d])] := by
      (first | (with_reducible refine step_i (by with_unfolding_all rfl) ?_) | ((try simp_arith only [true_and]); with_reducible refine step_i (by with_unfolding_all rfl) ?_)); simp_arith only [true_and]
      split
      · rename_i k
        exact (e _ (by rw [leB, decide_eq_decide]; exact ⟨fun y => y.2, fun y => ⟨k, y⟩⟩))
      · rename_i k
        exact (e _ (decide_eq_false fun y => k y.1))
    rcases h1 with h1 | h1
    · rw [if_pos h1]; exact fin
    · split <;> exact fin
  · have z : ovl a b c d = decide (a < d ∧ c < b) := if_neg h1
    rw [z] at e
    rw [if_neg (fun y => h1 (.inl y)), if_neg (fun y => h1 (.inr y))]
    (first | (with_reducible refine stop_i (by with_unfolding_all rfl) ?_) | (simp_arith only [true_and]; with_reducible refine stop_i (by with_unfolding_all rfl) ?_) | skip)
    (first | (with_reducible refine step_i (by with_unfolding_all rfl) ?_) | ((try simp_arith only [true_and]); with_reducible refine step_i (by with_unfolding_all rfl) ?_)); simp_arith only [true_and]
    split
    · rename_i k
      exact (e _ (by rw [ltB, decide_eq_decide]; exact ⟨fun y => y.2, fun y => ⟨k, y⟩⟩))
    · rename_i k
      exact (e _ (decide_eq_false fun y => k y.1))
theorem c_do_overlap {a b c d : Int} (q : Q (.bl (ovl a b c d))) : sOverlap [.tup [.int a, .int b], .tup [.int c, .int d]] Q QE := ⟨a, b, c, d, rfl, q⟩
theorem w_growth_of (h : sGrowth ds Q QE) : wSs Γ E b_growth_of (zz Q) (ent0 n_growth_of ds) := by
  obtain ⟨x, rfl, hz, q⟩ := h
  show wSs Γ E b_growth_of _ [.sh x.d]
  unfold b_growth_of PEnt.d
  (first | (with_reducible refine step_i (by with_unfolding_all rfl) ?_) | ((try simp_arith only [true_and]); with_reducible refine step_i (by with_unfolding_all rfl) ?_)); simp_arith only [true_and]
  exact ⟨hz, q⟩
theorem c_growth_of {x : PEnt} (hz : x.n.length ≤ sizeLine) (q : Q (.int x.gr)) : sGrowth [x.d] Q QE := ⟨x, rfl, hz, q⟩
theorem cut13 {w x y z : D} : cutD [w, x, y, z] (some 1) (some 3) = [x, y] := rfl
theorem cut02 {x y z : D} : cutD [x, y, z] none (some 2) = [x, y] := rfl
theorem w_shifted (g5 : Γ.f 5 = sOverlap) (g6 : Γ.f 6 = sGrowth) (hc : Γ.cls 10 = some ([Str.ofString "reason"] : List Str)) (h : sShifted ds Q QE) : wSs Γ (fun dx _ => QE dx) b_shifted (zz Q) (ent0 n_shifted ds) := by
  obtain ⟨a, b, t, ps, nm, rfl, hz, q1, q2⟩ := h
  show wSs Γ _ b_shifted _ [.sh (.tup [.int a, .int b, .str t]), .sh (.tup (ps.map PEnt.d)), .sh (.str nm), .un, .un]
  unfold b_shifted
  (first | (with_reducible refine step_i (by with_unfolding_all rfl) ?_) | ((try simp_arith only [true_and]); with_reducible refine step_i (by with_unfolding_all rfl) ?_)); simp_arith only [true_and]
  (first | (with_reducible refine step_i (by with_unfolding_all rfl) ?_) | ((try simp_arith only [true_and]); with_reducible refine step_i (by with_unfolding_all rfl) ?_)); simp_arith only [true_and]
  refine forL_i (fun ds ρ => ∃ (r : List PEnt) (m : Int) (x : Sl), ds = r.map PEnt.d ∧ ρ = [.sh (.tup [.int a, .int b, .str t]), .sh (.tup (ps.map PEnt.d)), .sh (.str nm), .sh (.int m), x] ∧ shiftF a b nm ps 0 = shiftF a b nm r m ∧ ∀ x ∈ r, x.n.length ≤ sizeLine) ?_ ?_ _ _ ⟨ps, 0, .un, rfl, rfl, rfl, hz⟩
  · rintro ρ ⟨r, m, x, e, rfl, hs, _⟩
    cases r with
    | cons _ _ => cases e
    | nil =>
      (first | (with_reducible refine step_i (by with_unfolding_all rfl) ?_) | ((try simp_arith only [true_and]); with_reducible refine step_i (by with_unfolding_all rfl) ?_)); simp_arith only [true_and]
      exact ⟨sz (by simp), q1 m hs⟩
  · rintro d ds ρ ⟨r, m, x, e, rfl, hs, hb⟩ N hN
    cases r with
    | nil => cases e
    | cons p r =>
      rw [List.map_cons] at e
      injection e with e1 e2
      subst e1 e2
      have hb' : ∀ x ∈ r, x.n.length ≤ sizeLine := fun x hx => hb x (List.mem_cons_of_mem _ hx)
      (first | simp_arith only [List.length_cons, List.length_nil] | simp_arith only [true_and] | skip)
      rw [shiftF_cons] at hs
      have ed : p.d = .tup [.str p.nm, .int p.s, .int p.e, .str p.n] := rfl
      (first | (with_reducible refine step_i (by with_unfolding_all rfl) ?_) | ((first | simp_arith only [ed] | simp_arith only [true_and] | skip); with_reducible refine step_i (by with_unfolding_all rfl) ?_)); simp_arith only [ed]
      split
      · rename_i k
        rw [if_pos k] at hs
        (first | (with_reducible refine step_i (by with_unfolding_all rfl) ?_) | ((first | simp_arith only [ed, cut13, cut02, g5] | simp_arith only [true_and] | skip); with_reducible refine step_i (by with_unfolding_all rfl) ?_)); simp_arith only [ed, cut13, cut02, g5]
        refine c_do_overlap ?_; (first | simp_arith only [ed, cut13, cut02, g5] | simp_arith only [true_and] | skip)
        (first | simp_arith only [ed, cut13, cut02, g5] | simp_arith only [true_and] | skip)
        split
        · rename_i k2
          rw [if_pos k2] at hs
          (first | (with_reducible refine step_i (by with_unfolding_all rfl) ?_) | ((first | simp_arith only [hc] | simp_arith only [true_and] | skip); with_reducible refine step_i (by with_unfolding_all rfl) ?_)); simp_arith only [hc]
          exact (q2 hs)
        · rename_i k2
          rw [if_neg k2] at hs
          (first | (with_reducible refine stop_i (by with_unfolding_all rfl) ?_) | (simp_arith only [true_and]; with_reducible refine stop_i (by with_unfolding_all rfl) ?_) | skip)
          (first | (with_reducible refine step_i (by with_unfolding_all rfl) ?_) | ((try simp_arith only [true_and]); with_reducible refine step_i (by with_unfolding_all rfl) ?_)); simp_arith only [true_and]
          split
          · rename_i k3
            rw [if_pos k3] at hs
            (first | (with_reducible refine step_i (by with_unfolding_all rfl) ?_) | ((first | simp_arith only [g6] | simp_arith only [true_and] | skip); with_reducible refine step_i (by with_unfolding_all rfl) ?_)); simp_arith only [g6]
            refine c_growth_of (hb p List.mem_cons_self) ?_; (first | simp_arith only [g6] | simp_arith only [true_and] | skip)
            (first | simp_arith only [g6] | simp_arith only [true_and] | skip)
            (first | (with_reducible refine stop_i (by with_unfolding_all rfl) ?_) | (simp_arith only [true_and]; with_reducible refine stop_i (by with_unfolding_all rfl) ?_) | skip)
            (first | (with_reducible refine stop_i (by with_unfolding_all rfl) ?_) | (simp_arith only [true_and]; with_reducible refine stop_i (by with_unfolding_all rfl) ?_) | skip)
            (first | (with_reducible refine stop_i (by with_unfolding_all rfl) ?_) | (simp_arith only [true_and]; with_reducible refine stop_i (by with_unfolding_all rfl) ?_) | skip)
            exact hN _ ⟨r, _, _, rfl, rfl, hs, hb'⟩
          · rename_i k3
            rw [if_neg k3] at hs
            (first | (with_reducible refine stop_i (by with_unfolding_all rfl) ?_) | (simp_arith only [true_and]; with_reducible refine stop_i (by with_unfolding_all rfl) ?_) | skip)
            (first | (with_reducible refine stop_i (by with_unfolding_all rfl) ?_) | (simp_arith only [true_and]; with_reducible refine stop_i (by with_unfolding_all rfl) ?_) | skip)
            (first | (with_reducible refine stop_i (by with_unfolding_all rfl) ?_) | (simp_arith only [true_and]; with_reducible refine stop_i (by with_unfolding_all rfl) ?_) | skip)
            exact hN _ ⟨r, _, _, rfl, rfl, hs, hb'⟩
      · rename_i k
        rw [if_neg k] at hs
        (first | (with_reducible refine stop_i (by with_unfolding_all rfl) ?_) | (simp_arith only [true_and]; with_reducible refine stop_i (by with_unfolding_all rfl) ?_) | skip)
        (first | (with_reducible refine stop_i (by with_unfolding_all rfl) ?_) | (simp_arith only [true_and]; with_reducible refine stop_i (by with_unfolding_all rfl) ?_) | skip)
        exact hN _ ⟨r, _, _, rfl, rfl, hs, hb'⟩
theorem c_shifted {a b : Int} {t nm : Str} {ps : List PEnt} (hz : ∀ x ∈ ps, x.n.length ≤ sizeLine) (q1 : ∀ m, shiftF a b nm ps 0 = some m → Q (.tup [.int (a + m), .int (b + m), .str t])) (q2 : shiftF a b nm ps 0 = none → QE (xClash "place")) :
    sShifted [.tup [.int a, .int b, .str t], .tup (ps.map PEnt.d), .str nm] Q QE := ⟨a, b, t, ps, nm, rfl, hz, q1, q2⟩
end
end DL
/-! V_same: equal, kind by kind -/
namespace DL
open PySem PySem.Spec PyProof.Rows L2
/-! ### equal, kind by kind -/
def dep : Nat → D → Prop
  | _, .str _ => True
  | _, .int _ => True
  | _, .bl _ => True
  | _, .non => True
  | n + 1, .tup l => l.length ≤ 10000 ∧ ∀ x ∈ l, dep n x
  | n + 1, .lst l => l.length ≤ 10000 ∧ ∀ x ∈ l, dep n x
  | _, _ => False
def sSame (r : Nat) : FSp := fun ds Q E => ∃ d, ds = [d, d] ∧ dep r d ∧ Q (.bl true)
theorem c_same {r : Nat} {d e : D} {Q : D → Prop} {QE : DX → Prop} (h : d = e) (hd : dep r d) (q : Q (.bl true)) : sSame r [d, e] Q QE := ⟨d, by rw [h], hd, q⟩
def bSame (i : Nat) : Sxs :=
  (.cons (.ife (.or (.tr (.isT ["tuple"] (.v 1))) (.cons (.tr (.isT ["list"] (.v 1))) .nil)) (.cons (.ife (.or (.cmp .ne (.isT ["tuple"] (.v 1)) (.isT ["tuple"] (.v 0))) (.cons (.cmp .ne (.isT ["list"] (.v 1)) (.isT ["list"] (.v 0))) .nil)) (.cons (.ret (.bl false))
  .nil) .nil)
  (.cons (.ife (.cmp .ne (.bi .len (.cons (.v 0) .nil)) (.bi .len (.cons (.v 1) .nil))) (.cons (.ret (.bl false))
  .nil) .nil)
  (.cons (.for_ (.nm 2) .rng1 (.cons (.bi .len (.cons (.v 1) .nil)) .nil) (.cons (.ife (.not (.tr (.call i (.cons (.ix (.v 0) (.v 2)) (.cons (.ix (.v 1) (.v 2)) .nil))))) (.cons (.ret (.bl false))
  .nil) .nil)
  .nil))
  (.cons (.ret (.bl true))
  .nil)))) .nil)
  (.cons (.ife (.cmp .is (.v 1) .non) (.cons (.ret (.cmp .is (.v 0) .non))
  .nil) .nil)
  (.cons (.ife (.tr (.isT ["bool"] (.v 1))) (.cons (.ret (.and (.isT ["bool"] (.v 0)) (.cons (.cmp .eq (.v 0) (.v 1)) .nil)))
  .nil) .nil)
  (.cons (.ife (.tr (.isT ["int"] (.v 1))) (.cons (.ret (.and (.isT ["int"] (.v 0)) (.cons (.not (.isT ["bool"] (.v 0))) (.cons (.cmp .eq (.v 0) (.v 1)) .nil))))
  .nil) .nil)
  (.cons (.ret (.and (.isT ["str"] (.v 0)) (.cons (.cmp .eq (.v 0) (.v 1)) .nil)))
  .nil)))))
def nSame : List Str := ["_law_actual", "_law_due", "_law_k"]
section
variable {P : Program} {w : World} {Γ : Gm} {E : DX → DEnv → Prop} {Q : D → Prop} {QE : DX → Prop} {ds : List D}
theorem w_same {i r : Nat} (g : r = 0 ∨ ∃ k, r = k + 1 ∧ Γ.f i = sSame k) (h : sSame r ds Q QE) : wSs Γ E (bSame i) (zz Q) (ent0 nSame ds) := by
  obtain ⟨d, rfl, hd, q⟩ := h
  show wSs Γ E (bSame i) _ [.sh d, .sh d, .un]
  unfold bSame
  have loop : ∀ (L : Sxs) (Z : EndD) (d : D) (l : List D), (d = .tup l ∨ d = .lst l) → dep r d → (∀ x, wSs Γ E L Z [.sh d, .sh d, x]) → wSs Γ E (.cons (.for_ (.nm 2) .rng1 (.cons (.bi .len (.cons (.v 1) .nil)) .nil) (.cons (.ife (.not (.tr (.call i (.cons (.ix (.v 0) (.v 2)) (.cons (.ix (.v 1) (.v 2)) .nil))))) (.cons (.ret (.bl false)) .nil) .nil) .nil)) L) Z [.sh d, .sh d, .un] := fun L Z d l e hd hL => by
    obtain ⟨k, rfl, hk⟩ : ∃ k, r = k + 1 ∧ Γ.f i = sSame k := by
      rcases g with rfl | g
      · rcases e with rfl | rfl <;> exact hd.elim
      · exact g
    obtain ⟨hz, hx⟩ : l.length ≤ 10000 ∧ ∀ x ∈ l, dep k x := by rcases e with rfl | rfl <;> exact hd
    have one : ∀ (d : D), (d = .tup l ∨ d = .lst l) → (∀ x, wSs Γ E L Z [.sh d, .sh d, x]) → forL (wG (.nm 2)) (wSs Γ E (.cons (.ife (.not (.tr (.call i (.cons (.ix (.v 0) (.v 2)) (.cons (.ix (.v 1) (.v 2)) .nil))))) (.cons (.ret (.bl false)) .nil) .nil) .nil)) { nx := wSs Γ E L Z, rt := Z.rt, rtF := Z.rtF, bk := Z.bk, ct := Z.ct } ((List.range l.length).map fun (i : Nat) => .int (i : Int)) [.sh d, .sh d, .un] := fun d e hL => by
      refine forL_i (fun ds ρ => (∀ y ∈ ds, ∃ j : Nat, j < l.length ∧ y = .int j) ∧ ∃ x, ρ = [.sh d, .sh d, x]) ?_ ?_ _ _ ⟨?_, .un, rfl⟩
      · rintro ρ ⟨_, x, rfl⟩
        exact hL x
      · rintro y ds ρ ⟨hy, x, rfl⟩ N hN
        obtain ⟨j, hj, rfl⟩ := hy y List.mem_cons_self
        have z : atI l (j : Int) = some l[j] := atI_nat (List.getElem?_eq_getElem hj)
        rcases e with rfl | rfl
        · (try simp_arith only [true_and])
          (first | (with_reducible refine step_i (by with_unfolding_all rfl) ?_) | ((first | simp_arith only [hk, z] | simp_arith only [true_and] | skip); with_reducible refine step_i (by with_unfolding_all rfl) ?_)); simp_arith only [hk, z]
          refine c_same rfl (hx _ (List.getElem_mem hj)) ?_; (first | simp_arith only [hk, z] | simp_arith only [true_and] | skip)
          (first | simp_arith only [hk, z] | simp_arith only [true_and] | skip)
          (first | (with_reducible refine stop_i (by with_unfolding_all rfl) ?_) | (simp_arith only [true_and]; with_reducible refine stop_i (by with_unfolding_all rfl) ?_) | skip)
          (first | (with_reducible refine stop_i (by with_unfolding_all rfl) ?_) | (simp_arith only [true_and]; with_reducible refine stop_i (by with_unfolding_all rfl) ?_) | skip)
          exact hN _ ⟨fun y hy' => hy y (List.mem_cons_of_mem _ hy'), _, rfl⟩
        · (first | simp_arith only [hk, z] | simp_arith only [true_and] | skip)
          (first | (with_reducible refine step_i (by with_unfolding_all rfl) ?_) | ((first | simp_arith only [hk, z] | simp_arith only [true_and] | skip); with_reducible refine step_i (by with_unfolding_all rfl) ?_)); simp_arith only [hk, z]
          refine c_same rfl (hx _ (List.getElem_mem hj)) ?_; (first | simp_arith only [hk, z] | simp_arith only [true_and] | skip)
          (first | simp_arith only [hk, z] | simp_arith only [true_and] | skip)
          (first | (with_reducible refine stop_i (by with_unfolding_all rfl) ?_) | (simp_arith only [true_and]; with_reducible refine stop_i (by with_unfolding_all rfl) ?_) | skip)
          (first | (with_reducible refine stop_i (by with_unfolding_all rfl) ?_) | (simp_arith only [true_and]; with_reducible refine stop_i (by with_unfolding_all rfl) ?_) | skip)
          exact hN _ ⟨fun y hy' => hy y (List.mem_cons_of_mem _ hy'), _, rfl⟩
      · intro y hy
        obtain ⟨j, hj, rfl⟩ := List.mem_map.mp hy
        rw [List.mem_range] at hj
        exact ⟨j, hj, rfl⟩
    rcases e with rfl | rfl
    · (first | (with_reducible refine step_i (by with_unfolding_all rfl) ?_) | ((first | simp_arith only [Int.toNat_natCast] | simp_arith only [true_and] | skip); with_reducible refine step_i (by with_unfolding_all rfl) ?_)); simp_arith only [Int.toNat_natCast]
      exact ⟨by omega, by omega, one _ (.inl rfl) hL⟩
    · (first | (with_reducible refine step_i (by with_unfolding_all rfl) ?_) | ((first | simp_arith only [Int.toNat_natCast] | simp_arith only [true_and] | skip); with_reducible refine step_i (by with_unfolding_all rfl) ?_)); simp_arith only [Int.toNat_natCast]
      exact ⟨by omega, by omega, one _ (.inr rfl) hL⟩
  cases d with
  | str s => (first | (with_reducible refine step_i (by with_unfolding_all rfl) ?_) | ((try simp_arith only [true_and]); with_reducible refine step_i (by with_unfolding_all rfl) ?_)); simp_arith only [true_and]; (first | (with_reducible refine stop_i (by with_unfolding_all rfl) ?_) | (simp_arith only [true_and]; with_reducible refine stop_i (by with_unfolding_all rfl) ?_) | skip); (first | (with_reducible refine step_i (by with_unfolding_all rfl) ?_) | ((try simp_arith only [true_and]); with_reducible refine step_i (by with_unfolding_all rfl) ?_)); simp_arith only [true_and]; (first | (with_reducible refine stop_i (by with_unfolding_all rfl) ?_) | (simp_arith only [true_and]; with_reducible refine stop_i (by with_unfolding_all rfl) ?_) | skip); (first | (with_reducible refine step_i (by with_unfolding_all rfl) ?_) | ((try simp_arith only [true_and]); with_reducible refine step_i (by with_unfolding_all rfl) ?_)); simp_arith only [true_and]; (first | (with_reducible refine stop_i (by with_unfolding_all rfl) ?_) | (simp_arith only [true_and]; with_reducible refine stop_i (by with_unfolding_all rfl) ?_) | skip); (first | (with_reducible refine step_i (by with_unfolding_all rfl) ?_) | ((try simp_arith only [true_and]); with_reducible refine step_i (by with_unfolding_all rfl) ?_)); simp_arith only [true_and]; (first | (with_reducible refine stop_i (by with_unfolding_all rfl) ?_) | (simp_arith only [true_and]; with_reducible refine stop_i (by with_unfolding_all rfl) ?_) | skip); (first | (with_reducible refine step_i (by with_unfolding_all rfl) ?_) | ((try simp_arith only [true_and]); with_reducible refine step_i (by with_unfolding_all rfl) ?_)); simp_arith only [true_and]; exact (by simpa [eqS] using q)
  | int s => (first | (with_reducible refine step_i (by with_unfolding_all rfl) ?_) | ((try simp_arith only [true_and]); with_reducible refine step_i (by with_unfolding_all rfl) ?_)); simp_arith only [true_and]; (first | (with_reducible refine stop_i (by with_unfolding_all rfl) ?_) | (simp_arith only [true_and]; with_reducible refine stop_i (by with_unfolding_all rfl) ?_) | skip); (first | (with_reducible refine step_i (by with_unfolding_all rfl) ?_) | ((try simp_arith only [true_and]); with_reducible refine step_i (by with_unfolding_all rfl) ?_)); simp_arith only [true_and]; (first | (with_reducible refine stop_i (by with_unfolding_all rfl) ?_) | (simp_arith only [true_and]; with_reducible refine stop_i (by with_unfolding_all rfl) ?_) | skip); (first | (with_reducible refine step_i (by with_unfolding_all rfl) ?_) | ((try simp_arith only [true_and]); with_reducible refine step_i (by with_unfolding_all rfl) ?_)); simp_arith only [true_and]; (first | (with_reducible refine stop_i (by with_unfolding_all rfl) ?_) | (simp_arith only [true_and]; with_reducible refine stop_i (by with_unfolding_all rfl) ?_) | skip); (first | (with_reducible refine step_i (by with_unfolding_all rfl) ?_) | ((try simp_arith only [true_and]); with_reducible refine step_i (by with_unfolding_all rfl) ?_)); simp_arith only [true_and]; (first | (with_reducible refine step_i (by with_unfolding_all rfl) ?_) | ((try simp_arith only [true_and]); with_reducible refine step_i (by with_unfolding_all rfl) ?_)); simp_arith only [true_and]; exact (by simpa [eqI] using q)
  | bl s => (first | (with_reducible refine step_i (by with_unfolding_all rfl) ?_) | ((try simp_arith only [true_and]); with_reducible refine step_i (by with_unfolding_all rfl) ?_)); simp_arith only [true_and]; (first | (with_reducible refine stop_i (by with_unfolding_all rfl) ?_) | (simp_arith only [true_and]; with_reducible refine stop_i (by with_unfolding_all rfl) ?_) | skip); (first | (with_reducible refine step_i (by with_unfolding_all rfl) ?_) | ((try simp_arith only [true_and]); with_reducible refine step_i (by with_unfolding_all rfl) ?_)); simp_arith only [true_and]; (first | (with_reducible refine stop_i (by with_unfolding_all rfl) ?_) | (simp_arith only [true_and]; with_reducible refine stop_i (by with_unfolding_all rfl) ?_) | skip); (first | (with_reducible refine step_i (by with_unfolding_all rfl) ?_) | ((try simp_arith only [true_and]); with_reducible refine step_i (by with_unfolding_all rfl) ?_)); simp_arith only [true_and]; (first | (with_reducible refine step_i (by with_unfolding_all rfl) ?_) | ((try simp_arith only [true_and]); with_reducible refine step_i (by with_unfolding_all rfl) ?_)); simp_arith only [true_and]; exact (by simpa [eqBl] using q)
  | non => (first | (with_reducible refine step_i (by with_unfolding_all rfl) ?_) | ((try simp_arith only [true_and]); with_reducible refine step_i (by with_unfolding_all rfl) ?_)); simp_arith only [true_and]; (first | (with_reducible refine stop_i (by with_unfolding_all rfl) ?_) | (simp_arith only [true_and]; with_reducible refine stop_i (by with_unfolding_all rfl) ?_) | skip); (first | (with_reducible refine step_i (by with_unfolding_all rfl) ?_) | ((try simp_arith only [true_and]); with_reducible refine step_i (by with_unfolding_all rfl) ?_)); simp_arith only [true_and]; (first | (with_reducible refine step_i (by with_unfolding_all rfl) ?_) | ((try simp_arith only [true_and]); with_reducible refine step_i (by with_unfolding_all rfl) ?_)); simp_arith only [true_and]; exact (q)
  | tup l =>
    (first | (with_reducible refine step_i (by with_unfolding_all rfl) ?_) | ((try simp_arith only [true_and]); with_reducible refine step_i (by with_unfolding_all rfl) ?_)); simp_arith only [true_and]
    (first | (with_reducible refine step_i (by with_unfolding_all rfl) ?_) | ((try simp_arith only [true_and]); with_reducible refine step_i (by with_unfolding_all rfl) ?_)); simp_arith only [true_and]
    (first | (with_reducible refine stop_i (by with_unfolding_all rfl) ?_) | (simp_arith only [true_and]; with_reducible refine stop_i (by with_unfolding_all rfl) ?_) | skip)
    (first | (with_reducible refine step_i (by with_unfolding_all rfl) ?_) | ((try simp_arith only [true_and]); with_reducible refine step_i (by with_unfolding_all rfl) ?_)); simp_arith only [true_and]
    (first | (with_reducible refine stop_i (by with_unfolding_all rfl) ?_) | (simp_arith only [true_and]; with_reducible refine stop_i (by with_unfolding_all rfl) ?_) | skip)
    refine loop _ _ _ l (.inl rfl) hd fun x => ?_
    (first | (with_reducible refine step_i (by with_unfolding_all rfl) ?_) | ((try simp_arith only [true_and]); with_reducible refine step_i (by with_unfolding_all rfl) ?_)); simp_arith only [true_and]
    exact (q)
  | lst l =>
    (first | (with_reducible refine step_i (by with_unfolding_all rfl) ?_) | ((try simp_arith only [true_and]); with_reducible refine step_i (by with_unfolding_all rfl) ?_)); simp_arith only [true_and]
    (first | (with_reducible refine step_i (by with_unfolding_all rfl) ?_) | ((try simp_arith only [true_and]); with_reducible refine step_i (by with_unfolding_all rfl) ?_)); simp_arith only [true_and]
    (first | (with_reducible refine stop_i (by with_unfolding_all rfl) ?_) | (simp_arith only [true_and]; with_reducible refine stop_i (by with_unfolding_all rfl) ?_) | skip)
    (first | (with_reducible refine step_i (by with_unfolding_all rfl) ?_) | ((try simp_arith only [true_and]); with_reducible refine step_i (by with_unfolding_all rfl) ?_)); simp_arith only [true_and]
    (first | (with_reducible refine stop_i (by with_unfolding_all rfl) ?_) | (simp_arith only [true_and]; with_reducible refine stop_i (by with_unfolding_all rfl) ?_) | skip)
    refine loop _ _ _ l (.inr rfl) hd fun x => ?_
    (first | (with_reducible refine step_i (by with_unfolding_all rfl) ?_) | ((try simp_arith only [true_and]); with_reducible refine step_i (by with_unfolding_all rfl) ?_)); simp_arith only [true_and]
    exact (q)
  | dct _ => cases r <;> exact hd.elim
  | opq _ => cases r <;> exact hd.elim
end
end DL
/-! V_text: texts, edits and names drawn by the laws k25 and k26 -/
namespace DL
open PySem PySem.Spec PyProof.Rows L2
section
variable {P : Program} {w : World} {Γ : Gm} {E : DX → DEnv → Prop} {Q : D → Prop} {QE : DX → Prop} {ds : List D}
/-! ### texts -/
def signsK : Str := Str.ofString " !\"#$&'()*+,-./0123456789:;<=>?@ABCDEFGHIJKLMNOPQRSTUVWXYZ[\\]^_`" ++ Str.ofString "abcdefghijklmnopqrstuvwxyz{|}~\n"
theorem signsK_len : signsK.length = 95 := by decide +kernel
theorem signsK_ok : signsK.cps.toList.all okRow = true := by decide +kernel
def sSigns : FSp := fun ds Q E => ds = [] ∧ Q (.str signsK)
theorem w_law_signs (h : sSigns ds Q QE) : wSs Γ E b_law_signs (zz Q) (ent0 n_law_signs ds) := by
  obtain ⟨rfl, q⟩ := h
  show wSs Γ E b_law_signs _ [.un]
  unfold b_law_signs
  (first | (with_reducible refine step_i (by with_unfolding_all rfl) ?_) | ((try simp_arith only [true_and]); with_reducible refine step_i (by with_unfolding_all rfl) ?_)); simp_arith only [true_and]
  (first | (with_reducible refine step_i (by with_unfolding_all rfl) ?_) | ((try simp_arith only [true_and]); with_reducible refine step_i (by with_unfolding_all rfl) ?_)); simp_arith only [true_and]
  exact ⟨by decide +kernel, q⟩
def sString (P : Program) (w : World) : FSp := fun ds Q E => ∃ m : Nat, ds = [stL.d P w, .int m] ∧ 4 ≤ m ∧ m ≤ 1000 ∧ ∀ s : Str, s.length ≤ m → s.cps.toList.all okRow = true → Q (.str s)
theorem c_string {m : Nat} (h : 4 ≤ m) (h2 : m ≤ 1000) (q : ∀ s : Str, s.length ≤ m → s.cps.toList.all okRow = true → Q (.str s)) : sString P w [stL.d P w, .int m] Q QE := ⟨m, rfl, h, h2, q⟩
theorem sign_ok {c : Nat} (h : okRow c = true) : strP okRow 1 (.str ⟨#[c]⟩) := ⟨_, rfl, Nat.le_refl _, by simpa using h⟩
theorem w_law_string (g9 : Γ.f 9 = sDraw26 P w) (g14 : Γ.f 14 = sSigns) (h : sString P w ds Q QE) : wSs Γ E b_law_string (zz Q) (ent0 n_law_string ds) := by
  obtain ⟨m, rfl, h4, h1000, q⟩ := h
  show wSs Γ E b_law_string _ [.sh (stL.d P w), .sh (.int m), .un, .un, .un]
  unfold b_law_string
  (first | (with_reducible refine step_i (by with_unfolding_all rfl) ?_) | ((first | simp_arith only [g9, g14, sSigns] | simp_arith only [true_and] | skip); with_reducible refine step_i (by with_unfolding_all rfl) ?_)); simp_arith only [g9, g14, sSigns]
  refine ⟨sz (by simp), ?_⟩
  refine c_draw26 ⟨by decide, by decide⟩ fun r h0 h1 => ?_; (first | simp_arith only [g9, g14, sSigns] | simp_arith only [true_and] | skip)
  try (first | simp_arith only [g9, g14, sSigns] | simp_arith only [true_and] | skip)
  refine ix_any (l := [.str signsK, .str (Str.ofString "ab \n"), .str (Str.ofString "ab")]) _ h0 (by simpa using h1) fun x hx => ?_
  have hx : ∃ s : Str, x = .str s ∧ 0 < s.length ∧ s.length ≤ 95 ∧ s.cps.toList.all okRow = true := by
    simp only [List.mem_cons, List.not_mem_nil, or_false] at hx
    rcases hx with rfl | rfl | rfl
    · exact ⟨_, rfl, by rw [signsK_len]; decide, by rw [signsK_len]; exact Nat.le_refl _, signsK_ok⟩
    · exact ⟨_, rfl, by decide, by decide, by decide⟩
    · exact ⟨_, rfl, by decide, by decide, by decide⟩
  obtain ⟨z, rfl, hz0, hz1, hz⟩ := hx
  (first | (with_reducible refine step_i (by with_unfolding_all rfl) ?_) | ((first | simp_arith only [g9] | simp_arith only [true_and] | skip); with_reducible refine step_i (by with_unfolding_all rfl) ?_)); simp_arith only [g9]
  refine c_draw26 ⟨by omega, by omega⟩ fun r1 h01 h11 => ?_; (first | simp_arith only [g9] | simp_arith only [true_and] | skip)
  refine c_draw26 ⟨by decide, by decide⟩ fun r2 h02 h12 => ?_; (first | simp_arith only [g9] | simp_arith only [true_and] | skip)
  try (first | simp_arith only [g9] | simp_arith only [true_and] | skip)
  refine ⟨sz (by simp), ?_⟩
  refine c_draw26 ⟨by decide, by decide⟩ fun r3 h03 h13 => ?_; (first | simp_arith only [g9] | simp_arith only [true_and] | skip)
  try (first | simp_arith only [g9] | simp_arith only [true_and] | skip)
  refine ix_any (l := [.int r1, .int r2, .int 0, .int m]) _ h03 (by simpa using h13) fun x hx => ?_
  have hx : ∃ k : Nat, x = .int k ∧ k ≤ m := by
    simp only [List.mem_cons, List.not_mem_nil, or_false] at hx
    rcases hx with rfl | rfl | rfl | rfl
    · exact ⟨r1.toNat, by rw [Int.toNat_of_nonneg h01], by omega⟩
    · exact ⟨r2.toNat, by rw [Int.toNat_of_nonneg h02], by omega⟩
    · exact ⟨0, rfl, by omega⟩
    · exact ⟨m, rfl, Nat.le_refl _⟩
  obtain ⟨k, rfl, hk⟩ := hx
  (first | (with_reducible refine step_i (by with_unfolding_all rfl) ?_) | ((first | simp_arith only [Int.toNat_natCast] | simp_arith only [true_and] | skip); with_reducible refine step_i (by with_unfolding_all rfl) ?_)); simp_arith only [Int.toNat_natCast]
  refine ⟨by omega, by omega, ?_⟩
  refine lcL_map (strP okRow 1) (by rw [List.length_map, List.length_range, sizeLine_eq]; omega) (fun d acc hd ha hlt R hR => ?_) fun l hll hx => ?_
  · simp_arith only [e_law_string_0, g9]
    refine ⟨(by rw [sizeLine_eq]; omega), ?_⟩
    refine c_draw26 ⟨by omega, by omega⟩ fun r h0 h1 => ?_; (first | simp_arith only [Int.toNat_natCast] | simp_arith only [true_and] | skip)
    try (first | simp_arith only [Int.toNat_natCast] | simp_arith only [true_and] | skip)
    refine ⟨(by rw [sizeLine_eq]; omega), ?_⟩
    obtain ⟨c, e, hc⟩ := ix_sign h0 h1
    exact ⟨c, e, hlt, hR _ (sign_ok (List.all_eq_true.mp hz c hc))⟩
  · rw [List.length_map, List.length_range] at hll
    try (first | simp_arith only [Int.toNat_natCast] | simp_arith only [true_and] | skip)
    refine join_p (n := m) (c := 1) (R := fun d => Q d) hx (by omega) (by omega) fun s hs hp => q s (by omega) hp
def sText26 (P : Program) (w : World) : FSp := fun ds Q E => ds = [stL.d P w] ∧ ∀ s : Str, s.length ≤ 10000 → s.cps.toList.all okRow = true → Q (.str s)
theorem rg40 {n : Nat} (h : n ≤ 1000) : ∃ m : Nat, m ≤ n ∧ RgC 0 n 40 m := by
  refine ⟨(Builtin.Range.rangeSize 0 n 40).toNat, ?_, by decide, by decide, ?_, ?_⟩
  · have := PyProof.Rows.rangeSize_toNat_le 0 n 40
    omega
  · have e := PyProof.Rows.rangeSize_toNat 0 (n : Int) 40
    have l := PyProof.Rows.rangeSize_toNat_le 0 (n : Int) 40
    unfold Builtin.Range.small Builtin.Range.rangeFitsLong
    simp
    omega
  · exact PyProof.Rows.rangeSize_toNat _ _ _
theorem w_law_text (g15 : Γ.f 15 = sString P w) (h : sText26 P w ds Q QE) : wSs Γ E b_law_text (zz Q) (ent0 n_law_text ds) := by
  obtain ⟨rfl, q⟩ := h
  show wSs Γ E b_law_text _ [.sh (stL.d P w), .un, .un]
  unfold b_law_text
  (first | (with_reducible refine step_i (by with_unfolding_all rfl) ?_) | ((first | simp_arith only [g15] | simp_arith only [true_and] | skip); with_reducible refine step_i (by with_unfolding_all rfl) ?_)); simp_arith only [g15]
  refine c_string (m := 120) (by decide) (by decide) fun s hs hp => ?_; (first | simp_arith only [g15] | simp_arith only [true_and] | skip)
  try (first | simp_arith only [g15] | simp_arith only [true_and] | skip)
  obtain ⟨m, hm, hr⟩ := rg40 (n := s.length) (by omega)
  (first | (with_reducible refine step_i (by with_unfolding_all rfl) ?_) | ((try simp_arith only [true_and]); with_reducible refine step_i (by with_unfolding_all rfl) ?_)); simp_arith only [true_and]
  refine ⟨by rw [sizeLine_eq]; omega, m, hr, ?_⟩
  refine lcL_map (strP okRow 41) (by rw [List.length_map, List.length_range, sizeLine_eq]; omega) (fun d acc hd ha hlt R hR => ?_) fun l hll hx => ?_
  · obtain ⟨j, _, rfl⟩ := List.mem_map.mp hd
    simp_arith only [e_law_text_0]
    have l1 := cutS_len s (some (0 + (j : Int) * 40)) (some (0 + (j : Int) * 40 + 40))
    have l40 : (cutS s (some (0 + (j : Int) * 40)) (some (0 + (j : Int) * 40 + 40))).length ≤ 40 := by
      rw [← toL_len]
      unfold cutS
      rw [List.toList_toArray, List.length_take]
      have e1 : (0 : Int) + (j : Int) * 40 = ((j * 40 : Nat) : Int) := by omega
      have e2 : (0 : Int) + (j : Int) * 40 + 40 = ((j * 40 + 40 : Nat) : Int) := by omega
      rw [e2, e1, HT.sIx_nat, HT.sIx_nat]
      omega
    have e1 : (Str.ofString "\n").length = 1 := by decide
    refine ⟨by rw [sizeLine_eq]; omega, by rw [e1, sizeLine_eq]; omega, hlt, hR _ ⟨_, rfl, by rw [len_app, e1]; omega, app_all (cutS_all _ _ hp) (by decide)⟩⟩
  · rw [List.length_map, List.length_range] at hll
    try (first | simp_arith only [g15] | simp_arith only [true_and] | skip)
    refine join_p (n := 120) (c := 41) (R := fun d => Q d) hx (by omega) (by omega) fun s hs hp => q s (by omega) hp
/-! ### edits -/
structure Ed where
  s : Int
  e : Int
  n : Str
def Ed.d (x : Ed) : D := .tup [.int x.s, .int x.e, .str x.n]
def Ed.gr (x : Ed) : Int := (x.n.length : Int) - (x.e - x.s)
/-! ### all done at once -/
def doneF (t : Str) : List Ed → Str → Int → Str
  | [], acc, at_ => acc ++ cutS t (some at_) none
  | x :: r, acc, at_ => doneF t r (acc ++ cutS t (some at_) (some x.s) ++ x.n) x.e
theorem doneF_cons {t acc : Str} {at_ : Int} {x : Ed} {r : List Ed} : doneF t (x :: r) acc at_ = doneF t r (acc ++ cutS t (some at_) (some x.s) ++ x.n) x.e := rfl
def sDone : FSp := fun ds Q E => ∃ t es c, ds = [.str t, .lst (es.map Ed.d)] ∧ t.length ≤ 10000 ∧ (c + 10000) * es.length ≤ 1100000 ∧ (∀ x ∈ es, x.n.length ≤ c) ∧ ∀ s : Str, s = doneF t es Str.empty 0 → s.length ≤ 1200000 → Q (.str s)
theorem w_law_done (h : sDone ds Q QE) : wSs Γ E b_law_done (zz Q) (ent0 n_law_done ds) := by
  obtain ⟨t, es, c, rfl, ht, hn, hz, q⟩ := h
  show wSs Γ E b_law_done _ [.sh (.str t), .sh (.lst (es.map Ed.d)), .un, .un, .un]
  unfold b_law_done
  have hs := sizeLine_eq
  (first | (with_reducible refine step_i (by with_unfolding_all rfl) ?_) | ((try simp_arith only [true_and]); with_reducible refine step_i (by with_unfolding_all rfl) ?_)); simp_arith only [true_and]
  (first | (with_reducible refine step_i (by with_unfolding_all rfl) ?_) | ((try simp_arith only [true_and]); with_reducible refine step_i (by with_unfolding_all rfl) ?_)); simp_arith only [true_and]
  (first | (with_reducible refine step_i (by with_unfolding_all rfl) ?_) | ((try simp_arith only [true_and]); with_reducible refine step_i (by with_unfolding_all rfl) ?_)); simp_arith only [true_and]
  refine forL_i (fun ds ρ => ∃ (r : List Ed) (acc : Str) (at_ : Int) (x : Sl), ds = r.map Ed.d ∧ ρ = [.sh (.str t), .sh (.lst (es.map Ed.d)), .sh (.str acc), .sh (.int at_), x] ∧ doneF t es Str.empty 0 = doneF t r acc at_ ∧ (∀ x ∈ r, x.n.length ≤ c) ∧ acc.length + (c + 10000) * r.length ≤ 1100000) ?_ ?_ _ _ ⟨es, Str.empty, 0, .un, rfl, rfl, rfl, hz, ?_⟩
  · rintro ρ ⟨r, acc, at_, x, e, rfl, hd, _, hl⟩
    cases r with
    | cons _ _ => cases e
    | nil =>
      have l1 := cutS_len t (some at_) none
      have hl : acc.length ≤ 1100000 := by simpa using hl
      (first | (with_reducible refine step_i (by with_unfolding_all rfl) ?_) | ((try simp_arith only [true_and]); with_reducible refine step_i (by with_unfolding_all rfl) ?_)); simp_arith only [true_and]
      exact ⟨by omega, by omega, q _ (by rw [hd]; rfl) (by rw [len_app]; omega)⟩
  · rintro d ds ρ ⟨r, acc, at_, x, e, rfl, hd, hb, hl⟩ N hN
    cases r with
    | nil => cases e
    | cons p r =>
      rw [List.map_cons] at e
      injection e with e1 e2
      subst e1 e2
      rw [List.length_cons, Nat.mul_succ] at hl
      have l1 := cutS_len t (some at_) (some p.s)
      have l2 := hb p List.mem_cons_self
      have ed : p.d = .tup [.int p.s, .int p.e, .str p.n] := rfl
      rw [doneF_cons] at hd
      (first | simp_arith only [g15] | simp_arith only [true_and] | skip)
      (first | (with_reducible refine step_i (by with_unfolding_all rfl) ?_) | ((first | simp_arith only [ed] | simp_arith only [true_and] | skip); with_reducible refine step_i (by with_unfolding_all rfl) ?_)); simp_arith only [ed]
      refine ⟨by omega, by omega, by rw [len_app]; omega, ?_⟩
      (first | (with_reducible refine step_i (by with_unfolding_all rfl) ?_) | ((try simp_arith only [true_and]); with_reducible refine step_i (by with_unfolding_all rfl) ?_)); simp_arith only [true_and]
      (first | (with_reducible refine stop_i (by with_unfolding_all rfl) ?_) | (simp_arith only [true_and]; with_reducible refine stop_i (by with_unfolding_all rfl) ?_) | skip)
      exact hN _ ⟨r, _, _, _, rfl, rfl, hd, fun x hx => hb x (List.mem_cons_of_mem _ hx), by rw [len_app, len_app]; omega⟩
  · have : Str.empty.length = 0 := rfl
    omega
theorem c_done {t : Str} {es : List Ed} (c : Nat) (ht : t.length ≤ 10000) (hn : (c + 10000) * es.length ≤ 1100000) (hz : ∀ x ∈ es, x.n.length ≤ c) (q : ∀ s : Str, s = doneF t es Str.empty 0 → s.length ≤ 1200000 → Q (.str s)) : sDone [.str t, .lst (es.map Ed.d)] Q QE := ⟨t, es, c, rfl, ht, hn, hz, q⟩
/-! ### names -/
theorem inW_str {x : Str} {l : List Str} {R : Bool → Prop} (q : R (decide (x ∈ l))) : inW (.str x) (l.map .str) R := by
  refine ⟨rfl, ?_, ?_⟩
  · rw [List.all_map]; exact List.all_eq_true.mpr fun _ _ => rfl
  · have e : ((l.map D.str).any fun y => eqF y (.str x)) = decide (x ∈ l) := by
      rw [List.any_map, Bool.eq_iff_iff, List.any_eq_true, decide_eq_true_eq]
      constructor
      · rintro ⟨y, hy, h⟩
        have : y = x := by simpa [eqF] using h
        rw [← this]; exact hy
      · exact fun h => ⟨x, h, by simp [eqF]⟩
    rw [e]; exact q
theorem cut_sorted {α : Type} {r : α → α → Prop} {p : α → Bool} (hm : ∀ x y, r x y → p y = true → p x = true) : ∀ {l : List α}, l.Pairwise r → (∀ x ∈ l.take (l.filter p).length, p x = true) ∧ ∀ x ∈ l.drop (l.filter p).length, p x = false
  | [], _ => ⟨nofun, nofun⟩
  | a :: l, h => by
    rw [List.pairwise_cons] at h
    obtain ⟨i1, i2⟩ := cut_sorted hm h.2
    by_cases k : p a = true
    · rw [List.filter_cons_of_pos k, List.length_cons, List.take_succ_cons, List.drop_succ_cons]
      exact ⟨fun x hx => by rcases List.mem_cons.mp hx with rfl | hx; exact k; exact i1 x hx, i2⟩
    · have z : ∀ x ∈ l, p x = false := fun x hx => by
        rw [← Bool.not_eq_true]
        exact fun q => k (hm a x (h.1 x hx) q)
      rw [List.filter_cons_of_neg k, List.filter_eq_nil_iff.mpr (fun x hx => by rw [z x hx]; exact Bool.false_ne_true)]
      refine ⟨nofun, fun x hx => ?_⟩
      rcases List.mem_cons.mp hx with rfl | hx
      · exact Bool.not_eq_true _ ▸ k
      · exact z x hx
/-- put in where it belongs: sorted again -/
theorem put_sorted {α : Type} {r : α → α → Prop} {p : α → Bool} {a : α} {l : List α} (hm : ∀ x y, r x y → p y = true → p x = true) (h : l.Pairwise r) (h1 : ∀ x ∈ l, p x = true → r x a) (h2 : ∀ x ∈ l, p x = false → r a x) :
    (l.take (l.filter p).length ++ [a] ++ l.drop (l.filter p).length).Pairwise r := by
  obtain ⟨c1, c2⟩ := cut_sorted hm h
  have hh : (l.take (l.filter p).length ++ l.drop (l.filter p).length).Pairwise r := by rw [List.take_append_drop]; exact h
  rw [List.pairwise_append] at hh
  rw [List.append_assoc, List.pairwise_append]
  refine ⟨hh.1, ?_, ?_⟩
  · show (a :: _).Pairwise r
    rw [List.pairwise_cons]
    exact ⟨fun x hx => h2 x (List.mem_of_mem_drop hx) (c2 x hx), hh.2.1⟩
  · intro x hx y hy
    have hx1 := h1 x (List.mem_of_mem_take hx) (c1 x hx)
    rcases List.mem_cons.mp hy with rfl | hy
    · exact hx1
    · exact hh.2.2 x hx y hy
/-- texts in order -/
def ltS (x y : Str) : Prop := x.cps.toList < y.cps.toList
theorem ltS_irr {x : Str} : ¬ ltS x x := List.lt_irrefl _
theorem ltS_trans {x y z : Str} (h : ltS x y) (h2 : ltS y z) : ltS x z := List.lt_trans h h2
theorem ltS_tri {x y : Str} (h : ¬ ltS x y) (h2 : x ≠ y) : ltS y x := by
  refine Classical.byContradiction fun k => h2 (str_ext ?_)
  have e : x.cps.toList = y.cps.toList := List.le_antisymm (List.not_lt.mp k) (List.not_lt.mp h)
  first | exact e | exact Array.toList_inj.mp e
def lowC (c : Nat) : Bool := decide (97 ≤ c ∧ c ≤ 122)
def nameS (x : Str) : Bool := decide (x.length ≤ 8) && x.cps.toList.all lowC
theorem sorted_nodup {l : List Str} (h : l.Pairwise ltS) : l.Nodup := h.imp fun h e => by subst e; exact ltS_irr h
def sNames (P : Program) (w : World) : FSp := fun ds Q E => ∃ n : Nat, ds = [stL.d P w, .int n] ∧ n ≤ 5 ∧ ∀ ns : List Str, ns.Pairwise ltS → ns.length ≤ n → (∀ x ∈ ns, nameS x = true) → Q (.lst (ns.map .str))
theorem c_names {n : Nat} (h : n ≤ 5) (q : ∀ ns : List Str, ns.Pairwise ltS → ns.length ≤ n → (∀ x ∈ ns, nameS x = true) → Q (.lst (ns.map .str))) : sNames P w [stL.d P w, .int n] Q QE := ⟨n, rfl, h, q⟩
theorem w_law_names (g9 : Γ.f 9 = sDraw26 P w) (h : sNames P w ds Q QE) : wSs Γ E b_law_names (zz Q) (ent0 n_law_names ds) := by
  obtain ⟨n, rfl, hn5, q⟩ := h
  show wSs Γ E b_law_names _ [.sh (stL.d P w), .sh (.int n), .un, .un, .un, .un, .un]
  unfold b_law_names
  have hs := sizeLine_eq
  (first | (with_reducible refine step_i (by with_unfolding_all rfl) ?_) | ((try simp_arith only [true_and]); with_reducible refine step_i (by with_unfolding_all rfl) ?_)); simp_arith only [true_and]
  (repeat (((with_reducible refine And.intro ?_ ?_); focus (first | decide | omega | exact trivial | (intro h; cases h; done) | exact Or.inr (by decide) | exact Or.inl ⟨by omega, by omega⟩ | exact ⟨by omega, by omega⟩ | (rw [sizeLine_eq]; omega) | (refine sz ?_; first | omega | (simp; done))))))
  (first | (with_reducible refine step_i (by with_unfolding_all rfl) ?_) | ((try simp_arith only [true_and]); with_reducible refine step_i (by with_unfolding_all rfl) ?_)); simp_arith only [true_and]
  refine ⟨by omega, by omega, ?_⟩
  refine forL_i (fun ds ρ => ∃ (acc : List Str) (s3 s4 s5 s6 : Sl), ρ = [.sh (stL.d P w), .sh (.int n), .own none (acc.map .str), s3, s4, s5, s6] ∧ acc.Pairwise ltS ∧ acc.length + ds.length ≤ n ∧ ∀ x ∈ acc, nameS x = true) ?_ ?_ _ _ ⟨[], .un, .un, .un, .un, rfl, .nil, ?_, nofun⟩
  · rintro ρ ⟨acc, s3, s4, s5, s6, rfl, hn, hl, hz⟩
    (first | (with_reducible refine step_i (by with_unfolding_all rfl) ?_) | ((try simp_arith only [true_and]); with_reducible refine step_i (by with_unfolding_all rfl) ?_)); simp_arith only [true_and]
    exact (q acc hn (by simpa using hl) hz)
  · rintro d ds ρ ⟨acc, s3, s4, s5, s6, rfl, hn, hl, hz⟩ N hN
    rw [List.length_cons] at hl
    (first | simp_arith only [ed] | simp_arith only [true_and] | skip)
    have join8 : ∀ (z : Str) (ex : Ex) (s3 s4 : Sl) (k : Int) (R : D → Prop) (C : List D → Prop) (_ : ∀ l, (∃ l', strsD (.lst l) = some l' ∧ ∃ ys : List Str, l' = ys.map D.str ∧ (ys.map (·.length)).sum + ys.length * (Str.ofString "").length ≤ 16777216 ∧ R (.str (Txt.join (Str.ofString "") ys))) → C l), z.length ≤ 26 → 0 < z.length → z.cps.toList.all lowC = true → 0 ≤ k → k ≤ 8 → (ex = .ix (.str z) (.call 9 (.cons (.v 0) (.cons (.int z.length) .nil)))) → (∀ s : Str, nameS s = true → R (.str s)) →
        -(2 ^ 62) ≤ k ∧ k < 2 ^ 62 ∧ lcL (fun x ρ Q => Q (ρ.set 5 (.sh x))) (fun ρ Q => Q true ρ) (wE Γ (fun _ _ => False) ex) [.sh (stL.d P w), .sh (.int n), .own none (acc.map .str), s3, s4, .un, s6] C ((List.range k.toNat).map fun (i : Nat) => .int (i : Int)) [] := fun z ex s3 s4 k R C hC hz1 hz0 hzl h0 h8 e hR => by
      subst e
      obtain ⟨k, rfl⟩ := Int.eq_ofNat_of_zero_le h0
      rw [Int.toNat_natCast]
      refine ⟨by omega, by omega, ?_⟩
      refine lcL_map (strP lowC 1) (by rw [List.length_map, List.length_range]; omega) (fun d acc hd ha hlt R hR => ?_) fun l hll hx => ?_
      · simp_arith only [g9]
        refine c_draw26 ⟨by omega, by omega⟩ fun r h0 h1 => ?_; (first | simp_arith only [ed] | simp_arith only [true_and] | skip)
        try (first | simp_arith only [ed] | simp_arith only [true_and] | skip)
        obtain ⟨c, e, hc⟩ := ix_sign h0 h1
        exact ⟨by omega, c, e, hlt, hR _ ⟨_, rfl, Nat.le_refl _, by simpa using List.all_eq_true.mp hzl c hc⟩⟩
      · rw [List.length_map, List.length_range] at hll
        exact hC _ <| join_p (n := 8) (c := 1) hx (by omega) (by omega) fun s hs hp => hR s (by rw [nameS, hp, Bool.and_true]; exact decide_eq_true (by omega))
    have rest : ∀ (nm : Str) (s3 s5 s6 : Sl), nameS nm = true → wSs Γ E (.cons (.ife (.cmp .nin (.v 4) (.b 2)) (.cons (.ins 2 (.bi .len (.cons (.lc (.nm 6) .seq (.cons (.b 2) .nil) t_law_names_0 e_law_names_0) .nil)) (.v 4)) .nil) .nil) .nil)
        { nx := N, rt := fun d _ => Q d, bk := wSs Γ E (.cons (.ret (.v 2)) .nil) (zz Q), ct := N } [.sh (stL.d P w), .sh (.int n), .own none (acc.map .str), s3, .sh (.str nm), s5, s6] := fun nm s3 s5 s6 hnm => by
      (first | (with_reducible refine step_i (by with_unfolding_all rfl) ?_) | ((try simp_arith only [true_and]); with_reducible refine step_i (by with_unfolding_all rfl) ?_)); simp_arith only [true_and]
      refine inW_str ?_
      by_cases hm : nm ∈ acc
      · simp_arith only [hm]
        (first | (with_reducible refine stop_i (by with_unfolding_all rfl) ?_) | (simp_arith only [true_and]; with_reducible refine stop_i (by with_unfolding_all rfl) ?_) | skip)
        (first | (with_reducible refine stop_i (by with_unfolding_all rfl) ?_) | (simp_arith only [true_and]; with_reducible refine stop_i (by with_unfolding_all rfl) ?_) | skip)
        exact hN _ ⟨acc, _, _, _, _, rfl, hn, by omega, hz⟩
      · simp_arith only [hm]
        (first | (with_reducible refine step_i (by with_unfolding_all rfl) ?_) | ((try simp_arith only [true_and]); with_reducible refine step_i (by with_unfolding_all rfl) ?_)); simp_arith only [true_and]
        refine lcL_filter (fun d => match d with | .str x => decide (x.cps.toList < nm.cps.toList) | _ => false) id (by rw [List.length_map]; omega) (fun d acc2 hd hlt R h1 h2 => ?_) ?_
        · obtain ⟨x, hx, rfl⟩ := List.mem_map.mp hd
          simp_arith only [t_law_names_0, e_law_names_0]
          split
          · rename_i k
            exact ⟨hlt, h1 (decide_eq_true k)⟩
          · rename_i k
            exact h2 (decide_eq_false k)
        · try (first | simp_arith only [ed] | simp_arith only [true_and] | skip)
          have em : ((acc.map D.str).filter fun d => match d with | .str x => decide (x.cps.toList < nm.cps.toList) | _ => false) = (acc.filter fun x => decide (x.cps.toList < nm.cps.toList)).map D.str := by
            rw [List.filter_map]; rfl
          have hle := List.length_filter_le (fun x : Str => decide (x.cps.toList < nm.cps.toList)) acc
          rw [em, List.map_id, List.length_map, List.length_map]
          have hs2 := put_sorted (r := ltS) (p := fun x : Str => decide (x.cps.toList < nm.cps.toList)) (a := nm) (fun x y h h2 => decide_eq_true (List.lt_trans h (of_decide_eq_true h2))) hn (fun x _ h => show x.cps.toList < nm.cps.toList from of_decide_eq_true h) (fun x hx h => ltS_tri (show ¬ x.cps.toList < nm.cps.toList from of_decide_eq_false h) fun e => hm (by rw [← e]; exact hx))
          generalize (acc.filter fun x => decide (x.cps.toList < nm.cps.toList)).length = j at hle hs2 ⊢
          refine ⟨by omega, by omega, by omega, ?_⟩
          (first | (with_reducible refine stop_i (by with_unfolding_all rfl) ?_) | (simp_arith only [true_and]; with_reducible refine stop_i (by with_unfolding_all rfl) ?_) | skip)
          (first | (with_reducible refine stop_i (by with_unfolding_all rfl) ?_) | (simp_arith only [true_and]; with_reducible refine stop_i (by with_unfolding_all rfl) ?_) | skip)
          refine hN _ ⟨acc.take j ++ [nm] ++ acc.drop j, s3, .sh (.str nm), s5, s6, ?_, hs2, ?_, ?_⟩
          · rw [Int.toNat_natCast, List.map_append, List.map_append, List.map_take, List.map_drop]; rfl
          · rw [List.length_append, List.length_append, List.length_singleton, List.length_take, List.length_drop]; omega
          · intro x hx
            simp only [List.mem_append, List.mem_singleton] at hx
            rcases hx with (hx | hx) | hx
            · exact hz x (List.mem_of_mem_take hx)
            · rw [hx]; exact hnm
            · exact hz x (List.mem_of_mem_drop hx)
    (first | (with_reducible refine step_i (by with_unfolding_all rfl) ?_) | ((first | simp_arith only [g9] | simp_arith only [true_and] | skip); with_reducible refine step_i (by with_unfolding_all rfl) ?_)); simp_arith only [g9]
    refine c_draw26 ⟨by decide, by decide⟩ fun r h0 h1 => ?_; (first | simp_arith only [g9] | simp_arith only [true_and] | skip)
    try (first | simp_arith only [g9] | simp_arith only [true_and] | skip)
    refine join8 (Str.ofString "ab") e_law_names_2 _ _ r (fun d' => wSs Γ E _ _ [.sh (stL.d P w), .sh (.int n), .own none (acc.map .str), _, .sh d', _, _]) _ (fun l h => by (first | simp_arith only [g9] | simp_arith only [true_and] | skip); exact h) (by decide) (by decide) (by decide) h0 (by omega) rfl fun nm hnm => ?_
    (first | (with_reducible refine step_i (by with_unfolding_all rfl) ?_) | ((first | simp_arith only [g9] | simp_arith only [true_and] | skip); with_reducible refine step_i (by with_unfolding_all rfl) ?_)); simp_arith only [g9]
    refine c_draw26 ⟨by decide, by decide⟩ fun r2 h02 h12 => ?_; (first | simp_arith only [g9] | simp_arith only [true_and] | skip)
    try (first | simp_arith only [g9] | simp_arith only [true_and] | skip)
    split
    · (first | (with_reducible refine step_i (by with_unfolding_all rfl) ?_) | ((first | simp_arith only [g9] | simp_arith only [true_and] | skip); with_reducible refine step_i (by with_unfolding_all rfl) ?_)); simp_arith only [g9]
      refine c_draw26 ⟨by decide, by decide⟩ fun r3 h03 h13 => ?_; (first | simp_arith only [g9] | simp_arith only [true_and] | skip)
      try (first | simp_arith only [g9] | simp_arith only [true_and] | skip)
      refine join8 (Str.ofString "abcdefghijklmnopqrstuvwxyz") e_law_names_1 _ _ (1 + r3) (fun d' => wSs Γ E _ _ [.sh (stL.d P w), .sh (.int n), .own none (acc.map .str), _, .sh d', _, _]) _ (fun l h => by (first | simp_arith only [g9] | simp_arith only [true_and] | skip); exact h) (by decide) (by decide) (by decide) (by omega) (by omega) rfl fun nm hnm => ?_
      try (first | simp_arith only [g9] | simp_arith only [true_and] | skip)
      (first | (with_reducible refine stop_i (by with_unfolding_all rfl) ?_) | (simp_arith only [true_and]; with_reducible refine stop_i (by with_unfolding_all rfl) ?_) | skip)
      exact rest nm _ _ _ hnm
    · (first | (with_reducible refine stop_i (by with_unfolding_all rfl) ?_) | (simp_arith only [true_and]; with_reducible refine stop_i (by with_unfolding_all rfl) ?_) | skip)
      exact rest nm _ _ _ hnm
  · simp [Int.toNat_natCast]
theorem eqv2 {a b c d : Int} : PyData.eqv (.tuple [.int a, .int b]) (.tuple [.int c, .int d]) = (decide (a = c) && decide (b = d)) := by
  simp [PyData.eqv, PyData.eqvAll]
  rfl
/-! ### edits drawn -/
structure EdsOk (size : Int) (es : List Ed) : Prop where
  one : ∀ x ∈ es, 0 ≤ x.s ∧ x.s ≤ x.e ∧ x.e ≤ size ∧ x.n.length ≤ 20 ∧ x.n.cps.toList.all okRow = true
  pw : es.Pairwise fun x y => x.e ≤ y.s
  nd : es.Pairwise fun x y => ¬ (x.s = x.e ∧ y.s = y.e ∧ x.s = y.s)
  len : es.length ≤ 4
def sEdits (P : Program) (w : World) : FSp := fun ds Q E => ∃ size, ds = [stL.d P w, .int size] ∧ 0 ≤ size ∧ size ≤ 1000000000 ∧ ∀ es : List Ed, EdsOk size es → Q (.lst (es.map Ed.d))
theorem three {r r1 : Int} (h0 : 0 ≤ r1) : ∀ x ∈ [D.int 0, .int 1, .int r1], ∃ v : Int, x = .int v ∧ 0 ≤ v := fun x hx => by
  simp only [List.mem_cons, List.not_mem_nil, or_false] at hx
  rcases hx with rfl | rfl | rfl
  · exact ⟨0, rfl, by decide⟩
  · exact ⟨1, rfl, by decide⟩
  · exact ⟨_, rfl, h0⟩
theorem w_law_edits (g9 : Γ.f 9 = sDraw26 P w) (g15 : Γ.f 15 = sString P w) (h : sEdits P w ds Q QE) : wSs Γ E b_law_edits (zz Q) (ent0 n_law_edits ds) := by
  obtain ⟨size, rfl, hs0, hs1, q⟩ := h
  show wSs Γ E b_law_edits _ [.sh (stL.d P w), .sh (.int size), .un, .un, .un, .un, .un]
  unfold b_law_edits
  have hs := sizeLine_eq
  (first | (with_reducible refine step_i (by with_unfolding_all rfl) ?_) | ((try simp_arith only [true_and]); with_reducible refine step_i (by with_unfolding_all rfl) ?_)); simp_arith only [true_and]
  refine ⟨sz (by simp), ?_⟩
  (first | (with_reducible refine step_i (by with_unfolding_all rfl) ?_) | ((try simp_arith only [true_and]); with_reducible refine step_i (by with_unfolding_all rfl) ?_)); simp_arith only [true_and]
  (first | (with_reducible refine step_i (by with_unfolding_all rfl) ?_) | ((first | simp_arith only [g9] | simp_arith only [true_and] | skip); with_reducible refine step_i (by with_unfolding_all rfl) ?_)); simp_arith only [g9]
  refine c_draw26 ⟨by decide, by decide⟩ fun r h0 h1 => ?_; (first | simp_arith only [g9] | simp_arith only [true_and] | skip)
  try (first | simp_arith only [g9] | simp_arith only [true_and] | skip)
  refine ⟨by omega, by omega, ?_⟩
  refine forL_i (fun ds ρ => ∃ (acc : List Ed) (at_ : Int) (s4 s5 s6 : Sl), ρ = [.sh (stL.d P w), .sh (.int size), .own none (acc.map Ed.d), .sh (.int at_), s4, s5, s6] ∧ 0 ≤ at_ ∧ at_ ≤ size ∧ (∀ x ∈ acc, x.e ≤ at_) ∧ (acc.Pairwise fun x y => x.e ≤ y.s) ∧ (acc.Pairwise fun x y => ¬ (x.s = x.e ∧ y.s = y.e ∧ x.s = y.s)) ∧ acc.length + ds.length ≤ 4 ∧
      ∀ x ∈ acc, 0 ≤ x.s ∧ x.s ≤ x.e ∧ x.e ≤ size ∧ x.n.length ≤ 20 ∧ x.n.cps.toList.all okRow = true) ?_ ?_ _ _ ⟨[], 0, .un, .un, .un, rfl, Int.le_refl _, hs0, nofun, .nil, .nil, ?_, nofun⟩
  · rintro ρ ⟨acc, at_, s4, s5, s6, rfl, ha0, ha1, hle, hp, hd, hl, hone⟩
    (first | (with_reducible refine step_i (by with_unfolding_all rfl) ?_) | ((try simp_arith only [true_and]); with_reducible refine step_i (by with_unfolding_all rfl) ?_)); simp_arith only [true_and]
    exact (q acc ⟨hone, hp, hd, by simpa using hl⟩)
  · rintro d ds ρ ⟨acc, at_, s4, s5, s6, rfl, ha0, ha1, hle, hp, hd, hl, hone⟩ N hN
    rw [List.length_cons] at hl
    (first | simp_arith only [g9] | simp_arith only [true_and] | skip)
    (first | (with_reducible refine step_i (by with_unfolding_all rfl) ?_) | ((first | simp_arith only [g9] | simp_arith only [true_and] | skip); with_reducible refine step_i (by with_unfolding_all rfl) ?_)); simp_arith only [g9]
    refine c_draw26 ⟨by omega, by omega⟩ fun r1 h01 h11 => ?_; (first | simp_arith only [g9] | simp_arith only [true_and] | skip)
    refine ⟨sz (by simp), ?_⟩
    refine c_draw26 ⟨by decide, by decide⟩ fun r2 h02 h12 => ?_; (first | simp_arith only [g9] | simp_arith only [true_and] | skip)
    try (first | simp_arith only [g9] | simp_arith only [true_and] | skip)
    refine ix_any (l := [.int 0, .int 1, .int r1]) _ h02 (by simpa using h12) fun x hx => ?_
    obtain ⟨v, rfl, hv⟩ := three (r := 0) h01 x hx
    (first | (with_reducible refine step_i (by with_unfolding_all rfl) ?_) | ((first | simp_arith only [g9] | simp_arith only [true_and] | skip); with_reducible refine step_i (by with_unfolding_all rfl) ?_)); simp_arith only [g9]
    refine c_draw26 ⟨by omega, by omega⟩ fun r3 h03 h13 => ?_; (first | simp_arith only [g9] | simp_arith only [true_and] | skip)
    refine ⟨sz (by simp), ?_⟩
    refine c_draw26 ⟨by decide, by decide⟩ fun r4 h04 h14 => ?_; (first | simp_arith only [g9] | simp_arith only [true_and] | skip)
    try (first | simp_arith only [g9] | simp_arith only [true_and] | skip)
    refine ix_any (l := [.int 0, .int 1, .int r3]) _ h04 (by simpa using h14) fun x hx => ?_
    obtain ⟨v2, rfl, hv2⟩ := three (r := 0) h03 x hx
    (first | (with_reducible refine step_i (by with_unfolding_all rfl) ?_) | ((try simp_arith only [true_and]); with_reducible refine step_i (by with_unfolding_all rfl) ?_)); simp_arith only [true_and]
    have e5 : ∃ s : Int, s = (if size < at_ + v then size else at_ + v) ∧ at_ ≤ s ∧ s ≤ size ∧ s ≤ at_ + v := ⟨_, rfl, by split <;> omega, by split <;> omega, by split <;> omega⟩
    obtain ⟨s, es, hs1, hs2, hs3⟩ := e5
    rw [← es]
    (first | (with_reducible refine step_i (by with_unfolding_all rfl) ?_) | ((try simp_arith only [true_and]); with_reducible refine step_i (by with_unfolding_all rfl) ?_)); simp_arith only [true_and]
    have e6 : ∃ e : Int, e = (if size < at_ + v + v2 then size else at_ + v + v2) ∧ s ≤ e ∧ e ≤ size := ⟨_, rfl, by split <;> omega, by split <;> omega⟩
    obtain ⟨e, ee, he1, he2⟩ := e6
    rw [← ee]
    have skip : wSs Γ E .nil { nx := N, rt := fun d _ => Q d, bk := wSs Γ E (.cons (.ret (.v 2)) .nil) (zz Q), ct := N } [.sh (stL.d P w), .sh (.int size), .own none (acc.map Ed.d), .sh (.int at_), .sh d, .sh (.int s), .sh (.int e)] := by
      (first | (with_reducible refine stop_i (by with_unfolding_all rfl) ?_) | (simp_arith only [true_and]; with_reducible refine stop_i (by with_unfolding_all rfl) ?_) | skip)
      exact hN _ ⟨acc, at_, _, _, _, rfl, ha0, ha1, hle, hp, hd, by omega, hone⟩
    have good : (∀ x ∈ acc, ¬ (x.s = x.e ∧ s = e ∧ x.s = s)) → wSs Γ E (.cons (.app 2 (.tup (.cons (.v 5) (.cons (.v 6) (.cons (.call 15 (.cons (.v 0) (.cons (.int 20) .nil))) .nil))))) (.cons (.asg (.nm 3) (.v 6)) .nil))
        { nx := wSs Γ E .nil { nx := N, rt := fun d _ => Q d, bk := wSs Γ E (.cons (.ret (.v 2)) .nil) (zz Q), ct := N }, rt := fun d _ => Q d, bk := wSs Γ E (.cons (.ret (.v 2)) .nil) (zz Q), ct := N } [.sh (stL.d P w), .sh (.int size), .own none (acc.map Ed.d), .sh (.int at_), .sh d, .sh (.int s), .sh (.int e)] := fun hg => by
      (first | (with_reducible refine step_i (by with_unfolding_all rfl) ?_) | ((first | simp_arith only [g15] | simp_arith only [true_and] | skip); with_reducible refine step_i (by with_unfolding_all rfl) ?_)); simp_arith only [g15]
      refine c_string (m := 20) (by decide) (by decide) fun n hn hp2 => ?_; (first | simp_arith only [g15] | simp_arith only [true_and] | skip)
      try (first | simp_arith only [g15] | simp_arith only [true_and] | skip)
      refine ⟨sz (by simp), by rw [List.length_map]; omega, ?_⟩
      (first | (with_reducible refine step_i (by with_unfolding_all rfl) ?_) | ((try simp_arith only [true_and]); with_reducible refine step_i (by with_unfolding_all rfl) ?_)); simp_arith only [true_and]
      (first | (with_reducible refine stop_i (by with_unfolding_all rfl) ?_) | (simp_arith only [true_and]; with_reducible refine stop_i (by with_unfolding_all rfl) ?_) | skip)
      (first | (with_reducible refine stop_i (by with_unfolding_all rfl) ?_) | (simp_arith only [true_and]; with_reducible refine stop_i (by with_unfolding_all rfl) ?_) | skip)
      refine hN _ ⟨acc ++ [⟨s, e, n⟩], e, .sh d, .sh (.int s), .sh (.int e), by rw [List.map_append]; rfl, by omega, he2, ?_, ?_, ?_, by rw [List.length_append, List.length_singleton]; omega, ?_⟩
      · intro x hx
        rcases List.mem_append.mp hx with hx | hx
        · have := hle x hx; omega
        · rw [List.mem_singleton.mp hx]; exact Int.le_refl _
      · refine List.pairwise_append.mpr ⟨hp, List.pairwise_singleton _ _, fun x hx y hy => ?_⟩
        rw [List.mem_singleton.mp hy]
        have := hle x hx
        show x.e ≤ s
        omega
      · refine List.pairwise_append.mpr ⟨hd, List.pairwise_singleton _ _, fun x hx y hy => ?_⟩
        rw [List.mem_singleton.mp hy]
        exact hg x hx
      · intro x hx
        rcases List.mem_append.mp hx with hx | hx
        · exact hone x hx
        · rw [List.mem_singleton.mp hx]; exact ⟨by show 0 ≤ s; omega, he1, he2, hn, hp2⟩
    (first | (with_reducible refine step_i (by with_unfolding_all rfl) ?_) | ((first | simp_arith only [List.length_map] | simp_arith only [true_and] | skip); with_reducible refine step_i (by with_unfolding_all rfl) ?_)); simp_arith only [List.length_map]
    split
    · rename_i h0
      refine good fun x hx => ?_
      have h0 : acc.length = 0 := by ((try simp only [decide_eq_true_eq, decide_eq_false_iff_not, Bool.not_eq_true, Bool.not_eq_false, Decidable.not_not, ltB_true, leB_true, eqI_true, eqS_true, eqBl_true, ltB_false, leB_false, eqI_false, eqS_false, eqBl_false] at *); omega)
      rw [List.eq_nil_of_length_eq_zero h0] at hx
      cases hx
    · split
      · rename_i h0 h1
        exact good fun x hx z => by ((try simp only [decide_eq_true_eq, decide_eq_false_iff_not, Bool.not_eq_true, Bool.not_eq_false, Decidable.not_not, ltB_true, leB_true, eqI_true, eqS_true, eqBl_true, ltB_false, leB_false, eqI_false, eqS_false, eqBl_false] at *); omega)
      · rename_i hne _
        have hne : acc ≠ [] := fun z => hne (by rw [z]; rfl)
        obtain ⟨acc', p, rfl⟩ : ∃ a p, acc = a ++ [p] := ⟨_, _, (List.dropLast_concat_getLast hne).symm⟩
        have ei : (((acc' ++ [p]).length : Nat) : Int) - 1 = (acc'.length : Int) := by rw [List.length_append, List.length_singleton]; omega
        have ea : atI ((acc' ++ [p]).map Ed.d) (acc'.length : Int) = some p.d := atI_nat (by rw [List.getElem?_map, List.getElem?_concat_length]; rfl)
        rw [ei, ea]
        refine ⟨_, rfl, ?_⟩
        have ed : p.d = .tup [.int p.s, .int p.e, .str p.n] := rfl
        rw [ed]
        simp_arith only [cut02]
        refine ⟨sz (by simp), ?_⟩
        refine eqDW_of rfl rfl rfl ?_
        rw [show toPy (.tup [.int p.s, .int p.e]) = .tuple [.int p.s, .int p.e] from rfl, show toPy (.tup [.int s, .int s]) = .tuple [.int s, .int s] from rfl, eqv2]
        split
        · rename_i k
          refine good fun x hx z => ?_
          have hpe := hle p (by simp)
          have hpo := hone p (by simp)
          have kk : ¬ (p.s = s ∧ p.e = s) := fun y => by simp [y.1, y.2] at k
          rcases List.mem_append.mp hx with hx | hx
          · have := (List.pairwise_append.mp hp).2.2 x hx p (by simp)
            exact kk ⟨by omega, by omega⟩
          · rw [List.mem_singleton.mp hx] at z
            exact kk ⟨by omega, by omega⟩
        · exact skip
  · simp
    omega
theorem c_edits {size : Int} (h0 : 0 ≤ size) (h1 : size ≤ 1000000000) (q : ∀ es : List Ed, EdsOk size es → Q (.lst (es.map Ed.d))) : sEdits P w [stL.d P w, .int size] Q QE := ⟨size, rfl, h0, h1, q⟩
end
end DL
/-! V_paper: names, papers -/
namespace DL
open PySem PySem.Spec PyProof.Rows L2
/-! ### plain -/
/-- values of known depth and size -/
def gd : Nat → D → Prop
  | _, .str s => s.length ≤ 1000000
  | _, .int _ => True
  | _, .bl _ => True
  | _, .non => True
  | n + 1, .tup l => l.length ≤ 10000 ∧ ∀ x ∈ l, gd n x
  | n + 1, .lst l => l.length ≤ 10000 ∧ ∀ x ∈ l, gd n x
  | _, _ => False
theorem gd_ok : ∀ {n : Nat} {d : D}, gd n d → okD d = true
  | 0, d, h => by cases d <;> first | rfl | exact h.elim
  | n + 1, d, h => by cases d <;> first | rfl | exact h.elim
theorem gd_ok1 : ∀ {n : Nat} {d : D}, gd n d → ok1 d = true
  | 0, d, h => by cases d <;> first | rfl | exact h.elim
  | n + 1, d, h => by
    unfold ok1
    rw [gd_ok h, Bool.true_and]
    cases d <;> first | rfl | exact h.elim | skip
    exact List.all_eq_true.mpr fun x hx => gd_ok (h.2 x hx)
theorem gd_dep : ∀ {n : Nat} {d : D}, gd n d → dep n d
  | 0, d, h => by cases d <;> first | trivial | exact h.elim
  | n + 1, d, h => by
    cases d <;> first | trivial | exact h.elim | skip
    · exact ⟨h.1, fun x hx => gd_dep (h.2 x hx)⟩
    · exact ⟨h.1, fun x hx => gd_dep (h.2 x hx)⟩
theorem gd_up : ∀ {n : Nat} {d : D}, gd n d → gd (n + 1) d
  | 0, d, h => by cases d <;> first | exact h | trivial | exact h.elim
  | n + 1, d, h => by
    cases d <;> first | exact h | trivial | exact h.elim | skip
    · exact ⟨h.1, fun x hx => gd_up (h.2 x hx)⟩
    · exact ⟨h.1, fun x hx => gd_up (h.2 x hx)⟩
def isNameD : D → Bool
  | .str s => nameS s
  | _ => false
theorem low_mem (c : Nat) : decide (c ∈ (Str.ofString "abcdefghijklmnopqrstuvwxyz").cps.toList) = lowC c := by
  by_cases h : c < 128
  · have z : ∀ c, c < 128 → decide (c ∈ (Str.ofString "abcdefghijklmnopqrstuvwxyz").cps.toList) = lowC c := by decide +kernel
    exact z c h
  · have z : ∀ c ∈ (Str.ofString "abcdefghijklmnopqrstuvwxyz").cps.toList, c < 128 := by decide +kernel
    have a : lowC c = false := decide_eq_false fun k => h (by omega)
    rw [a]
    exact decide_eq_false fun k => h (z c k)
theorem row_mem (c : Nat) : decide (c ∈ signsK.cps.toList) = okRow c := by
  by_cases h : c < 128
  · have z : ∀ c, c < 128 → decide (c ∈ signsK.cps.toList) = okRow c := by decide +kernel
    exact z c h
  · have z : ∀ c ∈ signsK.cps.toList, c < 128 := by decide +kernel
    have a : okRow c = false := by
      unfold okRow
      rw [decide_eq_false (p := c ≤ 126) (by omega), Bool.and_false, Bool.false_and, Bool.or_false]
      exact beq_eq_false_iff_ne.mpr (by omega)
    rw [a]
    exact decide_eq_false fun k => h (z c k)
def apartF (x y : PEnt) : Bool := if x.nm = y.nm then (if y.s < x.e then false else decide (x.s < x.e) || decide (y.s < y.e) || decide (x.s < y.s)) else decide (x.nm.cps.toList < y.nm.cps.toList)
def okP (x : PEnt) : Bool := isNameD (.str x.nm) && isEditD (.tup [.int x.s, .int x.e, .str x.n])
def rowP : D → Option PEnt
  | .tup [.str a, .int s, .int e, .str n] => if okP ⟨a, s, e, n⟩ = true then some ⟨a, s, e, n⟩ else none
  | _ => none
theorem rowP_some {a b c e : D} (h1 : isNameD a = true) (h2 : isEditD (.tup [b, c, e]) = true) : ∃ x, rowP (.tup [a, b, c, e]) = some x ∧ D.tup [a, b, c, e] = x.d ∧ okP x = true := by
  obtain ⟨i, j, s, z, _⟩ := editD_inv h2
  injection z with z
  injection z with z1 z
  injection z with z2 z
  injection z with z3 z
  subst z1 z2 z3
  cases a with
  | str a =>
    have k : okP ⟨a, i, j, s⟩ = true := by unfold okP; rw [h1, h2]; rfl
    exact ⟨_, if_pos k, rfl, k⟩
  | _ => cases h1
theorem rowP_none {a b c e : D} (h : (isNameD a && isEditD (.tup [b, c, e])) = false) : rowP (.tup [a, b, c, e]) = none := by
  unfold rowP
  split
  · rename_i z
    injection z with z
    injection z with z1 z
    injection z with z2 z
    injection z with z3 z
    injection z with z4 z
    subst z1 z2 z3 z4
    exact if_neg (by unfold okP; rw [h]; exact Bool.false_ne_true)
  · rfl
theorem rowP_len {l : List D} (h : l.length ≠ 4) : rowP (.tup l) = none := by
  unfold rowP
  split
  · rename_i z
    injection z with z
    rw [z] at h
    exact absurd rfl h
  · rfl
theorem rowP_inv {d : D} {x : PEnt} (h : rowP d = some x) : d = x.d ∧ okP x = true := by
  unfold rowP at h
  split at h
  · split at h
    · injection h with h
      subst h
      exact ⟨rfl, by assumption⟩
    · cases h
  · cases h
def rowsP : List D → Option (List PEnt)
  | [] => some []
  | d :: r => match rowP d with
    | none => none
    | some x => (rowsP r).map (x :: ·)
theorem rowsP_inv : ∀ {l : List D} {ps : List PEnt}, rowsP l = some ps → l = ps.map PEnt.d ∧ ∀ x ∈ ps, okP x = true
  | [], ps, h => by injection h with h; subst h; exact ⟨rfl, nofun⟩
  | d :: r, ps, h => by
    unfold rowsP at h
    split at h
    · cases h
    · rename_i x hx
      obtain ⟨qs, h1, h2⟩ := Option.map_eq_some_iff.mp h
      subst h2
      obtain ⟨rfl, o⟩ := rowP_inv hx
      obtain ⟨e, o2⟩ := rowsP_inv h1
      refine ⟨by rw [List.map_cons, ← e], fun y hy => ?_⟩
      rcases List.mem_cons.mp hy with rfl | hy
      · exact o
      · exact o2 y hy
theorem rowsP_none : ∀ {l : List D} {d : D}, d ∈ l → rowP d = none → rowsP l = none
  | a :: r, d, h, hd => by
    unfold rowsP
    split
    · rfl
    · rename_i x hx
      rcases List.mem_cons.mp h with rfl | h
      · rw [hd] at hx; cases hx
      · rw [rowsP_none h hd]; rfl
theorem rowsP_all : ∀ {l : List D}, (∀ d ∈ l, rowP d ≠ none) → ∃ ps, rowsP l = some ps
  | [], _ => ⟨_, rfl⟩
  | a :: r, h => by
    obtain ⟨ps, e⟩ := rowsP_all fun d hd => h d (List.mem_cons_of_mem _ hd)
    unfold rowsP
    split
    · rename_i z; exact absurd z (h a List.mem_cons_self)
    · rw [e]; exact ⟨_, rfl⟩
theorem rowP_d {x : PEnt} (h : okP x = true) : rowP x.d = some x := if_pos h
theorem rowsP_map : ∀ {ps : List PEnt} {r : List D}, (∀ x ∈ ps, okP x = true) → rowsP (ps.map PEnt.d ++ r) = (rowsP r).map (ps ++ ·)
  | [], r, _ => by simp
  | x :: ps, r, h => by
    rw [List.map_cons, List.cons_append]
    show (match rowP x.d with | none => none | some x => (rowsP (ps.map PEnt.d ++ r)).map (x :: ·)) = _
    rw [rowP_d (h x List.mem_cons_self), rowsP_map fun y hy => h y (List.mem_cons_of_mem _ hy)]
    cases rowsP r <;> rfl
def chainB (f : PEnt → PEnt → Bool) : List PEnt → Bool
  | x :: y :: r => f x y && chainB f (y :: r)
  | _ => true
def isPaperD : D → Bool
  | .tup l => match rowsP l with
    | some ps => chainB apartF ps
    | none => false
  | _ => false
theorem isPaperD_tup {l : List D} : isPaperD (.tup l) = match rowsP l with | some ps => chainB apartF ps | none => false := rfl
def pairB (f : PEnt → PEnt → Bool) (ps : List PEnt) (i : Nat) : Bool := match ps[i]?, ps[i + 1]? with
  | some x, some y => f x y
  | _, _ => false
theorem chain_range (f : PEnt → PEnt → Bool) : ∀ ps : List PEnt, chainB f ps = (List.range (ps.length - 1)).all (pairB f ps)
  | [] => rfl
  | [_] => rfl
  | x :: y :: r => by
    have ih := chain_range f (y :: r)
    show (f x y && chainB f (y :: r)) = _
    rw [ih]
    show _ = (List.range ((y :: r).length - 1 + 1)).all _
    rw [List.range_succ_eq_map, List.all_cons, List.all_map]
    rfl
theorem chain_bad {f : PEnt → PEnt → Bool} {x y : PEnt} (h : f x y = false) : ∀ {ps r : List PEnt}, chainB f (ps ++ x :: y :: r) = false
  | [], r => by show (f x y && _) = false; rw [h]; rfl
  | [a], r => by
    show (f a x && chainB f (x :: y :: r)) = false
    rw [show chainB f (x :: y :: r) = (f x y && _) from rfl, h]; simp
  | a :: b :: ps, r => by
    show (f a b && chainB f ((b :: ps) ++ x :: y :: r)) = false
    rw [chain_bad h, Bool.and_false]
theorem chain_add {f : PEnt → PEnt → Bool} {x y : PEnt} (h : f x y = true) : ∀ {ps : List PEnt}, chainB f (ps ++ [x]) = true → chainB f (ps ++ [x] ++ [y]) = true
  | [], _ => by show (f x y && true) = true; rw [h]; rfl
  | [a], k => by
    have k : (f a x && true) = true := k
    rw [Bool.and_true] at k
    show (f a x && (f x y && true)) = true
    rw [h, k]; rfl
  | a :: b :: ps, k => by
    have k : (f a b && chainB f ((b :: ps) ++ [x])) = true := k
    rw [Bool.and_eq_true] at k
    show (f a b && chainB f ((b :: ps) ++ [x] ++ [y])) = true
    rw [k.1, chain_add h k.2]; rfl
/-- two rows, as the law looks at them -/
def apartL (x y : PEnt) : Bool := !(decide (y.nm.cps.toList < x.nm.cps.toList) || (decide (y.nm = x.nm) && decide (y.s < x.e))) && !(decide (y.nm = x.nm) && decide (y.s = x.s) && decide (y.s = y.e) && decide (x.s = x.e))
theorem apart_law {x y : PEnt} (hx : okP x = true) (hy : okP y = true) : apartL x y = apartF x y := by
  have hb : ∀ z : PEnt, okP z = true → z.s ≤ z.e := fun z h => by
    unfold okP at h
    rw [Bool.and_eq_true] at h
    obtain ⟨i, j, s, e, _, h2, _⟩ := editD_inv h.2
    cases e; exact h2
  have h1 := hb x hx
  have h2 := hb y hy
  unfold apartL apartF
  by_cases k : x.nm = y.nm
  · rw [if_pos k, k, decide_eq_false (p := y.nm.cps.toList < y.nm.cps.toList) (List.lt_irrefl _), decide_eq_true (p := y.nm = y.nm) rfl]
    by_cases k2 : y.s < x.e
    · simp [k2]
    · rw [if_neg k2]
      simp only [k2, decide_false, Bool.and_false, Bool.or_false, Bool.not_false, Bool.true_and]
      rw [Bool.eq_iff_iff]
      simp only [Bool.not_eq_true', Bool.and_eq_false_iff, Bool.or_eq_true, decide_eq_true_eq, decide_eq_false_iff_not]
      omega
  · rw [if_neg k, decide_eq_false (p := y.nm = x.nm) fun e => k e.symm]
    simp only [Bool.false_and, Bool.or_false, Bool.not_false, Bool.and_true]
    rw [Bool.eq_iff_iff]
    simp only [Bool.not_eq_true', decide_eq_true_eq, decide_eq_false_iff_not]
    exact ⟨fun z => ltS_tri z fun e => k e.symm, fun z z2 => List.lt_asymm z z2⟩
/-! ### promises -/
def sIsName : FSp := fun ds Q E => ∃ n d, ds = [d] ∧ gd n d ∧ Q (.bl (isNameD d))
def sApart : FSp := fun ds Q E => ∃ x y : PEnt, ds = [x.d, y.d] ∧ Q (.bl (apartF x y))
def sIsPaper : FSp := fun ds Q E => ∃ n d, ds = [d] ∧ gd n d ∧ Q (.bl (isPaperD d))
section
variable {Γ : Gm} {E : DX → DEnv → Prop} {Q : D → Prop} {QE : DX → Prop} {ds : List D}
theorem c_is_name {n : Nat} {d : D} (h : gd n d) (q : Q (.bl (isNameD d))) : sIsName [d] Q QE := ⟨n, d, rfl, h, q⟩
theorem c_apart {x y : PEnt} (q : Q (.bl (apartF x y))) : sApart [x.d, y.d] Q QE := ⟨x, y, rfl, q⟩
theorem c_is_paper {n : Nat} {d : D} (h : gd n d) (q : Q (.bl (isPaperD d))) : sIsPaper [d] Q QE := ⟨n, d, rfl, h, q⟩
theorem gd_cases {n : Nat} {d : D} (h : gd n d) : (∃ s, d = .str s ∧ s.length ≤ 1000000) ∨ (∃ l, d = .tup l) ∨ (∃ l, d = .lst l) ∨ (∃ i, d = .int i) ∨ (∃ b, d = .bl b) ∨ d = .non := by
  cases d with
  | str s => exact .inl ⟨s, rfl, by cases n <;> exact h⟩
  | tup l => exact .inr (.inl ⟨_, rfl⟩)
  | lst l => exact .inr (.inr (.inl ⟨_, rfl⟩))
  | int i => exact .inr (.inr (.inr (.inl ⟨_, rfl⟩)))
  | bl i => exact .inr (.inr (.inr (.inr (.inl ⟨_, rfl⟩))))
  | non => exact .inr (.inr (.inr (.inr (.inr rfl))))
  | dct _ => cases n <;> exact h.elim
  | opq _ => cases n <;> exact h.elim
theorem w_is_name (h : sIsName ds Q QE) : wSs Γ E b_is_name (zz Q) (ent0 n_is_name ds) := by
  obtain ⟨n, d, rfl, hd, q⟩ := h
  show wSs Γ E b_is_name _ [.sh d, .un]
  have hs := sizeLine_eq
  rcases gd_cases hd with ⟨s, rfl, hz⟩ | ⟨_, rfl⟩ | ⟨_, rfl⟩ | ⟨_, rfl⟩ | ⟨_, rfl⟩ | rfl
  · (first | (with_reducible refine step_i (by with_unfolding_all rfl) ?_) | ((try simp_arith only [true_and]); with_reducible refine step_i (by with_unfolding_all rfl) ?_)); simp_arith only [true_and]
    refine ⟨by omega, ?_⟩
    have e : isNameD (.str s) = (decide (s.length ≤ 8) && s.cps.toList.all lowC) := rfl
    rw [e] at q
    split
    · rename_i k
      (first | (with_reducible refine step_i (by with_unfolding_all rfl) ?_) | ((try simp_arith only [true_and]); with_reducible refine step_i (by with_unfolding_all rfl) ?_)); simp_arith only [true_and]
      rw [decide_eq_false (p := s.length ≤ 8) (by ((try simp only [decide_eq_true_eq, decide_eq_false_iff_not, Bool.not_eq_true, Bool.not_eq_false, Decidable.not_not, ltB_true, leB_true, eqI_true, eqS_true, eqBl_true, ltB_false, leB_false, eqI_false, eqS_false, eqBl_false] at *); omega)), Bool.false_and] at q
      exact (q)
    · rename_i k
      (first | (with_reducible refine stop_i (by with_unfolding_all rfl) ?_) | (simp_arith only [true_and]; with_reducible refine stop_i (by with_unfolding_all rfl) ?_) | skip)
      rw [decide_eq_true (p := s.length ≤ 8) (by ((try simp only [decide_eq_true_eq, decide_eq_false_iff_not, Bool.not_eq_true, Bool.not_eq_false, Decidable.not_not, ltB_true, leB_true, eqI_true, eqS_true, eqBl_true, ltB_false, leB_false, eqI_false, eqS_false, eqBl_false] at *); omega)), Bool.true_and] at q
      (first | (with_reducible refine step_i (by with_unfolding_all rfl) ?_) | ((try simp_arith only [true_and]); with_reducible refine step_i (by with_unfolding_all rfl) ?_)); simp_arith only [true_and]
      refine lcL_ex (fun d => match d with | .str ⟨⟨[c]⟩⟩ => .bl (lowC c) | _ => .non) (by rw [List.length_map, toL_len]; omega) (fun d acc hd hlt R hR => ?_) ?_
      · obtain ⟨c, _, rfl⟩ := List.mem_map.mp hd
        simp_arith only [e_is_name_0]
        rw [low_mem]
        exact ⟨hlt, hR⟩
      · rw [List.map_map]
        try (try simp_arith only [true_and])
        refine ⟨s.cps.toList.map lowC, ?_, ?_⟩
        · rw [List.map_map]; rfl
        · rw [List.all_map]; exact q
  all_goals ((first | (with_reducible refine step_i (by with_unfolding_all rfl) ?_) | ((try simp_arith only [true_and]); with_reducible refine step_i (by with_unfolding_all rfl) ?_)); simp_arith only [true_and]; (first | (with_reducible refine step_i (by with_unfolding_all rfl) ?_) | ((try simp_arith only [true_and]); with_reducible refine step_i (by with_unfolding_all rfl) ?_)); simp_arith only [true_and]; exact (q))
theorem w_are_apart (h : sApart ds Q QE) : wSs Γ E b_are_apart (zz Q) (ent0 n_are_apart ds) := by
  obtain ⟨x, y, rfl, q⟩ := h
  show wSs Γ E b_are_apart _ [.sh (.tup [.str x.nm, .int x.s, .int x.e, .str x.n]), .sh (.tup [.str y.nm, .int y.s, .int y.e, .str y.n])]
  unfold apartF at q
  (first | (with_reducible refine step_i (by with_unfolding_all rfl) ?_) | ((try simp_arith only [true_and]); with_reducible refine step_i (by with_unfolding_all rfl) ?_)); simp_arith only [true_and]
  split
  rotate_left
  · rename_i k
    rw [if_neg k] at q
    (first | (with_reducible refine step_i (by with_unfolding_all rfl) ?_) | ((try simp_arith only [true_and]); with_reducible refine step_i (by with_unfolding_all rfl) ?_)); simp_arith only [true_and]
    exact (q)
  · rename_i k
    rw [if_pos k] at q
    (first | (with_reducible refine stop_i (by with_unfolding_all rfl) ?_) | (simp_arith only [true_and]; with_reducible refine stop_i (by with_unfolding_all rfl) ?_) | skip)
    (first | (with_reducible refine step_i (by with_unfolding_all rfl) ?_) | ((try simp_arith only [true_and]); with_reducible refine step_i (by with_unfolding_all rfl) ?_)); simp_arith only [true_and]
    split
    · rename_i k
      rw [if_pos (by ((try simp only [decide_eq_true_eq, decide_eq_false_iff_not, Bool.not_eq_true, Bool.not_eq_false, Decidable.not_not, ltB_true, leB_true, eqI_true, eqS_true, eqBl_true, ltB_false, leB_false, eqI_false, eqS_false, eqBl_false] at *); omega))] at q
      (first | (with_reducible refine step_i (by with_unfolding_all rfl) ?_) | ((try simp_arith only [true_and]); with_reducible refine step_i (by with_unfolding_all rfl) ?_)); simp_arith only [true_and]
      exact (q)
    · rename_i k
      rw [if_neg (by ((try simp only [decide_eq_true_eq, decide_eq_false_iff_not, Bool.not_eq_true, Bool.not_eq_false, Decidable.not_not, ltB_true, leB_true, eqI_true, eqS_true, eqBl_true, ltB_false, leB_false, eqI_false, eqS_false, eqBl_false] at *); omega))] at q
      (first | (with_reducible refine stop_i (by with_unfolding_all rfl) ?_) | (simp_arith only [true_and]; with_reducible refine stop_i (by with_unfolding_all rfl) ?_) | skip)
      (first | (with_reducible refine step_i (by with_unfolding_all rfl) ?_) | ((try simp_arith only [true_and]); with_reducible refine step_i (by with_unfolding_all rfl) ?_)); simp_arith only [true_and]
      split
      · rename_i k1
        refine (?_)
        rw [decide_eq_true (p := x.s < x.e) (by ((try simp only [decide_eq_true_eq, decide_eq_false_iff_not, Bool.not_eq_true, Bool.not_eq_false, Decidable.not_not, ltB_true, leB_true, eqI_true, eqS_true, eqBl_true, ltB_false, leB_false, eqI_false, eqS_false, eqBl_false] at *); omega))] at q
        exact q
      · rename_i k1
        rw [decide_eq_false (p := x.s < x.e) (by ((try simp only [decide_eq_true_eq, decide_eq_false_iff_not, Bool.not_eq_true, Bool.not_eq_false, Decidable.not_not, ltB_true, leB_true, eqI_true, eqS_true, eqBl_true, ltB_false, leB_false, eqI_false, eqS_false, eqBl_false] at *); omega)), Bool.false_or] at q
        split
        · rename_i k2
          rw [decide_eq_true (p := y.s < y.e) (by ((try simp only [decide_eq_true_eq, decide_eq_false_iff_not, Bool.not_eq_true, Bool.not_eq_false, Decidable.not_not, ltB_true, leB_true, eqI_true, eqS_true, eqBl_true, ltB_false, leB_false, eqI_false, eqS_false, eqBl_false] at *); omega))] at q
          exact (q)
        · rename_i k2
          rw [decide_eq_false (p := y.s < y.e) (by ((try simp only [decide_eq_true_eq, decide_eq_false_iff_not, Bool.not_eq_true, Bool.not_eq_false, Decidable.not_not, ltB_true, leB_true, eqI_true, eqS_true, eqBl_true, ltB_false, leB_false, eqI_false, eqS_false, eqBl_false] at *); omega)), Bool.false_or] at q
          exact (q)
theorem cut14 {w x y z : D} : cutD [w, x, y, z] (some 1) none = [x, y, z] := rfl
theorem gd_mem {n : Nat} {l : List D} {d : D} (h : gd n (.tup l)) (hd : d ∈ l) : ∃ m, n = m + 1 ∧ gd m d := by
  cases n with
  | zero => exact h.elim
  | succ m => exact ⟨m, rfl, h.2 d hd⟩
theorem w_is_paper (g25 : Γ.f 25 = sIsName) (g2 : Γ.f 2 = sIsEdit) (g26 : Γ.f 26 = sApart) (h : sIsPaper ds Q QE) : wSs Γ E b_is_paper (zz Q) (ent0 n_is_paper ds) := by
  obtain ⟨n, d, rfl, hd, q⟩ := h
  show wSs Γ E b_is_paper _ [.sh d, .un, .un]
  have hs := sizeLine_eq
  rcases gd_cases hd with ⟨_, rfl, _⟩ | ⟨l, rfl⟩ | ⟨_, rfl⟩ | ⟨_, rfl⟩ | ⟨_, rfl⟩ | rfl
  rotate_left
  · have hlen : l.length ≤ 10000 := by cases n with
      | zero => exact hd.elim
      | succ m => exact hd.1
    (first | (with_reducible refine step_i (by with_unfolding_all rfl) ?_) | ((try simp_arith only [true_and]); with_reducible refine step_i (by with_unfolding_all rfl) ?_)); simp_arith only [true_and]
    (first | (with_reducible refine stop_i (by with_unfolding_all rfl) ?_) | (simp_arith only [true_and]; with_reducible refine stop_i (by with_unfolding_all rfl) ?_) | skip)
    (first | (with_reducible refine step_i (by with_unfolding_all rfl) ?_) | ((try simp_arith only [true_and]); with_reducible refine step_i (by with_unfolding_all rfl) ?_)); simp_arith only [true_and]
    refine forL_i (fun ds ρ => ∃ (done : List D) (x : Sl), l = done ++ ds ∧ ρ = [.sh (.tup l), x, .un] ∧ ∀ d ∈ done, rowP d ≠ none) ?_ ?_ _ _ ⟨[], .un, rfl, rfl, nofun⟩
    · rintro ρ ⟨done, x, e, rfl, ho⟩
      rw [List.append_nil] at e
      subst e
      obtain ⟨ps, hps⟩ := rowsP_all ho
      obtain ⟨e, hok⟩ := rowsP_inv hps
      have qe : isPaperD (.tup l) = chainB apartF ps := by rw [isPaperD_tup, hps]
      rw [qe, chain_range] at q
      subst e
      rw [List.length_map] at hlen
      (first | (with_reducible refine step_i (by with_unfolding_all rfl) ?_) | ((first | simp_arith only [List.length_map] | simp_arith only [true_and] | skip); with_reducible refine step_i (by with_unfolding_all rfl) ?_)); simp_arith only [List.length_map]
      refine ⟨by omega, by omega, ?_⟩
      have e1 : ((ps.length : Int) - 1).toNat = ps.length - 1 := by omega
      rw [e1]
      refine lcL_ex (fun d => match d with | .int i => .bl (pairB apartF ps i.toNat) | _ => .non) (by rw [List.length_map, List.length_range]; omega) (fun d acc hd hlt R hR => ?_) ?_
      · obtain ⟨i, hi, rfl⟩ := List.mem_map.mp hd
        rw [List.mem_range] at hi
        have a1 : atI (ps.map PEnt.d) (i : Int) = some (ps[i]).d := atI_nat (by rw [List.getElem?_map, List.getElem?_eq_getElem (by omega)]; rfl)
        have a2 : atI (ps.map PEnt.d) ((i : Int) + 1) = some (ps[i + 1]).d := atI_nat (j := i + 1) (by rw [List.getElem?_map, List.getElem?_eq_getElem (by omega)]; rfl)
        simp_arith only [e_is_paper_0, a1, a2, g26]
        refine c_apart ?_; (first | simp_arith only [List.length_map] | simp_arith only [true_and] | skip)
        have z : pairB apartF ps i = apartF ps[i] ps[i + 1] := by unfold pairB; rw [List.getElem?_eq_getElem (by omega), List.getElem?_eq_getElem (by omega)]
        simp only [Int.toNat_natCast, z] at hR
        exact ⟨hlt, hR⟩
      · rw [List.map_map]
        try (first | simp_arith only [List.length_map] | simp_arith only [true_and] | skip)
        refine ⟨(List.range (ps.length - 1)).map (pairB apartF ps), ?_, ?_⟩
        · rw [List.map_map]; rfl
        · rw [List.all_map]; exact q
    · rintro d ds ρ ⟨done, x, e, rfl, ho⟩ N hN
      have hm : d ∈ l := by rw [e]; simp
      obtain ⟨m, rfl, hg⟩ := gd_mem hd hm
      have bad : rowP d = none → Q (.bl false) := fun k => by
        have z : isPaperD (.tup l) = false := by rw [isPaperD_tup, rowsP_none hm k]
        rw [z] at q; exact q
      have good : rowP d ≠ none → N [.sh (.tup l), .sh d, .un] := fun k => hN _ ⟨done ++ [d], _, by rw [e]; simp, rfl, fun y hy => by
        rcases List.mem_append.mp hy with hy | hy
        · exact ho y hy
        · rw [List.mem_singleton.mp hy]; exact k⟩
      (first | simp_arith only [List.length_map] | simp_arith only [true_and] | skip)
      rcases gd_cases hg with ⟨_, rfl, _⟩ | ⟨r, rfl⟩ | ⟨_, rfl⟩ | ⟨_, rfl⟩ | ⟨_, rfl⟩ | rfl
      rotate_left
      · have other : r.length ≠ 4 → wSs Γ E b_is_paper_2 { nx := N, rt := fun d _ => Q d, bk := wSs Γ E b_is_paper_0 (zz Q), ct := N } [.sh (.tup l), .sh (.tup r), .un] := fun kl => by
          (first | (with_reducible refine step_i (by with_unfolding_all rfl) ?_) | ((try simp_arith only [true_and]); with_reducible refine step_i (by with_unfolding_all rfl) ?_)); simp_arith only [true_and]
          rw [if_neg (by omega)]
          (first | (with_reducible refine step_i (by with_unfolding_all rfl) ?_) | ((try simp_arith only [true_and]); with_reducible refine step_i (by with_unfolding_all rfl) ?_)); simp_arith only [true_and]
          exact (bad (rowP_len kl))
        rcases r with _ | ⟨a, _ | ⟨b, _ | ⟨c, _ | ⟨f, _ | ⟨_, r⟩⟩⟩⟩⟩
        · exact other (by simp)
        · exact other (by simp)
        · exact other (by simp)
        · exact other (by simp)
        · obtain ⟨m, rfl, ga⟩ := gd_mem hg (d := a) (by simp)
          (first | (with_reducible refine step_i (by with_unfolding_all rfl) ?_) | ((first | simp_arith only [List.length_cons, List.length_nil, g25, g2, cut14] | simp_arith only [true_and] | skip); with_reducible refine step_i (by with_unfolding_all rfl) ?_)); simp_arith only [List.length_cons, List.length_nil, g25, g2, cut14]
          refine c_is_name ga ?_; (first | simp_arith only [List.length_cons, List.length_nil, g25, g2, cut14] | simp_arith only [true_and] | skip)
          (first | simp_arith only [List.length_cons, List.length_nil, g25, g2, cut14] | simp_arith only [true_and] | skip)
          split
          · rename_i k
            (first | (with_reducible refine step_i (by with_unfolding_all rfl) ?_) | ((try simp_arith only [true_and]); with_reducible refine step_i (by with_unfolding_all rfl) ?_)); simp_arith only [true_and]
            exact (bad (rowP_none (by rw [k, Bool.false_and])))
          · rename_i k
            rw [Bool.not_eq_false] at k
            refine c_is_edit ?_ ?_; (first | simp_arith only [List.length_cons, List.length_nil, g25, g2, cut14] | simp_arith only [true_and] | skip)
            · exact gd_ok1 (n := m + 1) ⟨by simp, fun y hy => by
                have : y ∈ [a, b, c, f] := List.mem_cons_of_mem _ hy
                exact hg.2 y this⟩
            · (first | simp_arith only [List.length_cons, List.length_nil, g25, g2, cut14] | simp_arith only [true_and] | skip)
              split
              · rename_i k2
                (first | (with_reducible refine step_i (by with_unfolding_all rfl) ?_) | ((try simp_arith only [true_and]); with_reducible refine step_i (by with_unfolding_all rfl) ?_)); simp_arith only [true_and]
                exact (bad (rowP_none (by rw [k2, Bool.and_false])))
              · rename_i k2
                rw [Bool.not_eq_false] at k2
                (first | (with_reducible refine stop_i (by with_unfolding_all rfl) ?_) | (simp_arith only [true_and]; with_reducible refine stop_i (by with_unfolding_all rfl) ?_) | skip)
                (first | (with_reducible refine stop_i (by with_unfolding_all rfl) ?_) | (simp_arith only [true_and]; with_reducible refine stop_i (by with_unfolding_all rfl) ?_) | skip)
                obtain ⟨x, hx, _⟩ := rowP_some k k2
                exact good (by rw [hx]; nofun)
        · exact other (by simp only [List.length_cons]; omega)
      all_goals ((first | (with_reducible refine step_i (by with_unfolding_all rfl) ?_) | ((try simp_arith only [true_and]); with_reducible refine step_i (by with_unfolding_all rfl) ?_)); simp_arith only [true_and]; (first | (with_reducible refine step_i (by with_unfolding_all rfl) ?_) | ((try simp_arith only [true_and]); with_reducible refine step_i (by with_unfolding_all rfl) ?_)); simp_arith only [true_and]; exact (bad rfl))
  all_goals ((first | (with_reducible refine step_i (by with_unfolding_all rfl) ?_) | ((try simp_arith only [true_and]); with_reducible refine step_i (by with_unfolding_all rfl) ?_)); simp_arith only [true_and]; (first | (with_reducible refine step_i (by with_unfolding_all rfl) ?_) | ((try simp_arith only [true_and]); with_reducible refine step_i (by with_unfolding_all rfl) ?_)); simp_arith only [true_and]; exact (q))
end
end DL
/-! V_chg: texts changed by a paper -/
namespace DL
open PySem PySem.Spec PyProof.Rows L2
def prD (p : Str × Str) : D := .tup [.str p.1, .str p.2]
def chF : List PEnt → Str → Str → Str
  | [], _, t => t
  | x :: r, nm, t => if x.nm = nm then cutS (chF r nm t) none (some x.s) ++ x.n ++ cutS (chF r nm t) (some x.e) none else chF r nm t
theorem chF_cons {x : PEnt} {r : List PEnt} {nm t : Str} : chF (x :: r) nm t = if x.nm = nm then cutS (chF r nm t) none (some x.s) ++ x.n ++ cutS (chF r nm t) (some x.e) none else chF r nm t := rfl
theorem cut_two {t : Str} {s e : Int} (h0 : 0 ≤ s) (h1 : s ≤ e) : (cutS t none (some s)).length + (cutS t (some e) none).length ≤ t.length := by
  obtain ⟨s, rfl⟩ := Int.eq_ofNat_of_zero_le h0
  obtain ⟨e, rfl⟩ := Int.eq_ofNat_of_zero_le (Int.le_trans h0 h1)
  rw [← toL_len, ← toL_len, ← toL_len]
  unfold cutS
  rw [HT.sIx_nat, HT.sIx_nat, HT.sIx_none, HT.sIx_none, List.toList_toArray, List.toList_toArray, List.length_take, List.length_take, List.length_drop, List.length_drop, toL_len]
  omega
theorem chF_len {nm t : Str} : ∀ {ps : List PEnt}, (∀ x ∈ ps, x.n.length ≤ 1000 ∧ 0 ≤ x.s ∧ x.s ≤ x.e) → (chF ps nm t).length ≤ t.length + 1000 * ps.length
  | [], _ => by show t.length ≤ _; omega
  | x :: r, h => by
    have ih := chF_len (nm := nm) (t := t) fun y hy => h y (List.mem_cons_of_mem _ hy)
    have hx := h x List.mem_cons_self
    have c := cut_two (t := chF r nm t) hx.2.1 hx.2.2
    rw [chF_cons, List.length_cons]
    split
    · rw [len_app, len_app]; omega
    · omega
def okCh (ps : List PEnt) : Prop := ps.length ≤ 100 ∧ ∀ x ∈ ps, x.n.length ≤ 1000 ∧ 0 ≤ x.s ∧ x.s ≤ x.e
def sChanged : FSp := fun ds Q E => ∃ (T : D) (l : List (Str × Str)) (ps : List PEnt), ds = [T, .tup (ps.map PEnt.d)] ∧ (T = .lst (l.map prD) ∨ T = .tup (l.map prD)) ∧ l.length ≤ 1000 ∧ (∀ p ∈ l, p.2.length ≤ 10000) ∧ okCh ps ∧ Q (.tup (l.map fun p => prD (p.1, chF ps p.1 p.2)))
section
variable {Γ : Gm} {E : DX → DEnv → Prop} {Q : D → Prop} {QE : DX → Prop} {ds : List D}
theorem c_changed {T : D} {l : List (Str × Str)} {ps : List PEnt} (hT : T = .lst (l.map prD) ∨ T = .tup (l.map prD)) (hl : l.length ≤ 1000) (ht : ∀ p ∈ l, p.2.length ≤ 10000) (hp : okCh ps) (q : Q (.tup (l.map fun p => prD (p.1, chF ps p.1 p.2)))) : sChanged [T, .tup (ps.map PEnt.d)] Q QE := ⟨T, l, ps, rfl, hT, hl, ht, hp, q⟩
theorem w_changed_by (h : sChanged ds Q QE) : wSs Γ E b_changed_by (zz Q) (ent0 n_changed_by ds) := by
  obtain ⟨T, l, ps, rfl, hT, hl, ht, ⟨hp, hq⟩, q⟩ := h
  show wSs Γ E b_changed_by _ [.sh T, .sh (.tup (ps.map PEnt.d)), .un, .un, .un, .un]
  have hs := sizeLine_eq
  have loop : forL (wG (.tup [.nm 3, .nm 4])) (wSs Γ E b_changed_by_4) { nx := wSs Γ E b_changed_by_0 (zz Q), rt := fun d _ => Q d } (l.map prD) [.sh T, .sh (.tup (ps.map PEnt.d)), .own none [], .un, .un, .un] := by
    refine forL_i (fun ds ρ => ∃ (done rest : List (Str × Str)) (s3 s4 s5 : Sl), l = done ++ rest ∧ ds = rest.map prD ∧ ρ = [.sh T, .sh (.tup (ps.map PEnt.d)), .own none (done.map fun p => prD (p.1, chF ps p.1 p.2)), s3, s4, s5]) ?_ ?_ _ _ ⟨[], l, .un, .un, .un, rfl, rfl, rfl⟩
    · rintro ρ ⟨done, rest, s3, s4, s5, e, e2, rfl⟩
      cases rest with
      | cons _ _ => cases e2
      | nil =>
        rw [List.append_nil] at e
        subst e
        (first | (with_reducible refine step_i (by with_unfolding_all rfl) ?_) | ((try simp_arith only [true_and]); with_reducible refine step_i (by with_unfolding_all rfl) ?_)); simp_arith only [true_and]
        exact (q)
    · rintro d ds ρ ⟨done, rest, s3, s4, s5, e, e2, rfl⟩ N hN
      cases rest with
      | nil => cases e2
      | cons p rest =>
        rw [List.map_cons] at e2
        injection e2 with e3 e4
        subst e3 e4
        have hpt : p.2.length ≤ 10000 := ht p (by rw [e]; simp)
        have hd : done.length ≤ 1000 := by
          have := congrArg List.length e
          rw [List.length_append] at this
          omega
        simp_arith only [prD]
        (first | (with_reducible refine step_i (by with_unfolding_all rfl) ?_) | ((try simp_arith only [true_and]); with_reducible refine step_i (by with_unfolding_all rfl) ?_)); simp_arith only [true_and]
        rw [← List.map_reverse]
        refine forL_i (fun ds ρ => ∃ (dn rs : List PEnt) (s5 : Sl), ps.reverse = dn ++ rs ∧ ds = rs.map PEnt.d ∧ ρ = [.sh T, .sh (.tup (ps.map PEnt.d)), .own none (done.map fun p => prD (p.1, chF ps p.1 p.2)), .sh (.str p.1), .sh (.str (chF dn.reverse p.1 p.2)), s5]) ?_ ?_ _ _ ⟨[], ps.reverse, s5, rfl, rfl, rfl⟩
        · rintro ρ ⟨dn, rs, s5, k, k2, rfl⟩
          cases rs with
          | cons _ _ => cases k2
          | nil =>
            rw [List.append_nil] at k
            rw [← k, List.reverse_reverse]
            (first | (with_reducible refine step_i (by with_unfolding_all rfl) ?_) | ((try simp_arith only [true_and]); with_reducible refine step_i (by with_unfolding_all rfl) ?_)); simp_arith only [true_and]
            refine ⟨sz (by simp), by rw [List.length_map]; omega, ?_⟩
            (first | (with_reducible refine stop_i (by with_unfolding_all rfl) ?_) | (simp_arith only [true_and]; with_reducible refine stop_i (by with_unfolding_all rfl) ?_) | skip)
            exact hN _ ⟨done ++ [p], rest, _, _, _, by rw [e]; simp, rfl, by rw [List.map_append]; rfl⟩
        · rintro d ds ρ ⟨dn, rs, s5, k, k2, rfl⟩ N2 hN2
          cases rs with
          | nil => cases k2
          | cons x rs =>
            rw [List.map_cons] at k2
            injection k2 with k3 k4
            subst k3 k4
            have xd : x.d = .tup [.str x.nm, .int x.s, .int x.e, .str x.n] := rfl
            have kr : ps = rs.reverse ++ x :: dn.reverse := by
              have := congrArg List.reverse k
              simpa using this
            have hx := hq x (by rw [kr]; simp)
            have hdl : (dn.reverse).length ≤ 100 := by
              have := congrArg List.length kr
              rw [List.length_append, List.length_cons] at this
              omega
            have hc := chF_len (nm := p.1) (t := p.2) (ps := dn.reverse) fun y hy => hq y (by rw [kr]; simp at hy ⊢; exact .inr (.inr hy))
            have c2 := cut_two (t := chF dn.reverse p.1 p.2) hx.2.1 hx.2.2
            have ec : chF (dn ++ [x]).reverse p.1 p.2 = if x.nm = p.1 then cutS (chF dn.reverse p.1 p.2) none (some x.s) ++ x.n ++ cutS (chF dn.reverse p.1 p.2) (some x.e) none else chF dn.reverse p.1 p.2 := by
              rw [List.reverse_append]; rfl
            (try simp_arith only [true_and])
            (first | (with_reducible refine step_i (by with_unfolding_all rfl) ?_) | ((first | simp_arith only [xd] | simp_arith only [true_and] | skip); with_reducible refine step_i (by with_unfolding_all rfl) ?_)); simp_arith only [xd]
            split
            · rename_i kn
              rw [if_pos kn] at ec
              (first | (with_reducible refine step_i (by with_unfolding_all rfl) ?_) | ((first | simp_arith only [xd] | simp_arith only [true_and] | skip); with_reducible refine step_i (by with_unfolding_all rfl) ?_)); simp_arith only [xd]
              refine ⟨by omega, by omega, by omega, by rw [len_app]; omega, ?_⟩
              (first | (with_reducible refine stop_i (by with_unfolding_all rfl) ?_) | (simp_arith only [true_and]; with_reducible refine stop_i (by with_unfolding_all rfl) ?_) | skip)
              (first | (with_reducible refine stop_i (by with_unfolding_all rfl) ?_) | (simp_arith only [true_and]; with_reducible refine stop_i (by with_unfolding_all rfl) ?_) | skip)
              refine hN2 _ ⟨dn ++ [x], rs, .sh x.d, by rw [k]; simp, rfl, ?_⟩
              rw [ec]; rfl
            · rename_i kn
              rw [if_neg kn] at ec
              (first | (with_reducible refine stop_i (by with_unfolding_all rfl) ?_) | (simp_arith only [true_and]; with_reducible refine stop_i (by with_unfolding_all rfl) ?_) | skip)
              (first | (with_reducible refine stop_i (by with_unfolding_all rfl) ?_) | (simp_arith only [true_and]; with_reducible refine stop_i (by with_unfolding_all rfl) ?_) | skip)
              refine hN2 _ ⟨dn ++ [x], rs, .sh x.d, by rw [k]; simp, rfl, ?_⟩
              rw [ec]; rfl
  rcases hT with rfl | rfl
  · (first | (with_reducible refine step_i (by with_unfolding_all rfl) ?_) | ((try simp_arith only [true_and]); with_reducible refine step_i (by with_unfolding_all rfl) ?_)); simp_arith only [true_and]
    refine ⟨sz (by simp), ?_⟩
    (first | (with_reducible refine step_i (by with_unfolding_all rfl) ?_) | ((try simp_arith only [true_and]); with_reducible refine step_i (by with_unfolding_all rfl) ?_)); simp_arith only [true_and]
    exact loop
  · (first | (with_reducible refine step_i (by with_unfolding_all rfl) ?_) | ((try simp_arith only [true_and]); with_reducible refine step_i (by with_unfolding_all rfl) ?_)); simp_arith only [true_and]
    refine ⟨sz (by simp), ?_⟩
    (first | (with_reducible refine step_i (by with_unfolding_all rfl) ?_) | ((try simp_arith only [true_and]); with_reducible refine step_i (by with_unfolding_all rfl) ?_)); simp_arith only [true_and]
    exact loop
end
end DL
/-! V_l25: what the law k25 looks at by itself -/
namespace DL
open PySem PySem.Spec PyProof.Rows L2
def sLNum : FSp := fun ds Q E => ∃ d, ds = [d] ∧ okD d = true ∧ Q (.bl (isNumD d))
def sLEdit : FSp := fun ds Q E => ∃ n d, ds = [d] ∧ gd n d ∧ Q (.bl (isEditD d))
section
variable {Γ : Gm} {E : DX → DEnv → Prop} {Q : D → Prop} {QE : DX → Prop} {ds : List D}
theorem c_lnum {d : D} (h : okD d = true) (q : Q (.bl (isNumD d))) : sLNum [d] Q QE := ⟨d, rfl, h, q⟩
theorem c_ledit {n : Nat} {d : D} (h : gd n d) (q : Q (.bl (isEditD d))) : sLEdit [d] Q QE := ⟨n, d, rfl, h, q⟩
theorem w_law_is_number (h : sLNum ds Q QE) : wSs Γ E b_law_is_number (zz Q) (ent0 n_law_is_number ds) := by
  obtain ⟨d, rfl, hd, q⟩ := h
  show wSs Γ E b_law_is_number _ [.sh d]
  (first | (with_reducible refine step_i (by with_unfolding_all rfl) ?_) | ((try simp_arith only [true_and]); with_reducible refine step_i (by with_unfolding_all rfl) ?_)); simp_arith only [true_and]
  cases d <;> first | (cases hd; done) | skip
  all_goals (simp_arith only [tyD, exists_eq_left', subTy, List.any_cons, List.any_nil, Bool.or_false]; simp [isNumD] at q ⊢; exact q)
theorem not_t {b : Bool} (h : ¬ b = true) : (!b) = true := by rw [Bool.not_eq_true'] ; exact Bool.not_eq_true _ ▸ h
theorem row_iff {c : Nat} : c ∈ signsK.cps.toList ↔ okRow c = true := by rw [← row_mem, decide_eq_true_eq]
theorem low_iff {c : Nat} : c ∈ (Str.ofString "abcdefghijklmnopqrstuvwxyz").cps.toList ↔ lowC c = true := by rw [← low_mem, decide_eq_true_eq]
theorem all_filter {p : Nat → Bool} {l : List Nat} : eqI ((l.filter fun c => !p c).length : Int) 0 = l.all p := by
  rw [Bool.eq_iff_iff, eqI_true, List.all_eq_true]
  constructor
  · intro h x hx
    have : l.filter (fun c => !p c) = [] := List.eq_nil_of_length_eq_zero (by omega)
    have := List.filter_eq_nil_iff.mp this x hx
    simpa using this
  · intro h
    rw [List.filter_eq_nil_iff.mpr fun x hx => by rw [h x hx]; exact Bool.false_ne_true]; rfl
theorem filter_signs {p : Nat → Bool} {l : List Nat} : ((l.map fun c => D.str ⟨#[c]⟩).filter fun d => match d with | .str ⟨⟨[c]⟩⟩ => !p c | _ => false).length = (l.filter fun c => !p c).length := by
  rw [List.filter_map, List.length_map]; rfl
theorem gd_tup {n : Nat} {l : List D} (h : gd n (.tup l)) : l.length ≤ 10000 ∧ ∃ m, n = m + 1 ∧ ∀ x ∈ l, gd m x := by
  cases n with
  | zero => exact h.elim
  | succ m => exact ⟨h.1, m, rfl, h.2⟩
theorem w_law_is_edit (g35 : Γ.f 35 = sLNum) (g14 : Γ.f 14 = sSigns) (h : sLEdit ds Q QE) : wSs Γ E b_law_is_edit (zz Q) (ent0 n_law_is_edit ds) := by
  obtain ⟨n, d, rfl, hd, q⟩ := h
  show wSs Γ E b_law_is_edit _ [.sh d, .un]
  have hs := sizeLine_eq
  rcases gd_cases hd with ⟨_, rfl, _⟩ | ⟨l, rfl⟩ | ⟨_, rfl⟩ | ⟨_, rfl⟩ | ⟨_, rfl⟩ | rfl
  rotate_left
  · obtain ⟨_, m, rfl, hx⟩ := gd_tup hd
    have other : l.length ≠ 3 → wSs Γ E b_law_is_edit (zz Q) [.sh (.tup l), .un] := fun k => by
      have z : isEditD (.tup l) = false := by
        unfold isEditD
        split
        · rename_i e; injection e with e; rw [e] at k; exact absurd rfl k
        · rfl
      rw [z] at q
      (first | (with_reducible refine step_i (by with_unfolding_all rfl) ?_) | ((try simp_arith only [true_and]); with_reducible refine step_i (by with_unfolding_all rfl) ?_)); simp_arith only [true_and]
      rw [if_neg (by omega)]
      (first | (with_reducible refine step_i (by with_unfolding_all rfl) ?_) | ((try simp_arith only [true_and]); with_reducible refine step_i (by with_unfolding_all rfl) ?_)); simp_arith only [true_and]
      exact (q)
    rcases l with _ | ⟨a, _ | ⟨b, _ | ⟨c, _ | ⟨f, r⟩⟩⟩⟩
    · exact other (by simp)
    · exact other (by simp)
    · exact other (by simp)
    · have ha := hx a (by simp)
      have hb := hx b (by simp)
      have hc := hx c (by simp)
      (first | (with_reducible refine step_i (by with_unfolding_all rfl) ?_) | ((first | simp_arith only [List.length_cons, List.length_nil, g35] | simp_arith only [true_and] | skip); with_reducible refine step_i (by with_unfolding_all rfl) ?_)); simp_arith only [List.length_cons, List.length_nil, g35]
      refine c_lnum (gd_ok ha) ?_; (first | simp_arith only [List.length_cons, List.length_nil, g35] | simp_arith only [true_and] | skip)
      (first | simp_arith only [List.length_cons, List.length_nil, g35] | simp_arith only [true_and] | skip)
      have bad : isEditD (.tup [a, b, c]) = false → Q (.bl false) := fun k => by rw [k] at q; exact q
      split
      · rename_i k
        (first | (with_reducible refine step_i (by with_unfolding_all rfl) ?_) | ((try simp_arith only [true_and]); with_reducible refine step_i (by with_unfolding_all rfl) ?_)); simp_arith only [true_and]
        exact (bad (by simp only [isEditD, k, Bool.false_and]))
      · rename_i k
        refine c_lnum (gd_ok hb) ?_; (first | simp_arith only [List.length_cons, List.length_nil, g35] | simp_arith only [true_and] | skip)
        (first | simp_arith only [List.length_cons, List.length_nil, g35] | simp_arith only [true_and] | skip)
        split
        · rename_i k2
          (first | (with_reducible refine step_i (by with_unfolding_all rfl) ?_) | ((try simp_arith only [true_and]); with_reducible refine step_i (by with_unfolding_all rfl) ?_)); simp_arith only [true_and]
          exact (bad (by simp only [isEditD, k2, Bool.false_and, Bool.and_false]))
        · rename_i k2
          (first | (with_reducible refine stop_i (by with_unfolding_all rfl) ?_) | (simp_arith only [true_and]; with_reducible refine stop_i (by with_unfolding_all rfl) ?_) | skip)
          rw [Bool.not_eq_false] at k k2
          obtain ⟨i, rfl, hi⟩ := numD_int k
          obtain ⟨j, rfl, hj⟩ := numD_int k2
          have e : isEditD (.tup [.int i, .int j, c]) = (decide (i ≤ j) && isRowD c) := by
            simp only [isEditD, k, k2, Bool.true_and]
          rw [e] at q
          (first | (with_reducible refine step_i (by with_unfolding_all rfl) ?_) | ((try simp_arith only [true_and]); with_reducible refine step_i (by with_unfolding_all rfl) ?_)); simp_arith only [true_and]
          split
          · rename_i k3
            (first | (with_reducible refine step_i (by with_unfolding_all rfl) ?_) | ((try simp_arith only [true_and]); with_reducible refine step_i (by with_unfolding_all rfl) ?_)); simp_arith only [true_and]
            rw [decide_eq_false (p := i ≤ j) (by ((try simp only [decide_eq_true_eq, decide_eq_false_iff_not, Bool.not_eq_true, Bool.not_eq_false, Decidable.not_not, ltB_true, leB_true, eqI_true, eqS_true, eqBl_true, ltB_false, leB_false, eqI_false, eqS_false, eqBl_false] at *); omega)), Bool.false_and] at q
            exact (q)
          · rename_i k3
            rw [decide_eq_true (p := i ≤ j) (by ((try simp only [decide_eq_true_eq, decide_eq_false_iff_not, Bool.not_eq_true, Bool.not_eq_false, Decidable.not_not, ltB_true, leB_true, eqI_true, eqS_true, eqBl_true, ltB_false, leB_false, eqI_false, eqS_false, eqBl_false] at *); omega)), Bool.true_and] at q
            rcases gd_cases hc with ⟨s, rfl, hz⟩ | ⟨_, rfl⟩ | ⟨_, rfl⟩ | ⟨_, rfl⟩ | ⟨_, rfl⟩ | rfl
            · (first | simp_arith only [List.length_cons, List.length_nil, g35] | simp_arith only [true_and] | skip)
              (first | (with_reducible refine stop_i (by with_unfolding_all rfl) ?_) | (simp_arith only [true_and]; with_reducible refine stop_i (by with_unfolding_all rfl) ?_) | skip)
              (first | (with_reducible refine step_i (by with_unfolding_all rfl) ?_) | ((try simp_arith only [true_and]); with_reducible refine step_i (by with_unfolding_all rfl) ?_)); simp_arith only [true_and]
              refine lcL_filter (fun d => match d with | .str ⟨⟨[c]⟩⟩ => !okRow c | _ => false) id (by rw [List.length_map, toL_len]; omega) (fun d acc hd hlt R h1 h2 => ?_) ?_
              · obtain ⟨c, _, rfl⟩ := List.mem_map.mp hd
                simp_arith only [t_law_is_edit_0, e_law_is_edit_0, g14, sSigns]
                split
                · rename_i kc
                  exact h2 (by show (!okRow c) = false; rw [row_iff.mp kc]; rfl)
                · rename_i kc
                  exact ⟨hlt, h1 (not_t fun z => kc (row_iff.mpr z))⟩
              · rw [List.map_id]
                try (first | simp_arith only [List.length_cons, List.length_nil, g35] | simp_arith only [true_and] | skip)
                rw [filter_signs]
                refine (?_)
                rw [all_filter]
                exact q
            all_goals ((first | simp_arith only [List.length_cons, List.length_nil, g35] | simp_arith only [true_and] | skip); (first | (with_reducible refine step_i (by with_unfolding_all rfl) ?_) | ((try simp_arith only [true_and]); with_reducible refine step_i (by with_unfolding_all rfl) ?_)); simp_arith only [true_and]; exact (q))
    · exact other (by simp only [List.length_cons]; omega)
  all_goals ((first | (with_reducible refine step_i (by with_unfolding_all rfl) ?_) | ((try simp_arith only [true_and]); with_reducible refine step_i (by with_unfolding_all rfl) ?_)); simp_arith only [true_and]; (first | (with_reducible refine step_i (by with_unfolding_all rfl) ?_) | ((try simp_arith only [true_and]); with_reducible refine step_i (by with_unfolding_all rfl) ?_)); simp_arith only [true_and]; exact (q))
theorem w_law_is_name (h : sIsName ds Q QE) : wSs Γ E b_law_is_name (zz Q) (ent0 n_law_is_name ds) := by
  obtain ⟨n, d, rfl, hd, q⟩ := h
  show wSs Γ E b_law_is_name _ [.sh d, .un]
  have hs := sizeLine_eq
  rcases gd_cases hd with ⟨s, rfl, hz⟩ | ⟨_, rfl⟩ | ⟨_, rfl⟩ | ⟨_, rfl⟩ | ⟨_, rfl⟩ | rfl
  · (first | (with_reducible refine step_i (by with_unfolding_all rfl) ?_) | ((try simp_arith only [true_and]); with_reducible refine step_i (by with_unfolding_all rfl) ?_)); simp_arith only [true_and]
    refine ⟨by omega, ?_⟩
    have e : isNameD (.str s) = (decide (s.length ≤ 8) && s.cps.toList.all lowC) := rfl
    rw [e] at q
    split
    · rename_i k
      (first | (with_reducible refine step_i (by with_unfolding_all rfl) ?_) | ((try simp_arith only [true_and]); with_reducible refine step_i (by with_unfolding_all rfl) ?_)); simp_arith only [true_and]
      rw [decide_eq_false (p := s.length ≤ 8) (by ((try simp only [decide_eq_true_eq, decide_eq_false_iff_not, Bool.not_eq_true, Bool.not_eq_false, Decidable.not_not, ltB_true, leB_true, eqI_true, eqS_true, eqBl_true, ltB_false, leB_false, eqI_false, eqS_false, eqBl_false] at *); omega)), Bool.false_and] at q
      exact (q)
    · rename_i k
      (first | (with_reducible refine stop_i (by with_unfolding_all rfl) ?_) | (simp_arith only [true_and]; with_reducible refine stop_i (by with_unfolding_all rfl) ?_) | skip)
      rw [decide_eq_true (p := s.length ≤ 8) (by ((try simp only [decide_eq_true_eq, decide_eq_false_iff_not, Bool.not_eq_true, Bool.not_eq_false, Decidable.not_not, ltB_true, leB_true, eqI_true, eqS_true, eqBl_true, ltB_false, leB_false, eqI_false, eqS_false, eqBl_false] at *); omega)), Bool.true_and] at q
      (first | (with_reducible refine step_i (by with_unfolding_all rfl) ?_) | ((try simp_arith only [true_and]); with_reducible refine step_i (by with_unfolding_all rfl) ?_)); simp_arith only [true_and]
      refine lcL_filter (fun d => match d with | .str ⟨⟨[c]⟩⟩ => !lowC c | _ => false) id (by rw [List.length_map, toL_len]; omega) (fun d acc hd hlt R h1 h2 => ?_) ?_
      · obtain ⟨c, _, rfl⟩ := List.mem_map.mp hd
        simp_arith only [t_law_is_name_0, e_law_is_name_0]
        split
        · rename_i kc
          exact h2 (by show (!lowC c) = false; rw [low_iff.mp kc]; rfl)
        · rename_i kc
          exact ⟨hlt, h1 (not_t fun z => kc (low_iff.mpr z))⟩
      · rw [List.map_id]
        try (first | simp_arith only [List.length_cons, List.length_nil, g35] | simp_arith only [true_and] | skip)
        rw [filter_signs]
        refine (?_)
        rw [all_filter]
        exact q
  all_goals ((first | (with_reducible refine step_i (by with_unfolding_all rfl) ?_) | ((try simp_arith only [true_and]); with_reducible refine step_i (by with_unfolding_all rfl) ?_)); simp_arith only [true_and]; (first | (with_reducible refine step_i (by with_unfolding_all rfl) ?_) | ((try simp_arith only [true_and]); with_reducible refine step_i (by with_unfolding_all rfl) ?_)); simp_arith only [true_and]; exact (q))
theorem eqvN {a c : Str} {b d : Int} : PyData.eqv (.tuple [.str a, .int b]) (.tuple [.str c, .int d]) = (decide (a = c) && decide (b = d)) := by
  simp [PyData.eqv, PyData.eqvAll]
  rfl
theorem name_strOk {a : Str} (h : nameS a = true) : PyData.strOk a = true := by
  unfold nameS at h
  rw [Bool.and_eq_true] at h
  unfold PyData.strOk
  rw [← Array.all_toList, List.all_eq_true]
  intro c hc
  have := of_decide_eq_true (List.all_eq_true.mp h.2 c hc)
  exact decide_eq_true (by omega)
theorem shapedN {x : PEnt} {b : Int} (h : okP x = true) : SeqAt.shaped (toPy (.tup [.str x.nm, .int b])) = true := by
  unfold okP at h
  rw [Bool.and_eq_true] at h
  have z := name_strOk h.1
  unfold SeqAt.shaped
  simp [toPy, toPys, PyData.canLay0, PyData.canLayAll0, PyData.depth, PyData.depthAll, z]
theorem cut02' {w x y z : D} : cutD [w, x, y, z] none (some 2) = [w, x] := rfl
theorem w_law_is_paper (g37 : Γ.f 37 = sIsName) (g36 : Γ.f 36 = sLEdit) (h : sIsPaper ds Q QE) : wSs Γ E b_law_is_paper (zz Q) (ent0 n_law_is_paper ds) := by
  obtain ⟨n, d, rfl, hd, q⟩ := h
  show wSs Γ E b_law_is_paper _ [.sh d, .un, .un, .un]
  have hs := sizeLine_eq
  rcases gd_cases hd with ⟨_, rfl, _⟩ | ⟨l, rfl⟩ | ⟨_, rfl⟩ | ⟨_, rfl⟩ | ⟨_, rfl⟩ | rfl
  rotate_left
  · obtain ⟨hlen, m, rfl, hxs⟩ := gd_tup hd
    (first | (with_reducible refine step_i (by with_unfolding_all rfl) ?_) | ((try simp_arith only [true_and]); with_reducible refine step_i (by with_unfolding_all rfl) ?_)); simp_arith only [true_and]
    (first | (with_reducible refine stop_i (by with_unfolding_all rfl) ?_) | (simp_arith only [true_and]; with_reducible refine stop_i (by with_unfolding_all rfl) ?_) | skip)
    (first | (with_reducible refine step_i (by with_unfolding_all rfl) ?_) | ((first | simp_arith only [Int.toNat_natCast, List.range_eq_range'] | simp_arith only [true_and] | skip); with_reducible refine step_i (by with_unfolding_all rfl) ?_)); simp_arith only [Int.toNat_natCast, List.range_eq_range']
    refine ⟨by omega, by omega, ?_⟩
    refine forL_i (fun ds ρ => ∃ (done : List PEnt) (rest : List D) (s1 s2 s3 : Sl), l = done.map PEnt.d ++ rest ∧ ds = (List.range' done.length rest.length).map (fun (i : Nat) => D.int (i : Int)) ∧ ρ = [.sh (.tup l), s1, s2, s3] ∧ chainB apartF done = true ∧ ∀ x ∈ done, okP x = true) ?_ ?_ _ _ ⟨[], l, .un, .un, .un, rfl, rfl, rfl, rfl, nofun⟩
    · rintro ρ ⟨done, rest, s1, s2, s3, e, e2, rfl, hc, ho⟩
      cases rest with
      | cons _ _ => cases e2
      | nil =>
        (first | (with_reducible refine step_i (by with_unfolding_all rfl) ?_) | ((try simp_arith only [true_and]); with_reducible refine step_i (by with_unfolding_all rfl) ?_)); simp_arith only [true_and]
        have z : isPaperD (.tup l) = true := by rw [isPaperD_tup, e, rowsP_map ho]; show chainB apartF (done ++ []) = true; rw [List.append_nil]; exact hc
        rw [z] at q
        exact (q)
    · rintro d ds ρ ⟨done, rest, s1, s2, s3, e, e2, rfl, hc, ho⟩ N hN
      cases rest with
      | nil => cases e2
      | cons row rest =>
        rw [List.length_cons, List.range'_succ, List.map_cons] at e2
        injection e2 with e3 e4
        subst e3 e4
        have hm : row ∈ l := by rw [e]; simp
        have hg := hxs row hm
        have ea : atI l (done.length : Int) = some row := atI_nat (by rw [e, List.getElem?_append_right (by rw [List.length_map]; exact Nat.le_refl _), List.length_map, Nat.sub_self]; rfl)
        have bad : rowP row = none → Q (.bl false) := fun k => by
          have z : isPaperD (.tup l) = false := by rw [isPaperD_tup, rowsP_none hm k]
          rw [z] at q; exact q
        (first | simp_arith only [Int.toNat_natCast, List.range_eq_range'] | simp_arith only [true_and] | skip)
        (first | (with_reducible refine step_i (by with_unfolding_all rfl) ?_) | ((first | simp_arith only [ea] | simp_arith only [true_and] | skip); with_reducible refine step_i (by with_unfolding_all rfl) ?_)); simp_arith only [ea]
        rcases gd_cases hg with ⟨_, rfl, _⟩ | ⟨r, rfl⟩ | ⟨_, rfl⟩ | ⟨_, rfl⟩ | ⟨_, rfl⟩ | rfl
        rotate_left
        · have other : r.length ≠ 4 → wSs Γ E b_law_is_paper_8 { nx := N, rt := fun d _ => Q d, bk := wSs Γ E b_law_is_paper_0 (zz Q), ct := N } [.sh (.tup l), .sh (.int (done.length : Int)), .sh (.tup r), s3] := fun kl => by
            (first | (with_reducible refine step_i (by with_unfolding_all rfl) ?_) | ((try simp_arith only [true_and]); with_reducible refine step_i (by with_unfolding_all rfl) ?_)); simp_arith only [true_and]
            rw [if_neg (by omega)]
            (first | (with_reducible refine step_i (by with_unfolding_all rfl) ?_) | ((try simp_arith only [true_and]); with_reducible refine step_i (by with_unfolding_all rfl) ?_)); simp_arith only [true_and]
            exact (bad (rowP_len kl))
          rcases r with _ | ⟨a, _ | ⟨b, _ | ⟨c, _ | ⟨f, _ | ⟨_, r⟩⟩⟩⟩⟩
          · exact other (by simp)
          · exact other (by simp)
          · exact other (by simp)
          · exact other (by simp)
          · obtain ⟨_, m, rfl, hx4⟩ := gd_tup hg
            (first | (with_reducible refine step_i (by with_unfolding_all rfl) ?_) | ((first | simp_arith only [List.length_cons, List.length_nil, g37, g36, cut14] | simp_arith only [true_and] | skip); with_reducible refine step_i (by with_unfolding_all rfl) ?_)); simp_arith only [List.length_cons, List.length_nil, g37, g36, cut14]
            refine c_is_name (hx4 a (by simp)) ?_; (first | simp_arith only [List.length_cons, List.length_nil, g37, g36, cut14] | simp_arith only [true_and] | skip)
            (first | simp_arith only [List.length_cons, List.length_nil, g37, g36, cut14] | simp_arith only [true_and] | skip)
            split
            · rename_i k
              (first | (with_reducible refine step_i (by with_unfolding_all rfl) ?_) | ((try simp_arith only [true_and]); with_reducible refine step_i (by with_unfolding_all rfl) ?_)); simp_arith only [true_and]
              exact (bad (rowP_none (by rw [k, Bool.false_and])))
            · rename_i k
              rw [Bool.not_eq_false] at k
              refine c_ledit (n := m + 1) ⟨by simp, fun y hy => hx4 y (List.mem_cons_of_mem _ hy)⟩ ?_; (first | simp_arith only [List.length_cons, List.length_nil, g37, g36, cut14] | simp_arith only [true_and] | skip)
              (first | simp_arith only [List.length_cons, List.length_nil, g37, g36, cut14] | simp_arith only [true_and] | skip)
              split
              · rename_i k2
                (first | (with_reducible refine step_i (by with_unfolding_all rfl) ?_) | ((try simp_arith only [true_and]); with_reducible refine step_i (by with_unfolding_all rfl) ?_)); simp_arith only [true_and]
                exact (bad (rowP_none (by rw [k2, Bool.and_false])))
              · rename_i k2
                rw [Bool.not_eq_false] at k2
                obtain ⟨x, hx, xe, xo⟩ := rowP_some k k2
                have xd : x.d = .tup [.str x.nm, .int x.s, .int x.e, .str x.n] := rfl
                rw [xd] at xe
                injection xe with xe
                injection xe with x1 xe
                injection xe with x2 xe
                injection xe with x3 xe
                injection xe with x4 xe
                subst x1 x2 x3 x4
                (first | (with_reducible refine stop_i (by with_unfolding_all rfl) ?_) | (simp_arith only [true_and]; with_reducible refine stop_i (by with_unfolding_all rfl) ?_) | skip)
                have good : chainB apartF (done ++ [x]) = true → ∀ s3 : Sl, N [.sh (.tup l), .sh (.int (done.length : Int)), .sh (.tup [.str x.nm, .int x.s, .int x.e, .str x.n]), s3] := fun hc2 s3 => hN _ ⟨done ++ [x], rest, _, _, _, by rw [e]; simp; rfl, by rw [List.length_append]; rfl, rfl, hc2, fun y hy => by
                  rcases List.mem_append.mp hy with hy | hy
                  · exact ho y hy
                  · rw [List.mem_singleton.mp hy]; exact xo⟩
                rcases List.eq_nil_or_concat done with rfl | ⟨dn, y, rfl⟩
                · (first | (with_reducible refine step_i (by with_unfolding_all rfl) ?_) | ((first | simp_arith only [List.length_nil] | simp_arith only [true_and] | skip); with_reducible refine step_i (by with_unfolding_all rfl) ?_)); simp_arith only [List.length_nil]
                  (first | (with_reducible refine stop_i (by with_unfolding_all rfl) ?_) | (simp_arith only [true_and]; with_reducible refine stop_i (by with_unfolding_all rfl) ?_) | skip)
                  (first | (with_reducible refine stop_i (by with_unfolding_all rfl) ?_) | (simp_arith only [true_and]; with_reducible refine stop_i (by with_unfolding_all rfl) ?_) | skip)
                  exact good rfl _
                · rw [List.concat_eq_append] at *
                  have hl0 : (0 : Int) < ((dn ++ [y]).length : Int) := by rw [List.length_append, List.length_singleton]; omega
                  have ey : atI l (((dn ++ [y]).length : Int) - 1) = some y.d := by
                    have : (((dn ++ [y]).length : Int) - 1) = (dn.length : Int) := by rw [List.length_append, List.length_singleton]; omega
                    rw [this]
                    exact atI_nat (by rw [e, List.map_append, List.append_assoc, List.getElem?_append_right (by rw [List.length_map]; exact Nat.le_refl _), List.length_map, Nat.sub_self]; rfl)
                  have yo := ho y (by simp)
                  have bad2 : apartL y x = false → Q (.bl false) := fun k => by
                    have z : isPaperD (.tup l) = false := by
                      rw [isPaperD_tup, e, rowsP_map ho]
                      have : rowsP (D.tup [.str x.nm, .int x.s, .int x.e, .str x.n] :: rest) = (rowsP rest).map (x :: ·) := by
                        show (match rowP (D.tup [.str x.nm, .int x.s, .int x.e, .str x.n]) with | none => none | some x => (rowsP rest).map (x :: ·)) = _
                        rw [hx]
                      rw [this]
                      cases rowsP rest with
                      | none => rfl
                      | some qs =>
                        show chainB apartF (dn ++ [y] ++ x :: qs) = false
                        rw [List.append_assoc]
                        exact chain_bad (by rw [← apart_law yo xo]; exact k)
                    rw [z] at q; exact q
                  have good2 : apartL y x = true → ∀ s3 : Sl, N [.sh (.tup l), .sh (.int ((dn ++ [y]).length : Int)), .sh (.tup [.str x.nm, .int x.s, .int x.e, .str x.n]), s3] := fun k => good (chain_add (by rw [← apart_law yo xo]; exact k) hc)
                  have yd : y.d = .tup [.str y.nm, .int y.s, .int y.e, .str y.n] := rfl
                  (first | (with_reducible refine step_i (by with_unfolding_all rfl) ?_) | ((try simp_arith only [true_and]); with_reducible refine step_i (by with_unfolding_all rfl) ?_)); simp_arith only [true_and]
                  rw [if_pos hl0]
                  (first | (with_reducible refine step_i (by with_unfolding_all rfl) ?_) | ((first | simp_arith only [ey, yd] | simp_arith only [true_and] | skip); with_reducible refine step_i (by with_unfolding_all rfl) ?_)); simp_arith only [ey, yd]
                  have tail : ¬ x.nm.cps.toList < y.nm.cps.toList → ¬ (x.nm = y.nm ∧ x.s < y.e) → wSs Γ E b_law_is_paper_2 { nx := wSs Γ E Sxs.nil { nx := N, rt := fun d x => Q d, bk := wSs Γ E b_law_is_paper_0 (zz Q), ct := N }, rt := fun d x => Q d, bk := wSs Γ E b_law_is_paper_0 (zz Q), ct := N }
                      [.sh (.tup l), .sh (.int ((dn ++ [y]).length : Int)), .sh (.tup [.str x.nm, .int x.s, .int x.e, .str x.n]), .sh (.tup [.str y.nm, .int y.s, .int y.e, .str y.n])] := fun n1 n2 => by
                    have e1 : apartL y x = !(decide (x.nm = y.nm) && decide (x.s = y.s) && decide (x.s = x.e) && decide (y.s = y.e)) := by
                      show (!(decide (x.nm.cps.toList < y.nm.cps.toList) || (decide (x.nm = y.nm) && decide (x.s < y.e))) && _) = _
                      rw [decide_eq_false n1, ← Bool.decide_and, decide_eq_false n2]; rfl
                    rw [e1] at bad2 good2
                    (first | (with_reducible refine step_i (by with_unfolding_all rfl) ?_) | ((first | simp_arith only [cut02'] | simp_arith only [true_and] | skip); with_reducible refine step_i (by with_unfolding_all rfl) ?_)); simp_arith only [cut02']
                    refine eqDW_of rfl (shapedN xo) (shapedN yo) ?_
                    rw [show toPy (.tup [.str x.nm, .int x.s]) = .tuple [.str x.nm, .int x.s] from rfl, show toPy (.tup [.str y.nm, .int y.s]) = .tuple [.str y.nm, .int y.s] from rfl, eqvN]
                    (try simp_arith only [true_and])
                    split
                    · rename_i k
                      rw [k, Bool.true_and] at bad2 good2
                      split
                      · rename_i k2
                        split
                        · rename_i k3
                          (first | (with_reducible refine step_i (by with_unfolding_all rfl) ?_) | ((try simp_arith only [true_and]); with_reducible refine step_i (by with_unfolding_all rfl) ?_)); simp_arith only [true_and]
                          exact (bad2 (by rw [decide_eq_true k2, decide_eq_true k3]; rfl))
                        · rename_i k3
                          (first | (with_reducible refine stop_i (by with_unfolding_all rfl) ?_) | (simp_arith only [true_and]; with_reducible refine stop_i (by with_unfolding_all rfl) ?_) | skip)
                          (first | (with_reducible refine stop_i (by with_unfolding_all rfl) ?_) | (simp_arith only [true_and]; with_reducible refine stop_i (by with_unfolding_all rfl) ?_) | skip)
                          exact good2 (by rw [decide_eq_false k3, Bool.and_false]; rfl) _
                      · rename_i k2
                        (first | (with_reducible refine stop_i (by with_unfolding_all rfl) ?_) | (simp_arith only [true_and]; with_reducible refine stop_i (by with_unfolding_all rfl) ?_) | skip)
                        (first | (with_reducible refine stop_i (by with_unfolding_all rfl) ?_) | (simp_arith only [true_and]; with_reducible refine stop_i (by with_unfolding_all rfl) ?_) | skip)
                        exact good2 (by rw [decide_eq_false k2, Bool.false_and]; rfl) _
                    · rename_i k
                      rw [Bool.not_eq_true] at k
                      rw [k, Bool.false_and, Bool.false_and] at good2
                      (first | (with_reducible refine stop_i (by with_unfolding_all rfl) ?_) | (simp_arith only [true_and]; with_reducible refine stop_i (by with_unfolding_all rfl) ?_) | skip)
                      (first | (with_reducible refine stop_i (by with_unfolding_all rfl) ?_) | (simp_arith only [true_and]; with_reducible refine stop_i (by with_unfolding_all rfl) ?_) | skip)
                      exact good2 rfl _
                  (first | (with_reducible refine step_i (by with_unfolding_all rfl) ?_) | ((try simp_arith only [true_and]); with_reducible refine step_i (by with_unfolding_all rfl) ?_)); simp_arith only [true_and]
                  split
                  · rename_i k
                    (first | (with_reducible refine step_i (by with_unfolding_all rfl) ?_) | ((try simp_arith only [true_and]); with_reducible refine step_i (by with_unfolding_all rfl) ?_)); simp_arith only [true_and]
                    exact (bad2 (by unfold apartL; rw [decide_eq_true k]; rfl))
                  · rename_i k
                    split
                    · rename_i k2
                      split
                      · rename_i k3
                        (first | (with_reducible refine step_i (by with_unfolding_all rfl) ?_) | ((try simp_arith only [true_and]); with_reducible refine step_i (by with_unfolding_all rfl) ?_)); simp_arith only [true_and]
                        exact (bad2 (by unfold apartL; rw [decide_eq_true k2, decide_eq_true (p := x.s < y.e) (by ((try simp only [decide_eq_true_eq, decide_eq_false_iff_not, Bool.not_eq_true, Bool.not_eq_false, Decidable.not_not, ltB_true, leB_true, eqI_true, eqS_true, eqBl_true, ltB_false, leB_false, eqI_false, eqS_false, eqBl_false] at *); omega)), Bool.and_self, Bool.or_true]; rfl))
                      · rename_i k3
                        (first | (with_reducible refine stop_i (by with_unfolding_all rfl) ?_) | (simp_arith only [true_and]; with_reducible refine stop_i (by with_unfolding_all rfl) ?_) | skip)
                        exact tail k fun z => k3 z.2
                    · rename_i k2
                      (first | (with_reducible refine stop_i (by with_unfolding_all rfl) ?_) | (simp_arith only [true_and]; with_reducible refine stop_i (by with_unfolding_all rfl) ?_) | skip)
                      exact tail k fun z => k2 z.1
          · exact other (by simp only [List.length_cons]; omega)
        all_goals ((first | (with_reducible refine step_i (by with_unfolding_all rfl) ?_) | ((try simp_arith only [true_and]); with_reducible refine step_i (by with_unfolding_all rfl) ?_)); simp_arith only [true_and]; (first | (with_reducible refine step_i (by with_unfolding_all rfl) ?_) | ((try simp_arith only [true_and]); with_reducible refine step_i (by with_unfolding_all rfl) ?_)); simp_arith only [true_and]; exact (bad rfl))
  all_goals ((first | (with_reducible refine step_i (by with_unfolding_all rfl) ?_) | ((try simp_arith only [true_and]); with_reducible refine step_i (by with_unfolding_all rfl) ?_)); simp_arith only [true_and]; (first | (with_reducible refine step_i (by with_unfolding_all rfl) ?_) | ((try simp_arith only [true_and]); with_reducible refine step_i (by with_unfolding_all rfl) ?_)); simp_arith only [true_and]; exact (q))
end
end DL
/-! V_sp25: spoilt edits and papers -/
namespace DL
open PySem PySem.Spec PyProof.Rows L2
theorem ix_gd {l : List D} {r : Int} (n : Nat) {P : D → Prop} (h0 : 0 ≤ r) (h1 : r < l.length) (hl : ∀ x ∈ l, gd n x) (hP : ∀ x, gd n x → P x) : ∃ d, atI l r = some d ∧ P d := ix_any P h0 h1 fun x hx => hP x (hl x hx)
section
variable {P : Program} {w : World} {Γ : Gm} {E : DX → DEnv → Prop} {Q : D → Prop} {QE : DX → Prop} {ds : List D}
def sOdd (P : Program) (w : World) : FSp := fun ds Q E => ds = [stL.d P w] ∧ ∀ d, gd 2 d → Q d
theorem c_odd (q : ∀ d, gd 2 d → Q d) : sOdd P w [stL.d P w] Q QE := ⟨rfl, q⟩
theorem w_law_odd (g9 : Γ.f 9 = sDraw26 P w) (h : sOdd P w ds Q QE) : wSs Γ E b_law_odd (zz Q) (ent0 n_law_odd ds) := by
  obtain ⟨rfl, q⟩ := h
  show wSs Γ E b_law_odd _ [.sh (stL.d P w), .un]
  (first | (with_reducible refine step_i (by with_unfolding_all rfl) ?_) | ((try simp_arith only [true_and]); with_reducible refine step_i (by with_unfolding_all rfl) ?_)); simp_arith only [true_and]
  (repeat (((with_reducible refine And.intro ?_ ?_); focus (first | decide | omega | exact trivial | (intro h; cases h; done) | exact Or.inr (by decide) | exact Or.inl ⟨by omega, by omega⟩ | exact ⟨by omega, by omega⟩ | (rw [sizeLine_eq]; omega) | (refine sz ?_; first | omega | (simp; done))))))
  (first | (with_reducible refine step_i (by with_unfolding_all rfl) ?_) | ((first | simp_arith only [g9] | simp_arith only [true_and] | skip); with_reducible refine step_i (by with_unfolding_all rfl) ?_)); simp_arith only [g9]
  refine c_draw26 ⟨by decide, by decide⟩ fun r h0 h1 => ?_; (first | simp_arith only [g9] | simp_arith only [true_and] | skip)
  refine ix_gd 2 h0 (by simpa using h1) (by simp [gd]; decide) fun x hx => ?_
  exact (q x hx)
theorem lg {i : Int} (h0 : -1000000000000 ≤ i) (h1 : i ≤ 1000000000000) : i.natAbs.log2 < 1920 := by
  by_cases z : i.natAbs = 0
  · rw [z]; decide
  · refine (Nat.log2_lt z).mpr (Nat.lt_of_lt_of_le (m := 2 ^ 62) (by omega) (Nat.pow_le_pow_right (by decide) (by decide)))
theorem txt_len {i : Int} (h0 : -1000000000000 ≤ i) (h1 : i ≤ 1000000000000) : (Str.ofString (toString i)).length ≤ 1000000 := by
  have := PyProof.Rows.int_text_len_1921 (lg h0 h1)
  omega
section
variable {a b c d : D}
theorem cu3_t0 : cutD [a, b, c] none (some 0) = [] := rfl
theorem cu3_t1 : cutD [a, b, c] none (some 1) = [a] := rfl
theorem cu3_t2 : cutD [a, b, c] none (some 2) = [a, b] := rfl
theorem cu3_d1 : cutD [a, b, c] (some 1) none = [b, c] := rfl
theorem cu3_d2 : cutD [a, b, c] (some 2) none = [c] := rfl
theorem cu4_t1 : cutD [a, b, c, d] none (some 1) = [a] := rfl
theorem cu4_t2 : cutD [a, b, c, d] none (some 2) = [a, b] := rfl
theorem cu4_t3 : cutD [a, b, c, d] none (some 3) = [a, b, c] := rfl
theorem cu4_d1 : cutD [a, b, c, d] (some 1) none = [b, c, d] := rfl
theorem cu4_d2 : cutD [a, b, c, d] (some 2) none = [c, d] := rfl
theorem cu4_d3 : cutD [a, b, c, d] (some 3) none = [d] := rfl
end
def spRow (l : List D) (at_ : Int) : Prop := ∃ (s e : Int) (n : Str), (-1000000000 ≤ s ∧ s ≤ 1000000000) ∧ (-1000000000 ≤ e ∧ e ≤ 1000000000) ∧ n.length ≤ 1000 ∧ ((at_ = 0 ∧ l = [.int s, .int e, .str n]) ∨ (at_ = 1 ∧ ∃ a : Str, a.length ≤ 8 ∧ l = [.str a, .int s, .int e, .str n]))
def sSpoilt (P : Program) (w : World) : FSp := fun ds Q E => ∃ l at_, ds = [stL.d P w, .tup l, .int at_] ∧ spRow l at_ ∧ ∀ d, gd 2 d → Q d
theorem c_spoilt {l : List D} {at_ : Int} (h : spRow l at_) (q : ∀ d, gd 2 d → Q d) : sSpoilt P w [stL.d P w, .tup l, .int at_] Q QE := ⟨l, at_, rfl, h, q⟩
theorem w_law_spoilt (g9 : Γ.f 9 = sDraw26 P w) (g39 : Γ.f 39 = sOdd P w) (h : sSpoilt P w ds Q QE) : wSs Γ E b_law_spoilt (zz Q) (ent0 n_law_spoilt ds) := by
  obtain ⟨l, at_, rfl, ⟨s, e, n, hs, he, hn, hl⟩, q⟩ := h
  show wSs Γ E b_law_spoilt _ [.sh (stL.d P w), .sh (.tup l), .sh (.int at_), .un, .un, .un]
  have hz := sizeLine_eq
  have t1 : (Str.ofString "\t").length = 1 := by decide
  have a1 : (Str.ofString "a").length = 1 := by decide
  (first | (with_reducible refine step_i (by with_unfolding_all rfl) ?_) | ((first | simp_arith only [g9] | simp_arith only [true_and] | skip); with_reducible refine step_i (by with_unfolding_all rfl) ?_)); simp_arith only [g9]
  refine c_draw26 ⟨by decide, by decide⟩ fun k k0 k1 => ?_; (first | simp_arith only [g9] | simp_arith only [true_and] | skip)
  rcases hl with ⟨rfl, rfl⟩ | ⟨rfl, a, ha, rfl⟩
  · (first | (with_reducible refine step_i (by with_unfolding_all rfl) ?_) | ((try simp_arith only [true_and]); with_reducible refine step_i (by with_unfolding_all rfl) ?_)); simp_arith only [true_and]
    (first | (with_reducible refine step_i (by with_unfolding_all rfl) ?_) | ((try simp_arith only [true_and]); with_reducible refine step_i (by with_unfolding_all rfl) ?_)); simp_arith only [true_and]
    (first | (with_reducible refine step_i (by with_unfolding_all rfl) ?_) | ((try simp_arith only [true_and]); with_reducible refine step_i (by with_unfolding_all rfl) ?_)); simp_arith only [true_and]
    split
    · rename_i h3
      (first | (with_reducible refine step_i (by with_unfolding_all rfl) ?_) | ((first | simp_arith only [cu3_t0, cu3_t1, cu3_t2, cu3_d1, cu3_d2, cu4_t1, cu4_t2, cu4_t3, cu4_d1, cu4_d2, cu4_d3, List.nil_append, List.cons_append] | simp_arith only [true_and] | skip); with_reducible refine step_i (by with_unfolding_all rfl) ?_)); simp_arith only [cu3_t0, cu3_t1, cu3_t2, cu3_d1, cu3_d2, cu4_t1, cu4_t2, cu4_t3, cu4_d1, cu4_d2, cu4_d3, List.nil_append, List.cons_append]
      (repeat (((with_reducible refine And.intro ?_ ?_); focus (first | decide | omega | exact trivial | (intro h; cases h; done) | exact Or.inr (by decide) | exact Or.inl ⟨by omega, by omega⟩ | exact ⟨by omega, by omega⟩ | (rw [sizeLine_eq]; omega) | (refine sz ?_; first | omega | (simp; done))))))
      refine ix_gd 1 k0 (by simp only [List.length_cons, List.length_nil]; ((try simp only [decide_eq_true_eq, decide_eq_false_iff_not, Bool.not_eq_true, Bool.not_eq_false, Decidable.not_not, ltB_true, leB_true, eqI_true, eqS_true, eqBl_true, ltB_false, leB_false, eqI_false, eqS_false, eqBl_false] at *); omega)) (by simp [gd]) fun x hx => ?_
      try simp_arith only [List.nil_append, List.cons_append]
      (repeat (((with_reducible refine And.intro ?_ ?_); focus (first | decide | omega | exact trivial | (intro h; cases h; done) | exact Or.inr (by decide) | exact Or.inl ⟨by omega, by omega⟩ | exact ⟨by omega, by omega⟩ | (rw [sizeLine_eq]; omega) | (refine sz ?_; first | omega | (simp; done))))))
      refine q _ ?_
      simp [gd, *] <;> omega
    · rename_i h3
      (first | (with_reducible refine stop_i (by with_unfolding_all rfl) ?_) | (simp_arith only [true_and]; with_reducible refine stop_i (by with_unfolding_all rfl) ?_) | skip)
      (first | (with_reducible refine step_i (by with_unfolding_all rfl) ?_) | ((try simp_arith only [true_and]); with_reducible refine step_i (by with_unfolding_all rfl) ?_)); simp_arith only [true_and]
      split
      · rename_i h5
        (first | (with_reducible refine step_i (by with_unfolding_all rfl) ?_) | ((first | simp_arith only [cu3_t0, cu3_t1, cu3_t2, cu3_d1, cu3_d2, cu4_t1, cu4_t2, cu4_t3, cu4_d1, cu4_d2, cu4_d3, List.nil_append, List.cons_append] | simp_arith only [true_and] | skip); with_reducible refine step_i (by with_unfolding_all rfl) ?_)); simp_arith only [cu3_t0, cu3_t1, cu3_t2, cu3_d1, cu3_d2, cu4_t1, cu4_t2, cu4_t3, cu4_d1, cu4_d2, cu4_d3, List.nil_append, List.cons_append]
        (repeat (((with_reducible refine And.intro ?_ ?_); focus (first | decide | omega | exact trivial | (intro h; cases h; done) | exact Or.inr (by decide) | exact Or.inl ⟨by omega, by omega⟩ | exact ⟨by omega, by omega⟩ | (rw [sizeLine_eq]; omega) | (refine sz ?_; first | omega | (simp; done))))))
        refine ix_gd 1 (by ((try simp only [decide_eq_true_eq, decide_eq_false_iff_not, Bool.not_eq_true, Bool.not_eq_false, Decidable.not_not, ltB_true, leB_true, eqI_true, eqS_true, eqBl_true, ltB_false, leB_false, eqI_false, eqS_false, eqBl_false] at *); omega)) (by simp only [List.length_cons, List.length_nil]; ((try simp only [decide_eq_true_eq, decide_eq_false_iff_not, Bool.not_eq_true, Bool.not_eq_false, Decidable.not_not, ltB_true, leB_true, eqI_true, eqS_true, eqBl_true, ltB_false, leB_false, eqI_false, eqS_false, eqBl_false] at *); omega)) (by simp [gd]) fun x hx => ?_
        try simp_arith only [List.nil_append, List.cons_append]
        (repeat (((with_reducible refine And.intro ?_ ?_); focus (first | decide | omega | exact trivial | (intro h; cases h; done) | exact Or.inr (by decide) | exact Or.inl ⟨by omega, by omega⟩ | exact ⟨by omega, by omega⟩ | (rw [sizeLine_eq]; omega) | (refine sz ?_; first | omega | (simp; done))))))
        refine q _ ?_
        simp [gd, *] <;> omega
      · rename_i h5
        (first | (with_reducible refine stop_i (by with_unfolding_all rfl) ?_) | (simp_arith only [true_and]; with_reducible refine stop_i (by with_unfolding_all rfl) ?_) | skip)
        (first | (with_reducible refine step_i (by with_unfolding_all rfl) ?_) | ((try simp_arith only [true_and]); with_reducible refine step_i (by with_unfolding_all rfl) ?_)); simp_arith only [true_and]
        split
        · (first | (with_reducible refine step_i (by with_unfolding_all rfl) ?_) | ((first | simp_arith only [cu3_t0, cu3_t1, cu3_t2, cu3_d1, cu3_d2, cu4_t1, cu4_t2, cu4_t3, cu4_d1, cu4_d2, cu4_d3, List.nil_append, List.cons_append] | simp_arith only [true_and] | skip); with_reducible refine step_i (by with_unfolding_all rfl) ?_)); simp_arith only [cu3_t0, cu3_t1, cu3_t2, cu3_d1, cu3_d2, cu4_t1, cu4_t2, cu4_t3, cu4_d1, cu4_d2, cu4_d3, List.nil_append, List.cons_append]
          (repeat (((with_reducible refine And.intro ?_ ?_); focus (first | decide | omega | exact trivial | (intro h; cases h; done) | exact Or.inr (by decide) | exact Or.inl ⟨by omega, by omega⟩ | exact ⟨by omega, by omega⟩ | (rw [sizeLine_eq]; omega) | (refine sz ?_; first | omega | (simp; done))))))
          try simp_arith only [List.nil_append, List.cons_append]
          (repeat (((with_reducible refine And.intro ?_ ?_); focus (first | decide | omega | exact trivial | (intro h; cases h; done) | exact Or.inr (by decide) | exact Or.inl ⟨by omega, by omega⟩ | exact ⟨by omega, by omega⟩ | (rw [sizeLine_eq]; omega) | (refine sz ?_; first | omega | (simp; done))))))
          refine q _ ?_
          simp [gd, *] <;> omega
        · (first | (with_reducible refine stop_i (by with_unfolding_all rfl) ?_) | (simp_arith only [true_and]; with_reducible refine stop_i (by with_unfolding_all rfl) ?_) | skip)
          (first | (with_reducible refine step_i (by with_unfolding_all rfl) ?_) | ((try simp_arith only [true_and]); with_reducible refine step_i (by with_unfolding_all rfl) ?_)); simp_arith only [true_and]
          split
          · (first | (with_reducible refine step_i (by with_unfolding_all rfl) ?_) | ((first | simp_arith only [cu3_t0, cu3_t1, cu3_t2, cu3_d1, cu3_d2, cu4_t1, cu4_t2, cu4_t3, cu4_d1, cu4_d2, cu4_d3, List.nil_append, List.cons_append, g9] | simp_arith only [true_and] | skip); with_reducible refine step_i (by with_unfolding_all rfl) ?_)); simp_arith only [cu3_t0, cu3_t1, cu3_t2, cu3_d1, cu3_d2, cu4_t1, cu4_t2, cu4_t3, cu4_d1, cu4_d2, cu4_d3, List.nil_append, List.cons_append, g9]
            refine ⟨lg (by omega) (by omega), ?_⟩
            (repeat (((with_reducible refine And.intro ?_ ?_); focus (first | decide | omega | exact trivial | (intro h; cases h; done) | exact Or.inr (by decide) | exact Or.inl ⟨by omega, by omega⟩ | exact ⟨by omega, by omega⟩ | (rw [sizeLine_eq]; omega) | (refine sz ?_; first | omega | (simp; done))))))
            refine c_draw26 ⟨by decide, by decide⟩ fun r r0 r1 => ?_; (first | simp_arith only [cu3_t0, cu3_t1, cu3_t2, cu3_d1, cu3_d2, cu4_t1, cu4_t2, cu4_t3, cu4_d1, cu4_d2, cu4_d3, List.nil_append, List.cons_append, g9] | simp_arith only [true_and] | skip)
            have hl := txt_len (i := s) (by omega) (by omega)
            generalize Str.ofString (toString s) = ts at hl ⊢
            refine ix_gd 1 r0 (by simpa using r1) (by simp [gd, hl]) fun x hx => ?_
            try simp_arith only [List.nil_append, List.cons_append]
            (repeat (((with_reducible refine And.intro ?_ ?_); focus (first | decide | omega | exact trivial | (intro h; cases h; done) | exact Or.inr (by decide) | exact Or.inl ⟨by omega, by omega⟩ | exact ⟨by omega, by omega⟩ | (rw [sizeLine_eq]; omega) | (refine sz ?_; first | omega | (simp; done))))))
            refine q _ ?_
            simp [gd, *] <;> omega
          · (first | (with_reducible refine stop_i (by with_unfolding_all rfl) ?_) | (simp_arith only [true_and]; with_reducible refine stop_i (by with_unfolding_all rfl) ?_) | skip)
            (first | (with_reducible refine step_i (by with_unfolding_all rfl) ?_) | ((try simp_arith only [true_and]); with_reducible refine step_i (by with_unfolding_all rfl) ?_)); simp_arith only [true_and]
            split
            · (first | (with_reducible refine step_i (by with_unfolding_all rfl) ?_) | ((first | simp_arith only [cu3_t0, cu3_t1, cu3_t2, cu3_d1, cu3_d2, cu4_t1, cu4_t2, cu4_t3, cu4_d1, cu4_d2, cu4_d3, List.nil_append, List.cons_append, g9] | simp_arith only [true_and] | skip); with_reducible refine step_i (by with_unfolding_all rfl) ?_)); simp_arith only [cu3_t0, cu3_t1, cu3_t2, cu3_d1, cu3_d2, cu4_t1, cu4_t2, cu4_t3, cu4_d1, cu4_d2, cu4_d3, List.nil_append, List.cons_append, g9]
              (repeat (((with_reducible refine And.intro ?_ ?_); focus (first | decide | omega | exact trivial | (intro h; cases h; done) | exact Or.inr (by decide) | exact Or.inl ⟨by omega, by omega⟩ | exact ⟨by omega, by omega⟩ | (rw [sizeLine_eq]; omega) | (refine sz ?_; first | omega | (simp; done))))))
              refine c_draw26 ⟨by decide, by decide⟩ fun r r0 r1 => ?_; (first | simp_arith only [cu3_t0, cu3_t1, cu3_t2, cu3_d1, cu3_d2, cu4_t1, cu4_t2, cu4_t3, cu4_d1, cu4_d2, cu4_d3, List.nil_append, List.cons_append, g9] | simp_arith only [true_and] | skip)
              refine ix_gd 1 r0 (by simpa using r1) (by simp [gd, len_app, t1] <;> omega) fun x hx => ?_
              try simp_arith only [List.nil_append, List.cons_append]
              (repeat (((with_reducible refine And.intro ?_ ?_); focus (first | decide | omega | exact trivial | (intro h; cases h; done) | exact Or.inr (by decide) | exact Or.inl ⟨by omega, by omega⟩ | exact ⟨by omega, by omega⟩ | (rw [sizeLine_eq]; omega) | (refine sz ?_; first | omega | (simp; done))))))
              refine q _ ?_
              simp [gd, *] <;> omega
            · (first | (with_reducible refine stop_i (by with_unfolding_all rfl) ?_) | (simp_arith only [true_and]; with_reducible refine stop_i (by with_unfolding_all rfl) ?_) | skip)
              (first | (with_reducible refine step_i (by with_unfolding_all rfl) ?_) | ((try simp_arith only [true_and]); with_reducible refine step_i (by with_unfolding_all rfl) ?_)); simp_arith only [true_and]
              split
              · (first | (with_reducible refine step_i (by with_unfolding_all rfl) ?_) | ((first | simp_arith only [cu3_t0, cu3_t1, cu3_t2, cu3_d1, cu3_d2, cu4_t1, cu4_t2, cu4_t3, cu4_d1, cu4_d2, cu4_d3, List.nil_append, List.cons_append, g9, List.length_cons, List.length_nil] | simp_arith only [true_and] | skip); with_reducible refine step_i (by with_unfolding_all rfl) ?_)); simp_arith only [cu3_t0, cu3_t1, cu3_t2, cu3_d1, cu3_d2, cu4_t1, cu4_t2, cu4_t3, cu4_d1, cu4_d2, cu4_d3, List.nil_append, List.cons_append, g9, List.length_cons, List.length_nil]
                (repeat (((with_reducible refine And.intro ?_ ?_); focus (first | decide | omega | exact trivial | (intro h; cases h; done) | exact Or.inr (by decide) | exact Or.inl ⟨by omega, by omega⟩ | exact ⟨by omega, by omega⟩ | (rw [sizeLine_eq]; omega) | (refine sz ?_; first | omega | (simp; done))))))
                refine c_draw26 ⟨by decide, by decide⟩ fun r r0 r1 => ?_; (first | simp_arith only [cu3_t0, cu3_t1, cu3_t2, cu3_d1, cu3_d2, cu4_t1, cu4_t2, cu4_t3, cu4_d1, cu4_d2, cu4_d3, List.nil_append, List.cons_append, g9, List.length_cons, List.length_nil] | simp_arith only [true_and] | skip)
                refine ix_gd 2 r0 (by simpa using r1) (by simp [gd] <;> omega) fun x hx => ?_
                exact (q x hx)
              · (first | (with_reducible refine stop_i (by with_unfolding_all rfl) ?_) | (simp_arith only [true_and]; with_reducible refine stop_i (by with_unfolding_all rfl) ?_) | skip)
                (first | (with_reducible refine step_i (by with_unfolding_all rfl) ?_) | ((try simp_arith only [true_and]); with_reducible refine step_i (by with_unfolding_all rfl) ?_)); simp_arith only [true_and]
                split
                · (first | (with_reducible refine stop_i (by with_unfolding_all rfl) ?_) | (simp_arith only [true_and]; with_reducible refine stop_i (by with_unfolding_all rfl) ?_) | skip)
                  (first | (with_reducible refine step_i (by with_unfolding_all rfl) ?_) | ((try simp_arith only [true_and]); with_reducible refine step_i (by with_unfolding_all rfl) ?_)); simp_arith only [true_and]
                  split
                  · (first | (with_reducible refine step_i (by with_unfolding_all rfl) ?_) | ((first | simp_arith only [g39] | simp_arith only [true_and] | skip); with_reducible refine step_i (by with_unfolding_all rfl) ?_)); simp_arith only [g39]
                    refine c_odd fun d hd => ?_; (first | simp_arith only [g39] | simp_arith only [true_and] | skip)
                    exact (q d hd)
                  · (first | (with_reducible refine stop_i (by with_unfolding_all rfl) ?_) | (simp_arith only [true_and]; with_reducible refine stop_i (by with_unfolding_all rfl) ?_) | skip)
                    (first | (with_reducible refine step_i (by with_unfolding_all rfl) ?_) | ((try simp_arith only [true_and]); with_reducible refine step_i (by with_unfolding_all rfl) ?_)); simp_arith only [true_and]
                    refine (q _ ?_)
                    simp [gd] <;> omega
                · (first | (with_reducible refine stop_i (by with_unfolding_all rfl) ?_) | (simp_arith only [true_and]; with_reducible refine stop_i (by with_unfolding_all rfl) ?_) | skip)
                  (first | (with_reducible refine step_i (by with_unfolding_all rfl) ?_) | ((try simp_arith only [true_and]); with_reducible refine step_i (by with_unfolding_all rfl) ?_)); simp_arith only [true_and]
                  split
                  · (first | (with_reducible refine step_i (by with_unfolding_all rfl) ?_) | ((first | simp_arith only [g39] | simp_arith only [true_and] | skip); with_reducible refine step_i (by with_unfolding_all rfl) ?_)); simp_arith only [g39]
                    refine c_odd fun d hd => ?_; (first | simp_arith only [g39] | simp_arith only [true_and] | skip)
                    exact (q d hd)
                  · (first | (with_reducible refine stop_i (by with_unfolding_all rfl) ?_) | (simp_arith only [true_and]; with_reducible refine stop_i (by with_unfolding_all rfl) ?_) | skip)
                    (first | (with_reducible refine step_i (by with_unfolding_all rfl) ?_) | ((try simp_arith only [true_and]); with_reducible refine step_i (by with_unfolding_all rfl) ?_)); simp_arith only [true_and]
                    refine (q _ ?_)
                    simp [gd] <;> omega
  · (first | (with_reducible refine step_i (by with_unfolding_all rfl) ?_) | ((try simp_arith only [true_and]); with_reducible refine step_i (by with_unfolding_all rfl) ?_)); simp_arith only [true_and]
    (first | (with_reducible refine step_i (by with_unfolding_all rfl) ?_) | ((try simp_arith only [true_and]); with_reducible refine step_i (by with_unfolding_all rfl) ?_)); simp_arith only [true_and]
    (first | (with_reducible refine step_i (by with_unfolding_all rfl) ?_) | ((try simp_arith only [true_and]); with_reducible refine step_i (by with_unfolding_all rfl) ?_)); simp_arith only [true_and]
    split
    · rename_i h3
      (first | (with_reducible refine step_i (by with_unfolding_all rfl) ?_) | ((first | simp_arith only [cu3_t0, cu3_t1, cu3_t2, cu3_d1, cu3_d2, cu4_t1, cu4_t2, cu4_t3, cu4_d1, cu4_d2, cu4_d3, List.nil_append, List.cons_append] | simp_arith only [true_and] | skip); with_reducible refine step_i (by with_unfolding_all rfl) ?_)); simp_arith only [cu3_t0, cu3_t1, cu3_t2, cu3_d1, cu3_d2, cu4_t1, cu4_t2, cu4_t3, cu4_d1, cu4_d2, cu4_d3, List.nil_append, List.cons_append]
      (repeat (((with_reducible refine And.intro ?_ ?_); focus (first | decide | omega | exact trivial | (intro h; cases h; done) | exact Or.inr (by decide) | exact Or.inl ⟨by omega, by omega⟩ | exact ⟨by omega, by omega⟩ | (rw [sizeLine_eq]; omega) | (refine sz ?_; first | omega | (simp; done))))))
      refine ix_gd 1 k0 (by simp only [List.length_cons, List.length_nil]; ((try simp only [decide_eq_true_eq, decide_eq_false_iff_not, Bool.not_eq_true, Bool.not_eq_false, Decidable.not_not, ltB_true, leB_true, eqI_true, eqS_true, eqBl_true, ltB_false, leB_false, eqI_false, eqS_false, eqBl_false] at *); omega)) (by simp [gd]) fun x hx => ?_
      try simp_arith only [List.nil_append, List.cons_append]
      (repeat (((with_reducible refine And.intro ?_ ?_); focus (first | decide | omega | exact trivial | (intro h; cases h; done) | exact Or.inr (by decide) | exact Or.inl ⟨by omega, by omega⟩ | exact ⟨by omega, by omega⟩ | (rw [sizeLine_eq]; omega) | (refine sz ?_; first | omega | (simp; done))))))
      refine q _ ?_
      simp [gd, *] <;> omega
    · rename_i h3
      (first | (with_reducible refine stop_i (by with_unfolding_all rfl) ?_) | (simp_arith only [true_and]; with_reducible refine stop_i (by with_unfolding_all rfl) ?_) | skip)
      (first | (with_reducible refine step_i (by with_unfolding_all rfl) ?_) | ((try simp_arith only [true_and]); with_reducible refine step_i (by with_unfolding_all rfl) ?_)); simp_arith only [true_and]
      split
      · rename_i h5
        (first | (with_reducible refine step_i (by with_unfolding_all rfl) ?_) | ((first | simp_arith only [cu3_t0, cu3_t1, cu3_t2, cu3_d1, cu3_d2, cu4_t1, cu4_t2, cu4_t3, cu4_d1, cu4_d2, cu4_d3, List.nil_append, List.cons_append] | simp_arith only [true_and] | skip); with_reducible refine step_i (by with_unfolding_all rfl) ?_)); simp_arith only [cu3_t0, cu3_t1, cu3_t2, cu3_d1, cu3_d2, cu4_t1, cu4_t2, cu4_t3, cu4_d1, cu4_d2, cu4_d3, List.nil_append, List.cons_append]
        (repeat (((with_reducible refine And.intro ?_ ?_); focus (first | decide | omega | exact trivial | (intro h; cases h; done) | exact Or.inr (by decide) | exact Or.inl ⟨by omega, by omega⟩ | exact ⟨by omega, by omega⟩ | (rw [sizeLine_eq]; omega) | (refine sz ?_; first | omega | (simp; done))))))
        refine ix_gd 1 (by ((try simp only [decide_eq_true_eq, decide_eq_false_iff_not, Bool.not_eq_true, Bool.not_eq_false, Decidable.not_not, ltB_true, leB_true, eqI_true, eqS_true, eqBl_true, ltB_false, leB_false, eqI_false, eqS_false, eqBl_false] at *); omega)) (by simp only [List.length_cons, List.length_nil]; ((try simp only [decide_eq_true_eq, decide_eq_false_iff_not, Bool.not_eq_true, Bool.not_eq_false, Decidable.not_not, ltB_true, leB_true, eqI_true, eqS_true, eqBl_true, ltB_false, leB_false, eqI_false, eqS_false, eqBl_false] at *); omega)) (by simp [gd]) fun x hx => ?_
        try simp_arith only [List.nil_append, List.cons_append]
        (repeat (((with_reducible refine And.intro ?_ ?_); focus (first | decide | omega | exact trivial | (intro h; cases h; done) | exact Or.inr (by decide) | exact Or.inl ⟨by omega, by omega⟩ | exact ⟨by omega, by omega⟩ | (rw [sizeLine_eq]; omega) | (refine sz ?_; first | omega | (simp; done))))))
        refine q _ ?_
        simp [gd, *] <;> omega
      · rename_i h5
        (first | (with_reducible refine stop_i (by with_unfolding_all rfl) ?_) | (simp_arith only [true_and]; with_reducible refine stop_i (by with_unfolding_all rfl) ?_) | skip)
        (first | (with_reducible refine step_i (by with_unfolding_all rfl) ?_) | ((try simp_arith only [true_and]); with_reducible refine step_i (by with_unfolding_all rfl) ?_)); simp_arith only [true_and]
        split
        · (first | (with_reducible refine step_i (by with_unfolding_all rfl) ?_) | ((first | simp_arith only [cu3_t0, cu3_t1, cu3_t2, cu3_d1, cu3_d2, cu4_t1, cu4_t2, cu4_t3, cu4_d1, cu4_d2, cu4_d3, List.nil_append, List.cons_append] | simp_arith only [true_and] | skip); with_reducible refine step_i (by with_unfolding_all rfl) ?_)); simp_arith only [cu3_t0, cu3_t1, cu3_t2, cu3_d1, cu3_d2, cu4_t1, cu4_t2, cu4_t3, cu4_d1, cu4_d2, cu4_d3, List.nil_append, List.cons_append]
          (repeat (((with_reducible refine And.intro ?_ ?_); focus (first | decide | omega | exact trivial | (intro h; cases h; done) | exact Or.inr (by decide) | exact Or.inl ⟨by omega, by omega⟩ | exact ⟨by omega, by omega⟩ | (rw [sizeLine_eq]; omega) | (refine sz ?_; first | omega | (simp; done))))))
          try simp_arith only [List.nil_append, List.cons_append]
          (repeat (((with_reducible refine And.intro ?_ ?_); focus (first | decide | omega | exact trivial | (intro h; cases h; done) | exact Or.inr (by decide) | exact Or.inl ⟨by omega, by omega⟩ | exact ⟨by omega, by omega⟩ | (rw [sizeLine_eq]; omega) | (refine sz ?_; first | omega | (simp; done))))))
          refine q _ ?_
          simp [gd, *] <;> omega
        · (first | (with_reducible refine stop_i (by with_unfolding_all rfl) ?_) | (simp_arith only [true_and]; with_reducible refine stop_i (by with_unfolding_all rfl) ?_) | skip)
          (first | (with_reducible refine step_i (by with_unfolding_all rfl) ?_) | ((try simp_arith only [true_and]); with_reducible refine step_i (by with_unfolding_all rfl) ?_)); simp_arith only [true_and]
          split
          · (first | (with_reducible refine step_i (by with_unfolding_all rfl) ?_) | ((first | simp_arith only [cu3_t0, cu3_t1, cu3_t2, cu3_d1, cu3_d2, cu4_t1, cu4_t2, cu4_t3, cu4_d1, cu4_d2, cu4_d3, List.nil_append, List.cons_append, g9] | simp_arith only [true_and] | skip); with_reducible refine step_i (by with_unfolding_all rfl) ?_)); simp_arith only [cu3_t0, cu3_t1, cu3_t2, cu3_d1, cu3_d2, cu4_t1, cu4_t2, cu4_t3, cu4_d1, cu4_d2, cu4_d3, List.nil_append, List.cons_append, g9]
            refine ⟨lg (by omega) (by omega), ?_⟩
            (repeat (((with_reducible refine And.intro ?_ ?_); focus (first | decide | omega | exact trivial | (intro h; cases h; done) | exact Or.inr (by decide) | exact Or.inl ⟨by omega, by omega⟩ | exact ⟨by omega, by omega⟩ | (rw [sizeLine_eq]; omega) | (refine sz ?_; first | omega | (simp; done))))))
            refine c_draw26 ⟨by decide, by decide⟩ fun r r0 r1 => ?_; (first | simp_arith only [cu3_t0, cu3_t1, cu3_t2, cu3_d1, cu3_d2, cu4_t1, cu4_t2, cu4_t3, cu4_d1, cu4_d2, cu4_d3, List.nil_append, List.cons_append, g9] | simp_arith only [true_and] | skip)
            have hl := txt_len (i := s) (by omega) (by omega)
            generalize Str.ofString (toString s) = ts at hl ⊢
            refine ix_gd 1 r0 (by simpa using r1) (by simp [gd, hl]) fun x hx => ?_
            try simp_arith only [List.nil_append, List.cons_append]
            (repeat (((with_reducible refine And.intro ?_ ?_); focus (first | decide | omega | exact trivial | (intro h; cases h; done) | exact Or.inr (by decide) | exact Or.inl ⟨by omega, by omega⟩ | exact ⟨by omega, by omega⟩ | (rw [sizeLine_eq]; omega) | (refine sz ?_; first | omega | (simp; done))))))
            refine q _ ?_
            simp [gd, *] <;> omega
          · (first | (with_reducible refine stop_i (by with_unfolding_all rfl) ?_) | (simp_arith only [true_and]; with_reducible refine stop_i (by with_unfolding_all rfl) ?_) | skip)
            (first | (with_reducible refine step_i (by with_unfolding_all rfl) ?_) | ((try simp_arith only [true_and]); with_reducible refine step_i (by with_unfolding_all rfl) ?_)); simp_arith only [true_and]
            split
            · (first | (with_reducible refine step_i (by with_unfolding_all rfl) ?_) | ((first | simp_arith only [cu3_t0, cu3_t1, cu3_t2, cu3_d1, cu3_d2, cu4_t1, cu4_t2, cu4_t3, cu4_d1, cu4_d2, cu4_d3, List.nil_append, List.cons_append, g9] | simp_arith only [true_and] | skip); with_reducible refine step_i (by with_unfolding_all rfl) ?_)); simp_arith only [cu3_t0, cu3_t1, cu3_t2, cu3_d1, cu3_d2, cu4_t1, cu4_t2, cu4_t3, cu4_d1, cu4_d2, cu4_d3, List.nil_append, List.cons_append, g9]
              (repeat (((with_reducible refine And.intro ?_ ?_); focus (first | decide | omega | exact trivial | (intro h; cases h; done) | exact Or.inr (by decide) | exact Or.inl ⟨by omega, by omega⟩ | exact ⟨by omega, by omega⟩ | (rw [sizeLine_eq]; omega) | (refine sz ?_; first | omega | (simp; done))))))
              refine c_draw26 ⟨by decide, by decide⟩ fun r r0 r1 => ?_; (first | simp_arith only [cu3_t0, cu3_t1, cu3_t2, cu3_d1, cu3_d2, cu4_t1, cu4_t2, cu4_t3, cu4_d1, cu4_d2, cu4_d3, List.nil_append, List.cons_append, g9] | simp_arith only [true_and] | skip)
              refine ix_gd 1 r0 (by simpa using r1) (by simp [gd, len_app, t1] <;> omega) fun x hx => ?_
              try simp_arith only [List.nil_append, List.cons_append]
              (repeat (((with_reducible refine And.intro ?_ ?_); focus (first | decide | omega | exact trivial | (intro h; cases h; done) | exact Or.inr (by decide) | exact Or.inl ⟨by omega, by omega⟩ | exact ⟨by omega, by omega⟩ | (rw [sizeLine_eq]; omega) | (refine sz ?_; first | omega | (simp; done))))))
              refine q _ ?_
              simp [gd, *] <;> omega
            · (first | (with_reducible refine stop_i (by with_unfolding_all rfl) ?_) | (simp_arith only [true_and]; with_reducible refine stop_i (by with_unfolding_all rfl) ?_) | skip)
              (first | (with_reducible refine step_i (by with_unfolding_all rfl) ?_) | ((try simp_arith only [true_and]); with_reducible refine step_i (by with_unfolding_all rfl) ?_)); simp_arith only [true_and]
              split
              · (first | (with_reducible refine step_i (by with_unfolding_all rfl) ?_) | ((first | simp_arith only [cu3_t0, cu3_t1, cu3_t2, cu3_d1, cu3_d2, cu4_t1, cu4_t2, cu4_t3, cu4_d1, cu4_d2, cu4_d3, List.nil_append, List.cons_append, g9, List.length_cons, List.length_nil] | simp_arith only [true_and] | skip); with_reducible refine step_i (by with_unfolding_all rfl) ?_)); simp_arith only [cu3_t0, cu3_t1, cu3_t2, cu3_d1, cu3_d2, cu4_t1, cu4_t2, cu4_t3, cu4_d1, cu4_d2, cu4_d3, List.nil_append, List.cons_append, g9, List.length_cons, List.length_nil]
                (repeat (((with_reducible refine And.intro ?_ ?_); focus (first | decide | omega | exact trivial | (intro h; cases h; done) | exact Or.inr (by decide) | exact Or.inl ⟨by omega, by omega⟩ | exact ⟨by omega, by omega⟩ | (rw [sizeLine_eq]; omega) | (refine sz ?_; first | omega | (simp; done))))))
                refine c_draw26 ⟨by decide, by decide⟩ fun r r0 r1 => ?_; (first | simp_arith only [cu3_t0, cu3_t1, cu3_t2, cu3_d1, cu3_d2, cu4_t1, cu4_t2, cu4_t3, cu4_d1, cu4_d2, cu4_d3, List.nil_append, List.cons_append, g9, List.length_cons, List.length_nil] | simp_arith only [true_and] | skip)
                refine ix_gd 2 r0 (by simpa using r1) (by simp [gd] <;> omega) fun x hx => ?_
                exact (q x hx)
              · (first | (with_reducible refine stop_i (by with_unfolding_all rfl) ?_) | (simp_arith only [true_and]; with_reducible refine stop_i (by with_unfolding_all rfl) ?_) | skip)
                (first | (with_reducible refine step_i (by with_unfolding_all rfl) ?_) | ((try simp_arith only [true_and]); with_reducible refine step_i (by with_unfolding_all rfl) ?_)); simp_arith only [true_and]
                split
                · (first | (with_reducible refine step_i (by with_unfolding_all rfl) ?_) | ((first | simp_arith only [cu3_t0, cu3_t1, cu3_t2, cu3_d1, cu3_d2, cu4_t1, cu4_t2, cu4_t3, cu4_d1, cu4_d2, cu4_d3, List.nil_append, List.cons_append, g9] | simp_arith only [true_and] | skip); with_reducible refine step_i (by with_unfolding_all rfl) ?_)); simp_arith only [cu3_t0, cu3_t1, cu3_t2, cu3_d1, cu3_d2, cu4_t1, cu4_t2, cu4_t3, cu4_d1, cu4_d2, cu4_d3, List.nil_append, List.cons_append, g9]
                  (repeat (((with_reducible refine And.intro ?_ ?_); focus (first | decide | omega | exact trivial | (intro h; cases h; done) | exact Or.inr (by decide) | exact Or.inl ⟨by omega, by omega⟩ | exact ⟨by omega, by omega⟩ | (rw [sizeLine_eq]; omega) | (refine sz ?_; first | omega | (simp; done))))))
                  refine c_draw26 ⟨by decide, by decide⟩ fun r r0 r1 => ?_; (first | simp_arith only [cu3_t0, cu3_t1, cu3_t2, cu3_d1, cu3_d2, cu4_t1, cu4_t2, cu4_t3, cu4_d1, cu4_d2, cu4_d3, List.nil_append, List.cons_append, g9] | simp_arith only [true_and] | skip)
                  refine ix_gd 1 r0 (by simpa using r1) (by simp [gd, len_app, a1]; exact ⟨by decide, by decide, by decide, by omega, by decide⟩) fun x hx => ?_
                  try simp_arith only [List.nil_append, List.cons_append]
                  (repeat (((with_reducible refine And.intro ?_ ?_); focus (first | decide | omega | exact trivial | (intro h; cases h; done) | exact Or.inr (by decide) | exact Or.inl ⟨by omega, by omega⟩ | exact ⟨by omega, by omega⟩ | (rw [sizeLine_eq]; omega) | (refine sz ?_; first | omega | (simp; done))))))
                  refine q _ ?_
                  simp [gd, *] <;> omega
                · (first | (with_reducible refine stop_i (by with_unfolding_all rfl) ?_) | (simp_arith only [true_and]; with_reducible refine stop_i (by with_unfolding_all rfl) ?_) | skip)
                  (first | (with_reducible refine step_i (by with_unfolding_all rfl) ?_) | ((try simp_arith only [true_and]); with_reducible refine step_i (by with_unfolding_all rfl) ?_)); simp_arith only [true_and]
                  split
                  · (first | (with_reducible refine step_i (by with_unfolding_all rfl) ?_) | ((first | simp_arith only [g39] | simp_arith only [true_and] | skip); with_reducible refine step_i (by with_unfolding_all rfl) ?_)); simp_arith only [g39]
                    refine c_odd fun d hd => ?_; (first | simp_arith only [g39] | simp_arith only [true_and] | skip)
                    exact (q d hd)
                  · (first | (with_reducible refine stop_i (by with_unfolding_all rfl) ?_) | (simp_arith only [true_and]; with_reducible refine stop_i (by with_unfolding_all rfl) ?_) | skip)
                    (first | (with_reducible refine step_i (by with_unfolding_all rfl) ?_) | ((try simp_arith only [true_and]); with_reducible refine step_i (by with_unfolding_all rfl) ?_)); simp_arith only [true_and]
                    refine (q _ ?_)
                    simp [gd] <;> omega
end
end DL
/-! V_p25: papers spoilt, edits told -/
local macro_rules | `(tactic| simp_arith! only [$xs,*]) => `(tactic| simp (maxSteps := 4000000) only [DL.k1, DL.k2, DL.k3, DL.k4, DL.k5, DL.k6, DL.k7, DL.k8, DL.k9, DL.k10, DL.k11, DL.k12, DL.k13, DL.k14, DL.k15, DL.k16, DL.k17, DL.k18, DL.k19, DL.k20, DL.k21, DL.k22, DL.k23, DL.k24, DL.k25, DL.k26, DL.k27, DL.k28, DL.k29, DL.k30, DL.k31, DL.k32, DL.k33, DL.k34, DL.k35, DL.k36, DL.k37, DL.k38, DL.k39, DL.k40, DL.k41, DL.k42, DL.k43, DL.k44, DL.k45, DL.k46, DL.k47, DL.k48, DL.k49, DL.k50, DL.k51, DL.k52, DL.k53, DL.k54, DL.k55, DL.k56, DL.k57, DL.k58, DL.k59, DL.k60, DL.k61, DL.k62, DL.k63, DL.k64, DL.k65, DL.k66, DL.k67, DL.k68, DL.k69, DL.k70, DL.k71, DL.k72, DL.k73, DL.k74, DL.k75, DL.k76, DL.kr1, DL.kr2, DL.k77, DL.k78, DL.k79, DL.k80, DL.k81, DL.k82, DL.k83, DL.k84, DL.k85, DL.k86, DL.k87, DL.k88, DL.k89, DL.k90, DL.k91, DL.k92, DL.k93, DL.k94, DL.k95, DL.k96, DL.k97, DL.k98, DL.k99, DL.k101, DL.k102, DL.k103, DL.k105, DL.k106, DL.k107, DL.k108, DL.k109, DL.k110, DL.k112, DL.k114, DL.k116, DL.k118, DL.k120, DL.k122, DL.k124, DL.k126, DL.w0, DL.w1, DL.w2, DL.w3, DL.w4, DL.w5, DL.w6, DL.w7, DL.w8, DL.w9, DL.w10, DL.w11, DL.w12, DL.w13, DL.w14, DL.w15, DL.w16, DL.w17, DL.w18, DL.w19, DL.w20, DL.w21, DL.w22, DL.w23, DL.w24, DL.w25, DL.w26, DL.w27, DL.w28, DL.w29, DL.w30, DL.w31, DL.w32, DL.w33, DL.w34, DL.w35, DL.w36, DL.w37, DL.w38, DL.w39, DL.w40, DL.w41, DL.w42, DL.w43, DL.w44, DL.w45, DL.w46, DL.w47, DL.w48, DL.w49, DL.w50, DL.w51, DL.w52, DL.w53, DL.w54, DL.w55, DL.w56, DL.w57, DL.w58, DL.w59, DL.w60, DL.w61, DL.w62, DL.w63, DL.w64, DL.w65, DL.w66, DL.w67, DL.w68, DL.w69, DL.w70, DL.w71, DL.w72, DL.w73, DL.w74, DL.w75, DL.w76, DL.w77, DL.w78, DL.w79, DL.w80, DL.w81, DL.w82, DL.w83, DL.w84, DL.w85, DL.w86, DL.w87, DL.w88, DL.w89, DL.w90, DL.w91, DL.w92, DL.o0, DL.o1, DL.o2, DL.o3, DL.o4, DL.o5, DL.o6, DL.o7, DL.o8, DL.o9, DL.o10, DL.o11, DL.o12, DL.o13, DL.o14, DL.o15, DL.o16, DL.o17, DL.o18, DL.o19, DL.o20, DL.o21, DL.o22, DL.o23, DL.o24, DL.o25, DL.o26, DL.o27, DL.o28, DL.o29, DL.o30, DL.o31, DL.o32, DL.o33, DL.o34, DL.o35, DL.o36, DL.o37, DL.o38, DL.o39, DL.o40, DL.o41, DL.o42, DL.o43, DL.o44, DL.o45, DL.o46, DL.o47, DL.o48, DL.o49, DL.o50, DL.o51, DL.o52, DL.o53, DL.o54, DL.o55, DL.o56, DL.o57, DL.o58, DL.o59, DL.o60, DL.o61, DL.o62, DL.o63, DL.o64, DL.o65, DL.o66, DL.o67, DL.o68, DL.o69, DL.o70, DL.o71, DL.o72, DL.o73, DL.o74, DL.o75, DL.o76, DL.o77, DL.o78, DL.o79, DL.o80, DL.o81, DL.o82, DL.o83, DL.o84, DL.o85, DL.o86, DL.o87, DL.o88, DL.o89, DL.o90, DL.o91, DL.o92, DL.o93, DL.o94, DL.o95, DL.o96, DL.o97, DL.o98, DL.o99, DL.o100, DL.o101, DL.o102, DL.o103, DL.o104, DL.o105, DL.o106, DL.o107, DL.o108, DL.o109, DL.o110, DL.o111, DL.o112, DL.o113, DL.o114, DL.o115, DL.o116, DL.o117, DL.o118, DL.o119, DL.o120, DL.o121, DL.o122, DL.o123, DL.o124, DL.o125, DL.o126, DL.o127, DL.o128, DL.o129, DL.o130, DL.o131, DL.o132, DL.o133, DL.o134, DL.o135, DL.o136, DL.o137, DL.o138, DL.o139, DL.o140, DL.o141, DL.o142, DL.o143, DL.o144, DL.o145, DL.o146, DL.o147, DL.o148, DL.o149, DL.o150, DL.o151, DL.o152, DL.o153, DL.o154, DL.o155, DL.o156, DL.o157, DL.o158, DL.o159, DL.o160, DL.o161, DL.o162, DL.o163, DL.o164, DL.o165, DL.o166, DL.o167, DL.o168, DL.o169, DL.o170, DL.o171, DL.o172, DL.o173, DL.o174, DL.o175, DL.o176, DL.o177, DL.o178, DL.o179, DL.o180, DL.o181, DL.o182, DL.o183, DL.o184, DL.o185, DL.o186, DL.o187, DL.o188, DL.o189, DL.o190, DL.o191, DL.o192, DL.o193, DL.o194, DL.o195, DL.o196, DL.o197, DL.o198, DL.o199, DL.o200, DL.o201, DL.o202, DL.o203, DL.o204, DL.o205, DL.o206, DL.o207, DL.o208, DL.o209, DL.o210, DL.o211, DL.o212, DL.o213, DL.o214, DL.o215, DL.o216, DL.o217, DL.o218, DL.o219, DL.o220, DL.o221, DL.o222, DL.o223, DL.o224, DL.o225, DL.o226, DL.o227, DL.o228, DL.o229, DL.o230, DL.o231, DL.o232, DL.o233, DL.o234, DL.o235, DL.o236, DL.o237, DL.o238, DL.o239, DL.o240, DL.o241, DL.o242, DL.o243, DL.o244, DL.o245, DL.o246, DL.o247, DL.o248, DL.o249, DL.o250, ↓reduceIte, String.reduceBEq, List.length_cons, List.length_nil, Int.reduceLT, Int.reduceLE, Int.reduceAdd, Int.reduceSub, Int.reduceMul, Int.reduceNeg, Int.reduceEq, Int.reduceToNat, Nat.reduceAdd, Nat.reduceSub, Nat.reduceMul, Nat.reduceLT, Nat.reduceLeDiff, Nat.reduceEqDiff, List.length_map, List.length_append, List.length_drop, List.length_take, List.length_range, List.length_reverse, Int.toNat_natCast, List.nil_append, List.cons_append, List.map_cons, List.map_nil, $xs,*])
namespace DL
open PySem PySem.Spec PyProof.Rows L2
theorem gd_tup' {n : Nat} {l : List D} (h : l.length ≤ 10000) (h2 : ∀ x ∈ l, gd n x) : gd (n + 1) (.tup l) := ⟨h, h2⟩
theorem gd_lst' {n : Nat} {l : List D} (h : l.length ≤ 10000) (h2 : ∀ x ∈ l, gd n x) : gd (n + 1) (.lst l) := ⟨h, h2⟩
theorem mem_app {α : Type} {P : α → Prop} {l m : List α} (h : ∀ x ∈ l, P x) (h2 : ∀ x ∈ m, P x) : ∀ x ∈ l ++ m, P x := fun x hx => (List.mem_append.mp hx).elim (h x) (h2 x)
theorem mem_one {α : Type} {P : α → Prop} {a : α} (h : P a) : ∀ x ∈ [a], P x := fun x hx => by rw [List.mem_singleton.mp hx]; exact h
theorem cutD_mem {l : List D} {a b : Option Int} {x : D} (h : x ∈ cutD l a b) : x ∈ l := List.mem_of_mem_drop (List.mem_of_mem_take h)
theorem cutD_len (l : List D) (a b : Option Int) : (cutD l a b).length ≤ l.length := by
  unfold cutD
  rw [List.length_take, List.length_drop]; omega
def rowOk (x : PEnt) : Prop := x.nm.length ≤ 8 ∧ (-1000000000 ≤ x.s ∧ x.s ≤ 1000000000) ∧ (-1000000000 ≤ x.e ∧ x.e ≤ 1000000000) ∧ x.n.length ≤ 1000
theorem row_gd {x : PEnt} (h : rowOk x) : gd 1 x.d := by
  obtain ⟨a, _, _, b⟩ := h
  simp [PEnt.d, gd]
  omega
def sSpPaper (P : Program) (w : World) : FSp := fun ds Q E => ∃ ps : List PEnt, ds = [stL.d P w, .tup (ps.map PEnt.d)] ∧ ps.length ≤ 100 ∧ (∀ x ∈ ps, rowOk x) ∧ ∀ d, gd 3 d → Q d
section
variable {P : Program} {w : World} {Γ : Gm} {E : DX → DEnv → Prop} {Q : D → Prop} {QE : DX → Prop} {ds : List D}
theorem c_sppaper {ps : List PEnt} (hp : ps.length ≤ 100) (ho : ∀ x ∈ ps, rowOk x) (q : ∀ d, gd 3 d → Q d) : sSpPaper P w [stL.d P w, .tup (ps.map PEnt.d)] Q QE := ⟨ps, rfl, hp, ho, q⟩
theorem w_law_spoilt_paper (g9 : Γ.f 9 = sDraw26 P w) (g39 : Γ.f 39 = sOdd P w) (g40 : Γ.f 40 = sSpoilt P w) (h : sSpPaper P w ds Q QE) : wSs Γ E b_law_spoilt_paper (zz Q) (ent0 n_law_spoilt_paper ds) := by
  obtain ⟨ps, rfl, hp, ho, q⟩ := h
  show wSs Γ E b_law_spoilt_paper _ [.sh (stL.d P w), .sh (.tup (ps.map PEnt.d)), .un, .un, .un]
  have hs := sizeLine_eq
  have hg : ∀ x ∈ ps.map PEnt.d, gd 1 x := fun x hx => by
    obtain ⟨y, hy, rfl⟩ := List.mem_map.mp hx
    exact row_gd (ho y hy)
  have hg2 : ∀ x ∈ ps.map PEnt.d, gd 2 x := fun x hx => gd_up (hg x hx)
  have hL : (ps.map PEnt.d).length ≤ 100 := by rw [List.length_map]; exact hp
  have cm : ∀ a b, (cutD (ps.map PEnt.d) a b).length ≤ 100 ∧ ∀ x ∈ cutD (ps.map PEnt.d) a b, gd 2 x := fun a b => ⟨Nat.le_trans (cutD_len _ a b) hL, fun x hx => hg2 x (cutD_mem hx)⟩
  (first | (with_reducible refine step_i (by with_unfolding_all rfl) ?_) | ((first | simp_arith! only [g9] | simp_arith! only [true_and] | skip); with_reducible refine step_i (by with_unfolding_all rfl) ?_)); simp_arith! only [g9] ; (repeat (((with_reducible refine And.intro ?_ ?_); focus (first | decide | omega | exact trivial | (intro h; cases h; done) | exact Or.inr (by decide) | exact Or.inl ⟨by omega, by omega⟩ | exact ⟨by omega, by omega⟩ | (rw [sizeLine_eq]; omega) | (refine sz ?_; first | omega | (simp; done))))))
  (repeat (((with_reducible refine And.intro ?_ ?_); focus (first | decide | omega | exact trivial | (intro h; cases h; done) | exact Or.inr (by decide) | exact Or.inl ⟨by omega, by omega⟩ | exact ⟨by omega, by omega⟩ | (rw [sizeLine_eq]; omega) | (refine sz ?_; first | omega | (simp; done)))))); refine c_draw26 (by constructor <;> first | decide | omega) fun k k0 k1 => ?_; (first | simp_arith! only [g9] | simp_arith! only [true_and] | skip) ; (repeat (((with_reducible refine And.intro ?_ ?_); focus (first | decide | omega | exact trivial | (intro h; cases h; done) | exact Or.inr (by decide) | exact Or.inl ⟨by omega, by omega⟩ | exact ⟨by omega, by omega⟩ | (rw [sizeLine_eq]; omega) | (refine sz ?_; first | omega | (simp; done))))))
  (first | (with_reducible refine step_i (by with_unfolding_all rfl) ?_) | ((first | simp_arith! only [g9] | simp_arith! only [true_and] | skip); with_reducible refine step_i (by with_unfolding_all rfl) ?_)); simp_arith! only [g9] ; (repeat (((with_reducible refine And.intro ?_ ?_); focus (first | decide | omega | exact trivial | (intro h; cases h; done) | exact Or.inr (by decide) | exact Or.inl ⟨by omega, by omega⟩ | exact ⟨by omega, by omega⟩ | (rw [sizeLine_eq]; omega) | (refine sz ?_; first | omega | (simp; done))))))
  (repeat (((with_reducible refine And.intro ?_ ?_); focus (first | decide | omega | exact trivial | (intro h; cases h; done) | exact Or.inr (by decide) | exact Or.inl ⟨by omega, by omega⟩ | exact ⟨by omega, by omega⟩ | (rw [sizeLine_eq]; omega) | (refine sz ?_; first | omega | (simp; done)))))); refine c_draw26 (by constructor <;> first | decide | omega) fun a a0 a1 => ?_; (first | simp_arith! only [g9] | simp_arith! only [true_and] | skip) ; (repeat (((with_reducible refine And.intro ?_ ?_); focus (first | decide | omega | exact trivial | (intro h; cases h; done) | exact Or.inr (by decide) | exact Or.inl ⟨by omega, by omega⟩ | exact ⟨by omega, by omega⟩ | (rw [sizeLine_eq]; omega) | (refine sz ?_; first | omega | (simp; done))))))
  have last : ∀ s, wSs Γ E b_law_spoilt_paper_2 (zz Q) [.sh (stL.d P w), .sh (.tup (ps.map PEnt.d)), .sh (.int k), .sh (.int a), s] := fun s => by
    (first | (with_reducible refine step_i (by with_unfolding_all rfl) ?_) | ((try simp_arith! only [true_and]); with_reducible refine step_i (by with_unfolding_all rfl) ?_)); simp_arith! only [true_and] ; (repeat (((with_reducible refine And.intro ?_ ?_); focus (first | decide | omega | exact trivial | (intro h; cases h; done) | exact Or.inr (by decide) | exact Or.inl ⟨by omega, by omega⟩ | exact ⟨by omega, by omega⟩ | (rw [sizeLine_eq]; omega) | (refine sz ?_; first | omega | (simp; done))))))
    split
    · (first | (with_reducible refine step_i (by with_unfolding_all rfl) ?_) | ((first | simp_arith! only [g9] | simp_arith! only [true_and] | skip); with_reducible refine step_i (by with_unfolding_all rfl) ?_)); simp_arith! only [g9] ; (repeat (((with_reducible refine And.intro ?_ ?_); focus (first | decide | omega | exact trivial | (intro h; cases h; done) | exact Or.inr (by decide) | exact Or.inl ⟨by omega, by omega⟩ | exact ⟨by omega, by omega⟩ | (rw [sizeLine_eq]; omega) | (refine sz ?_; first | omega | (simp; done))))))
      (repeat (((with_reducible refine And.intro ?_ ?_); focus (first | decide | omega | exact trivial | (intro h; cases h; done) | exact Or.inr (by decide) | exact Or.inl ⟨by omega, by omega⟩ | exact ⟨by omega, by omega⟩ | (rw [sizeLine_eq]; omega) | (refine sz ?_; first | omega | (simp; done)))))); refine c_draw26 (by constructor <;> first | decide | omega) fun r r0 r1 => ?_; (first | simp_arith! only [g9] | simp_arith! only [true_and] | skip) ; (repeat (((with_reducible refine And.intro ?_ ?_); focus (first | decide | omega | exact trivial | (intro h; cases h; done) | exact Or.inr (by decide) | exact Or.inl ⟨by omega, by omega⟩ | exact ⟨by omega, by omega⟩ | (rw [sizeLine_eq]; omega) | (refine sz ?_; first | omega | (simp; done))))))
      refine ix_gd 3 r0 (by simpa using r1) ?_ fun x hx => ?_
      · intro x hx
        simp only [List.mem_cons, List.not_mem_nil, or_false] at hx
        rcases hx with rfl | rfl | rfl | rfl
        · exact gd_lst' (by omega) hg2
        · exact gd_tup' (by simp; omega) (mem_app hg2 (mem_one trivial))
        · exact gd_tup' (by simp; omega) (mem_app hg2 (mem_one (by simp [gd])))
        · exact gd_tup' (by simp) (mem_one (gd_tup' (by omega) hg))
      · exact q x hx
    · (first | (with_reducible refine step_i (by with_unfolding_all rfl) ?_) | ((first | simp_arith! only [g39] | simp_arith! only [true_and] | skip); with_reducible refine step_i (by with_unfolding_all rfl) ?_)); simp_arith! only [g39] ; (repeat (((with_reducible refine And.intro ?_ ?_); focus (first | decide | omega | exact trivial | (intro h; cases h; done) | exact Or.inr (by decide) | exact Or.inl ⟨by omega, by omega⟩ | exact ⟨by omega, by omega⟩ | (rw [sizeLine_eq]; omega) | (refine sz ?_; first | omega | (simp; done))))))
      refine c_odd fun d hd => ?_; (first | simp_arith! only [g39] | simp_arith! only [true_and] | skip) ; (repeat (((with_reducible refine And.intro ?_ ?_); focus (first | decide | omega | exact trivial | (intro h; cases h; done) | exact Or.inr (by decide) | exact Or.inl ⟨by omega, by omega⟩ | exact ⟨by omega, by omega⟩ | (rw [sizeLine_eq]; omega) | (refine sz ?_; first | omega | (simp; done))))))
      exact q d (gd_up hd)
  have at_ : a < ps.length → ∃ y ∈ ps, atI (ps.map PEnt.d) a = some (.tup [.str y.nm, .int y.s, .int y.e, .str y.n]) := fun h => by
    obtain ⟨d, e, hd⟩ := ix_any (l := ps.map PEnt.d) (r := a) (fun d => ∃ y ∈ ps, d = y.d) a0 (by rw [List.length_map]; exact h) fun x hx => by
      obtain ⟨y, hy, rfl⟩ := List.mem_map.mp hx
      exact ⟨y, hy, rfl⟩
    obtain ⟨y, hy, rfl⟩ := hd
    exact ⟨y, hy, e⟩
  have rest : ∀ s, wSs Γ E b_law_spoilt_paper_9 (zz Q) [.sh (stL.d P w), .sh (.tup (ps.map PEnt.d)), .sh (.int k), .sh (.int a), s] := fun s => by
    have c1 := cm none (some a)
    have c2 := cm (some a) none
    have c3 := cutD_len (cutD (ps.map PEnt.d) none (some a)) (some (-1)) none
    have c3m : ∀ x ∈ cutD (cutD (ps.map PEnt.d) none (some a)) (some (-1)) none, gd 2 x := fun x hx => c1.2 x (cutD_mem hx)
    (first | (with_reducible refine step_i (by with_unfolding_all rfl) ?_) | ((try simp_arith! only [true_and]); with_reducible refine step_i (by with_unfolding_all rfl) ?_)); simp_arith! only [true_and] ; (repeat (((with_reducible refine And.intro ?_ ?_); focus (first | decide | omega | exact trivial | (intro h; cases h; done) | exact Or.inr (by decide) | exact Or.inl ⟨by omega, by omega⟩ | exact ⟨by omega, by omega⟩ | (rw [sizeLine_eq]; omega) | (refine sz ?_; first | omega | (simp; done))))))
    split
    · (first | (with_reducible refine step_i (by with_unfolding_all rfl) ?_) | ((try simp_arith! only [true_and]); with_reducible refine step_i (by with_unfolding_all rfl) ?_)); simp_arith! only [true_and] ; (repeat (((with_reducible refine And.intro ?_ ?_); focus (first | decide | omega | exact trivial | (intro h; cases h; done) | exact Or.inr (by decide) | exact Or.inl ⟨by omega, by omega⟩ | exact ⟨by omega, by omega⟩ | (rw [sizeLine_eq]; omega) | (refine sz ?_; first | omega | (simp; done))))))
      exact q _ (gd_tup' (by simp; omega) (mem_app c2.2 c1.2))
    · (first | (with_reducible refine step_i (by with_unfolding_all rfl) ?_) | ((try simp_arith! only [true_and]); with_reducible refine step_i (by with_unfolding_all rfl) ?_)); simp_arith! only [true_and] ; (repeat (((with_reducible refine And.intro ?_ ?_); focus (first | decide | omega | exact trivial | (intro h; cases h; done) | exact Or.inr (by decide) | exact Or.inl ⟨by omega, by omega⟩ | exact ⟨by omega, by omega⟩ | (rw [sizeLine_eq]; omega) | (refine sz ?_; first | omega | (simp; done))))))
      split
      · (first | (with_reducible refine step_i (by with_unfolding_all rfl) ?_) | ((try simp_arith! only [true_and]); with_reducible refine step_i (by with_unfolding_all rfl) ?_)); simp_arith! only [true_and] ; (repeat (((with_reducible refine And.intro ?_ ?_); focus (first | decide | omega | exact trivial | (intro h; cases h; done) | exact Or.inr (by decide) | exact Or.inl ⟨by omega, by omega⟩ | exact ⟨by omega, by omega⟩ | (rw [sizeLine_eq]; omega) | (refine sz ?_; first | omega | (simp; done))))))
        exact q _ (gd_tup' (by simp; omega) (mem_app (mem_app c1.2 c3m) c2.2))
      · (first | (with_reducible refine step_i (by with_unfolding_all rfl) ?_) | ((try simp_arith! only [true_and]); with_reducible refine step_i (by with_unfolding_all rfl) ?_)); simp_arith! only [true_and] ; (repeat (((with_reducible refine And.intro ?_ ?_); focus (first | decide | omega | exact trivial | (intro h; cases h; done) | exact Or.inr (by decide) | exact Or.inl ⟨by omega, by omega⟩ | exact ⟨by omega, by omega⟩ | (rw [sizeLine_eq]; omega) | (refine sz ?_; first | omega | (simp; done))))))
        split
        · split
          · rename_i ha
            obtain ⟨y, hy, e⟩ := at_ ha
            have yo := ho y hy
            obtain ⟨y1, y2, y3, y4⟩ := yo
            (first | (with_reducible refine step_i (by with_unfolding_all rfl) ?_) | ((first | simp_arith! only [e] | simp_arith! only [true_and] | skip); with_reducible refine step_i (by with_unfolding_all rfl) ?_)); simp_arith! only [e] ; (repeat (((with_reducible refine And.intro ?_ ?_); focus (first | decide | omega | exact trivial | (intro h; cases h; done) | exact Or.inr (by decide) | exact Or.inl ⟨by omega, by omega⟩ | exact ⟨by omega, by omega⟩ | (rw [sizeLine_eq]; omega) | (refine sz ?_; first | omega | (simp; done))))))
            (first | (with_reducible refine step_i (by with_unfolding_all rfl) ?_) | ((first | simp_arith! only [g9, e] | simp_arith! only [true_and] | skip); with_reducible refine step_i (by with_unfolding_all rfl) ?_)); simp_arith! only [g9, e] ; (repeat (((with_reducible refine And.intro ?_ ?_); focus (first | decide | omega | exact trivial | (intro h; cases h; done) | exact Or.inr (by decide) | exact Or.inl ⟨by omega, by omega⟩ | exact ⟨by omega, by omega⟩ | (rw [sizeLine_eq]; omega) | (refine sz ?_; first | omega | (simp; done))))))
            (repeat (((with_reducible refine And.intro ?_ ?_); focus (first | decide | omega | exact trivial | (intro h; cases h; done) | exact Or.inr (by decide) | exact Or.inl ⟨by omega, by omega⟩ | exact ⟨by omega, by omega⟩ | (rw [sizeLine_eq]; omega) | (refine sz ?_; first | omega | (simp; done)))))); refine c_draw26 (by constructor <;> first | decide | omega) fun r r0 r1 => ?_; (first | simp_arith! only [g9, e] | simp_arith! only [true_and] | skip) ; (repeat (((with_reducible refine And.intro ?_ ?_); focus (first | decide | omega | exact trivial | (intro h; cases h; done) | exact Or.inr (by decide) | exact Or.inl ⟨by omega, by omega⟩ | exact ⟨by omega, by omega⟩ | (rw [sizeLine_eq]; omega) | (refine sz ?_; first | omega | (simp; done))))))
            exact q _ (gd_tup' (by simp; omega) (mem_app (mem_app c1.2 (mem_one (by simp [gd]; exact ⟨by omega, by decide⟩))) c2.2))
          · (try simp_arith! only [true_and]) ; (repeat (((with_reducible refine And.intro ?_ ?_); focus (first | decide | omega | exact trivial | (intro h; cases h; done) | exact Or.inr (by decide) | exact Or.inl ⟨by omega, by omega⟩ | exact ⟨by omega, by omega⟩ | (rw [sizeLine_eq]; omega) | (refine sz ?_; first | omega | (simp; done))))))
            exact last _
        · (try simp_arith! only [true_and]) ; (repeat (((with_reducible refine And.intro ?_ ?_); focus (first | decide | omega | exact trivial | (intro h; cases h; done) | exact Or.inr (by decide) | exact Or.inl ⟨by omega, by omega⟩ | exact ⟨by omega, by omega⟩ | (rw [sizeLine_eq]; omega) | (refine sz ?_; first | omega | (simp; done))))))
          exact last _
  (first | (with_reducible refine step_i (by with_unfolding_all rfl) ?_) | ((try simp_arith! only [true_and]); with_reducible refine step_i (by with_unfolding_all rfl) ?_)); simp_arith! only [true_and] ; (repeat (((with_reducible refine And.intro ?_ ?_); focus (first | decide | omega | exact trivial | (intro h; cases h; done) | exact Or.inr (by decide) | exact Or.inl ⟨by omega, by omega⟩ | exact ⟨by omega, by omega⟩ | (rw [sizeLine_eq]; omega) | (refine sz ?_; first | omega | (simp; done))))))
  split
  · split
    · rename_i ha
      obtain ⟨y, hy, e⟩ := at_ ha
      have yo := ho y hy
      obtain ⟨y1, y2, y3, y4⟩ := yo
      have c1 := cm none (some a)
      have c2 := cm (some (a + 1)) none
      (first | (with_reducible refine step_i (by with_unfolding_all rfl) ?_) | ((first | simp_arith! only [e, g40] | simp_arith! only [true_and] | skip); with_reducible refine step_i (by with_unfolding_all rfl) ?_)); simp_arith! only [e, g40] ; (repeat (((with_reducible refine And.intro ?_ ?_); focus (first | decide | omega | exact trivial | (intro h; cases h; done) | exact Or.inr (by decide) | exact Or.inl ⟨by omega, by omega⟩ | exact ⟨by omega, by omega⟩ | (rw [sizeLine_eq]; omega) | (refine sz ?_; first | omega | (simp; done))))))
      refine c_spoilt ⟨y.s, y.e, y.n, y2, y3, y4, .inr ⟨rfl, y.nm, y1, rfl⟩⟩ fun d hd => ?_; (first | simp_arith! only [e, g40] | simp_arith! only [true_and] | skip) ; (repeat (((with_reducible refine And.intro ?_ ?_); focus (first | decide | omega | exact trivial | (intro h; cases h; done) | exact Or.inr (by decide) | exact Or.inl ⟨by omega, by omega⟩ | exact ⟨by omega, by omega⟩ | (rw [sizeLine_eq]; omega) | (refine sz ?_; first | omega | (simp; done))))))
      exact q _ (gd_tup' (by simp; omega) (mem_app (mem_app c1.2 (mem_one hd)) c2.2))
    · (try simp_arith! only [true_and]) ; (repeat (((with_reducible refine And.intro ?_ ?_); focus (first | decide | omega | exact trivial | (intro h; cases h; done) | exact Or.inr (by decide) | exact Or.inl ⟨by omega, by omega⟩ | exact ⟨by omega, by omega⟩ | (rw [sizeLine_eq]; omega) | (refine sz ?_; first | omega | (simp; done))))))
      exact rest _
  · (try simp_arith! only [true_and]) ; (repeat (((with_reducible refine And.intro ?_ ?_); focus (first | decide | omega | exact trivial | (intro h; cases h; done) | exact Or.inr (by decide) | exact Or.inl ⟨by omega, by omega⟩ | exact ⟨by omega, by omega⟩ | (rw [sizeLine_eq]; omega) | (refine sz ?_; first | omega | (simp; done))))))
    exact rest _
/-! ### told -/
def toldF (t : Str) (d : D) : D := if fitD t d = true then (match d with
  | .tup [.int a, .int b, .str n] => .str (editF t a b n)
  | _ => .non) else .lst [.str "edit", d, .bl true]
def sTold25 : FSp := fun ds Q E => ∃ t d n, ds = [.str t, d] ∧ t.length ≤ 10000 ∧ gd n d ∧ Q (toldF t d)
theorem c_told25 {t : Str} {d : D} {n : Nat} (ht : t.length ≤ 10000) (hd : gd n d) (q : Q (toldF t d)) : sTold25 [.str t, d] Q QE := ⟨t, d, n, rfl, ht, hd, q⟩
theorem w_law_told25 (g4 : Γ.f 4 = sEdited) (hc : Γ.cls 3 = some ([Str.ofString "value"] : List Str)) (h1 : Γ.sub 3 "InvalidEdit" = some true) (h2 : Γ.sub 3 "KnotError" = some true) (h3 : Γ.sub 3 "ValueError" = some true) (h : sTold25 ds Q QE) :
    wSs Γ E b_law_told_v2 (zz Q) (ent0 n_law_told_v2 ds) := by
  obtain ⟨t, d, n, rfl, ht, hd, q⟩ := h
  show wSs Γ E b_law_told_v2 _ [.sh (.str t), .sh d, .un]
  have hz := sizeLine_eq
  (first | (with_reducible refine step_i (by with_unfolding_all rfl) ?_) | ((try simp_arith! only [true_and]); with_reducible refine step_i (by with_unfolding_all rfl) ?_)); simp_arith! only [true_and] ; (repeat (((with_reducible refine And.intro ?_ ?_); focus (first | decide | omega | exact trivial | (intro h; cases h; done) | exact Or.inr (by decide) | exact Or.inl ⟨by omega, by omega⟩ | exact ⟨by omega, by omega⟩ | (rw [sizeLine_eq]; omega) | (refine sz ?_; first | omega | (simp; done))))))
  (first | (with_reducible refine step_i (by with_unfolding_all rfl) ?_) | ((first | simp_arith! only [g4] | simp_arith! only [true_and] | skip); with_reducible refine step_i (by with_unfolding_all rfl) ?_)); simp_arith! only [g4] ; (repeat (((with_reducible refine And.intro ?_ ?_); focus (first | decide | omega | exact trivial | (intro h; cases h; done) | exact Or.inr (by decide) | exact Or.inl ⟨by omega, by omega⟩ | exact ⟨by omega, by omega⟩ | (rw [sizeLine_eq]; omega) | (refine sz ?_; first | omega | (simp; done))))))
  refine ⟨t, d, rfl, by omega, gd_ok1 hd, ?_, ?_, ?_⟩
  · rintro a b m rfl
    cases n with
    | zero => exact hd.elim
    | succ n =>
      have := hd.2 (.str m) (by simp)
      cases n <;> exact this
  · rintro a b m rfl hf
    unfold toldF at q
    rw [if_pos hf] at q
    (try simp_arith! only [true_and]) ; (repeat (((with_reducible refine And.intro ?_ ?_); focus (first | decide | omega | exact trivial | (intro h; cases h; done) | exact Or.inr (by decide) | exact Or.inl ⟨by omega, by omega⟩ | exact ⟨by omega, by omega⟩ | (rw [sizeLine_eq]; omega) | (refine sz ?_; first | omega | (simp; done))))))
    exact q
  · intro hf
    unfold toldF at q
    rw [if_neg (by rw [hf]; exact Bool.false_ne_true)] at q
    simp_arith! only [xEdit, h1]
    refine ⟨rfl, ?_⟩
    (first | (with_reducible refine step_i (by with_unfolding_all rfl) ?_) | ((first | simp_arith! only [hc, h2, h3] | simp_arith! only [true_and] | skip); with_reducible refine step_i (by with_unfolding_all rfl) ?_)); simp_arith! only [hc, h2, h3] ; (repeat (((with_reducible refine And.intro ?_ ?_); focus (first | decide | omega | exact trivial | (intro h; cases h; done) | exact Or.inr (by decide) | exact Or.inl ⟨by omega, by omega⟩ | exact ⟨by omega, by omega⟩ | (rw [sizeLine_eq]; omega) | (refine sz ?_; first | omega | (simp; done))))))
    exact ⟨_, by simp [List.lookup], rfl, rfl, sz (by simp), rfl, q⟩
/-! ### edits told -/
theorem pick3 {a b c r : Int} {R : D → Prop} (Pr : Int → Prop) (ha : Pr a) (hb : Pr b) (hc : Pr c) (h0 : 0 ≤ r) (h1 : r < 3) (q : ∀ v, Pr v → R (.int v)) : ∃ d, atI [.int a, .int b, .int c] r = some d ∧ R d :=
  ix_any R h0 (by simpa using h1) fun x hx => by
    simp only [List.mem_cons, List.not_mem_nil, or_false] at hx
    rcases hx with rfl | rfl | rfl <;> exact q _ (by assumption)
theorem pick2 {a b r : Int} {R : D → Prop} (Pr : Int → Prop) (ha : Pr a) (hb : Pr b) (h0 : 0 ≤ r) (h1 : r < 2) (q : ∀ v, Pr v → R (.int v)) : ∃ d, atI [.int a, .int b] r = some d ∧ R d :=
  ix_any R h0 (by simpa using h1) fun x hx => by
    simp only [List.mem_cons, List.not_mem_nil, or_false] at hx
    rcases hx with rfl | rfl <;> exact q _ (by assumption)
theorem cut_none {t : Str} {b : Option Int} : cutS t none b = cutS t (some 0) b := by
  have z : HT.sIx t.cps.toList.length 0 (some 0) = HT.sIx t.cps.toList.length 0 none := by
    have := HT.sIx_nat t.cps.toList.length 0 0
    rw [HT.sIx_none]
    simpa using this
  unfold cutS
  first
    | rw [z]
    | (rw [toL_len] at z; rw [z])
theorem edit_done {t s : Str} {i j : Int} : editF t i j s = doneF t [⟨i, j, s⟩] Str.empty 0 := by
  show cutS t none (some i) ++ s ++ cutS t (some j) none = Str.empty ++ cutS t (some 0) (some i) ++ s ++ cutS t (some j) none
  rw [Str.empty_append, cut_none]
theorem told_good {t s : Str} {i j : Int} (h : isEditD (.tup [.int i, .int j, .str s]) = true) (hj : j ≤ t.length) : toldF t (.tup [.int i, .int j, .str s]) = .str (doneF t [⟨i, j, s⟩] Str.empty 0) := by
  have f : fitD t (.tup [.int i, .int j, .str s]) = true := by
    show (isEditD _ && decide (j ≤ t.length)) = true
    rw [h, decide_eq_true hj]; rfl
  unfold toldF
  rw [if_pos f]
  exact congrArg D.str edit_done
theorem told_far {t s : Str} {i j : Int} (hj : ¬ j ≤ t.length) : toldF t (.tup [.int i, .int j, .str s]) = .lst [.str "edit", .tup [.int i, .int j, .str s], .bl true] := by
  have f : fitD t (.tup [.int i, .int j, .str s]) = false := by
    show (isEditD _ && decide (j ≤ t.length)) = false
    rw [decide_eq_false hj, Bool.and_false]
  unfold toldF
  rw [if_neg (by rw [f]; exact Bool.false_ne_true)]
theorem told_bad {t : Str} {d : D} (h : isEditD d = false) : toldF t d = .lst [.str "edit", d, .bl true] := by
  have f : fitD t d = false := by
    unfold fitD
    split
    · rw [h]; rfl
    · rfl
  unfold toldF
  rw [if_neg (by rw [f]; exact Bool.false_ne_true)]
theorem told_dep {t : Str} {d : D} (hd : gd 2 d) : dep 3 (toldF t d) := by
  unfold toldF
  split
  · split <;> trivial
  · exact ⟨by simp, fun x hx => by
      simp only [List.mem_cons, List.not_mem_nil, or_false] at hx
      rcases hx with rfl | rfl | rfl
      · trivial
      · exact gd_dep hd
      · trivial⟩
def sEdd (P : Program) (w : World) : FSp := fun ds Q E => ∃ t, ds = [stL.d P w, .str t] ∧ t.length ≤ 10000 ∧ Q (.bl true)
theorem c_edd {t : Str} (ht : t.length ≤ 10000) (q : Q (.bl true)) : sEdd P w [stL.d P w, .str t] Q QE := ⟨t, rfl, ht, q⟩
theorem w_law_edited (g9 : Γ.f 9 = sDraw26 P w) (g15 : Γ.f 15 = sString P w) (g40 : Γ.f 40 = sSpoilt P w) (g36 : Γ.f 36 = sLEdit) (g18 : Γ.f 18 = sDone) (g42 : Γ.f 42 = sTold25) (g2 : Γ.f 2 = sIsEdit) (g34 : Γ.f 34 = sSame 4) (h : sEdd P w ds Q QE) :
    wSs Γ E b_law_edited (zz Q) (ent0 n_law_edited ds) := by
  obtain ⟨t, rfl, ht, q⟩ := h
  show wSs Γ E b_law_edited _ [.sh (stL.d P w), .sh (.str t), .un, .un, .un, .un, .un, .un, .un]
  have hz := sizeLine_eq
  (first | (with_reducible refine step_i (by with_unfolding_all rfl) ?_) | ((try simp_arith! only [true_and]); with_reducible refine step_i (by with_unfolding_all rfl) ?_)); simp_arith! only [true_and] ; (repeat (((with_reducible refine And.intro ?_ ?_); focus (first | decide | omega | exact trivial | (intro h; cases h; done) | exact Or.inr (by decide) | exact Or.inl ⟨by omega, by omega⟩ | exact ⟨by omega, by omega⟩ | (rw [sizeLine_eq]; omega) | (refine sz ?_; first | omega | (simp; done))))))
  refine forL_i (fun ds ρ => ∃ s2 s3 s4 s5 s6 s7 s8, (∀ d ∈ ds, ∃ i : Int, d = .int i) ∧ ρ = [.sh (stL.d P w), .sh (.str t), s2, s3, s4, s5, s6, s7, s8]) ?_ ?_ _ _ ⟨_, _, _, _, _, _, _, ?_, rfl⟩
  · rintro ρ ⟨s2, s3, s4, s5, s6, s7, s8, _, rfl⟩
    (first | (with_reducible refine step_i (by with_unfolding_all rfl) ?_) | ((try simp_arith! only [true_and]); with_reducible refine step_i (by with_unfolding_all rfl) ?_)); simp_arith! only [true_and] ; (repeat (((with_reducible refine And.intro ?_ ?_); focus (first | decide | omega | exact trivial | (intro h; cases h; done) | exact Or.inr (by decide) | exact Or.inl ⟨by omega, by omega⟩ | exact ⟨by omega, by omega⟩ | (rw [sizeLine_eq]; omega) | (refine sz ?_; first | omega | (simp; done))))))
    exact q
  · rintro d ds ρ ⟨s2, s3, s4, s5, s6, s7, s8, hi, rfl⟩ N hN
    obtain ⟨i, rfl⟩ := hi d List.mem_cons_self
    have on : ∀ s2 s3 s4 s5 s6 s7 s8, N [.sh (stL.d P w), .sh (.str t), s2, s3, s4, s5, s6, s7, s8] := fun s2 s3 s4 s5 s6 s7 s8 => hN _ ⟨s2, s3, s4, s5, s6, s7, s8, fun y hy => hi y (List.mem_cons_of_mem _ hy), rfl⟩
    (try simp_arith! only [true_and]) ; (repeat (((with_reducible refine And.intro ?_ ?_); focus (first | decide | omega | exact trivial | (intro h; cases h; done) | exact Or.inr (by decide) | exact Or.inl ⟨by omega, by omega⟩ | exact ⟨by omega, by omega⟩ | (rw [sizeLine_eq]; omega) | (refine sz ?_; first | omega | (simp; done))))))
    (first | (with_reducible refine step_i (by with_unfolding_all rfl) ?_) | ((try simp_arith! only [true_and]); with_reducible refine step_i (by with_unfolding_all rfl) ?_)); simp_arith! only [true_and] ; (repeat (((with_reducible refine And.intro ?_ ?_); focus (first | decide | omega | exact trivial | (intro h; cases h; done) | exact Or.inr (by decide) | exact Or.inl ⟨by omega, by omega⟩ | exact ⟨by omega, by omega⟩ | (rw [sizeLine_eq]; omega) | (refine sz ?_; first | omega | (simp; done))))))
    (first | (with_reducible refine step_i (by with_unfolding_all rfl) ?_) | ((first | simp_arith! only [g9] | simp_arith! only [true_and] | skip); with_reducible refine step_i (by with_unfolding_all rfl) ?_)); simp_arith! only [g9] ; (repeat (((with_reducible refine And.intro ?_ ?_); focus (first | decide | omega | exact trivial | (intro h; cases h; done) | exact Or.inr (by decide) | exact Or.inl ⟨by omega, by omega⟩ | exact ⟨by omega, by omega⟩ | (rw [sizeLine_eq]; omega) | (refine sz ?_; first | omega | (simp; done))))))
    (repeat (((with_reducible refine And.intro ?_ ?_); focus (first | decide | omega | exact trivial | (intro h; cases h; done) | exact Or.inr (by decide) | exact Or.inl ⟨by omega, by omega⟩ | exact ⟨by omega, by omega⟩ | (rw [sizeLine_eq]; omega) | (refine sz ?_; first | omega | (simp; done)))))); refine c_draw26 (by constructor <;> first | decide | omega) fun a a0 a1 => ?_; (first | simp_arith! only [g9] | simp_arith! only [true_and] | skip) ; (repeat (((with_reducible refine And.intro ?_ ?_); focus (first | decide | omega | exact trivial | (intro h; cases h; done) | exact Or.inr (by decide) | exact Or.inl ⟨by omega, by omega⟩ | exact ⟨by omega, by omega⟩ | (rw [sizeLine_eq]; omega) | (refine sz ?_; first | omega | (simp; done))))))
    (repeat (((with_reducible refine And.intro ?_ ?_); focus (first | decide | omega | exact trivial | (intro h; cases h; done) | exact Or.inr (by decide) | exact Or.inl ⟨by omega, by omega⟩ | exact ⟨by omega, by omega⟩ | (rw [sizeLine_eq]; omega) | (refine sz ?_; first | omega | (simp; done)))))); refine c_draw26 (by constructor <;> first | decide | omega) fun b b0 b1 => ?_; (first | simp_arith! only [g9] | simp_arith! only [true_and] | skip) ; (repeat (((with_reducible refine And.intro ?_ ?_); focus (first | decide | omega | exact trivial | (intro h; cases h; done) | exact Or.inr (by decide) | exact Or.inl ⟨by omega, by omega⟩ | exact ⟨by omega, by omega⟩ | (rw [sizeLine_eq]; omega) | (refine sz ?_; first | omega | (simp; done))))))
    refine pick3 (fun v => 0 ≤ v ∧ v ≤ t.length) ⟨by omega, by omega⟩ ⟨by omega, by omega⟩ ⟨by omega, by omega⟩ b0 b1 fun v hv => ?_
    (first | (with_reducible refine step_i (by with_unfolding_all rfl) ?_) | ((first | simp_arith! only [g9] | simp_arith! only [true_and] | skip); with_reducible refine step_i (by with_unfolding_all rfl) ?_)); simp_arith! only [g9] ; (repeat (((with_reducible refine And.intro ?_ ?_); focus (first | decide | omega | exact trivial | (intro h; cases h; done) | exact Or.inr (by decide) | exact Or.inl ⟨by omega, by omega⟩ | exact ⟨by omega, by omega⟩ | (rw [sizeLine_eq]; omega) | (refine sz ?_; first | omega | (simp; done))))))
    (repeat (((with_reducible refine And.intro ?_ ?_); focus (first | decide | omega | exact trivial | (intro h; cases h; done) | exact Or.inr (by decide) | exact Or.inl ⟨by omega, by omega⟩ | exact ⟨by omega, by omega⟩ | (rw [sizeLine_eq]; omega) | (refine sz ?_; first | omega | (simp; done)))))); refine c_draw26 (by constructor <;> first | decide | omega) fun c c0 c1 => ?_; (first | simp_arith! only [g9] | simp_arith! only [true_and] | skip) ; (repeat (((with_reducible refine And.intro ?_ ?_); focus (first | decide | omega | exact trivial | (intro h; cases h; done) | exact Or.inr (by decide) | exact Or.inl ⟨by omega, by omega⟩ | exact ⟨by omega, by omega⟩ | (rw [sizeLine_eq]; omega) | (refine sz ?_; first | omega | (simp; done))))))
    (repeat (((with_reducible refine And.intro ?_ ?_); focus (first | decide | omega | exact trivial | (intro h; cases h; done) | exact Or.inr (by decide) | exact Or.inl ⟨by omega, by omega⟩ | exact ⟨by omega, by omega⟩ | (rw [sizeLine_eq]; omega) | (refine sz ?_; first | omega | (simp; done)))))); refine c_draw26 (by constructor <;> first | decide | omega) fun e e0 e1 => ?_; (first | simp_arith! only [g9] | simp_arith! only [true_and] | skip) ; (repeat (((with_reducible refine And.intro ?_ ?_); focus (first | decide | omega | exact trivial | (intro h; cases h; done) | exact Or.inr (by decide) | exact Or.inl ⟨by omega, by omega⟩ | exact ⟨by omega, by omega⟩ | (rw [sizeLine_eq]; omega) | (refine sz ?_; first | omega | (simp; done))))))
    refine pick3 (fun x => v ≤ x ∧ x ≤ t.length) ⟨by omega, by omega⟩ ⟨by omega, by omega⟩ ⟨by omega, by omega⟩ e0 e1 fun x hx => ?_
    (first | (with_reducible refine step_i (by with_unfolding_all rfl) ?_) | ((first | simp_arith! only [g9, g15] | simp_arith! only [true_and] | skip); with_reducible refine step_i (by with_unfolding_all rfl) ?_)); simp_arith! only [g9, g15] ; (repeat (((with_reducible refine And.intro ?_ ?_); focus (first | decide | omega | exact trivial | (intro h; cases h; done) | exact Or.inr (by decide) | exact Or.inl ⟨by omega, by omega⟩ | exact ⟨by omega, by omega⟩ | (rw [sizeLine_eq]; omega) | (refine sz ?_; first | omega | (simp; done))))))
    (repeat (((with_reducible refine And.intro ?_ ?_); focus (first | decide | omega | exact trivial | (intro h; cases h; done) | exact Or.inr (by decide) | exact Or.inl ⟨by omega, by omega⟩ | exact ⟨by omega, by omega⟩ | (rw [sizeLine_eq]; omega) | (refine sz ?_; first | omega | (simp; done)))))); refine c_draw26 (by constructor <;> first | decide | omega) fun f f0 f1 => ?_; (first | simp_arith! only [g9, g15] | simp_arith! only [true_and] | skip) ; (repeat (((with_reducible refine And.intro ?_ ?_); focus (first | decide | omega | exact trivial | (intro h; cases h; done) | exact Or.inr (by decide) | exact Or.inl ⟨by omega, by omega⟩ | exact ⟨by omega, by omega⟩ | (rw [sizeLine_eq]; omega) | (refine sz ?_; first | omega | (simp; done))))))
    refine pick2 (fun z => 4 ≤ z ∧ z ≤ 1000) (by decide) (by decide) f0 f1 fun z hz2 => ?_
    obtain ⟨m, rfl⟩ := Int.eq_ofNat_of_zero_le (a := z) (by omega)
    (try simp_arith! only [true_and]) ; (repeat (((with_reducible refine And.intro ?_ ?_); focus (first | decide | omega | exact trivial | (intro h; cases h; done) | exact Or.inr (by decide) | exact Or.inl ⟨by omega, by omega⟩ | exact ⟨by omega, by omega⟩ | (rw [sizeLine_eq]; omega) | (refine sz ?_; first | omega | (simp; done))))))
    refine c_string (m := m) (by omega) (by omega) fun s hs hp => ?_; (first | simp_arith! only [g9, g15] | simp_arith! only [true_and] | skip) ; (repeat (((with_reducible refine And.intro ?_ ?_); focus (first | decide | omega | exact trivial | (intro h; cases h; done) | exact Or.inr (by decide) | exact Or.inl ⟨by omega, by omega⟩ | exact ⟨by omega, by omega⟩ | (rw [sizeLine_eq]; omega) | (refine sz ?_; first | omega | (simp; done))))))
    have rest : ∀ d s2 s7 s8, gd 2 d → wSs Γ E b_law_edited_6 { nx := N, rt := fun d _ => Q d, bk := wSs Γ E b_law_edited_0 (zz Q), ct := N } [.sh (stL.d P w), .sh (.str t), s2, .sh (.int t.length), .sh (.int v), .sh (.int x), .sh d, s7, s8] := fun d s2 s7 s8 hd => by
      have fin : ∀ due, due = toldF t d → wSs Γ E b_law_edited_2 { nx := N, rt := fun d _ => Q d, bk := wSs Γ E b_law_edited_0 (zz Q), ct := N } [.sh (stL.d P w), .sh (.str t), s2, .sh (.int t.length), .sh (.int v), .sh (.int x), .sh d, .sh due, .sh (.bl (isEditD d))] := fun due e => by
        (first | (with_reducible refine step_i (by with_unfolding_all rfl) ?_) | ((first | simp_arith! only [g42, g2, g34] | simp_arith! only [true_and] | skip); with_reducible refine step_i (by with_unfolding_all rfl) ?_)); simp_arith! only [g42, g2, g34] ; (repeat (((with_reducible refine And.intro ?_ ?_); focus (first | decide | omega | exact trivial | (intro h; cases h; done) | exact Or.inr (by decide) | exact Or.inl ⟨by omega, by omega⟩ | exact ⟨by omega, by omega⟩ | (rw [sizeLine_eq]; omega) | (refine sz ?_; first | omega | (simp; done))))))
        refine c_told25 ht hd ?_; (first | simp_arith! only [g42, g2, g34] | simp_arith! only [true_and] | skip) ; (repeat (((with_reducible refine And.intro ?_ ?_); focus (first | decide | omega | exact trivial | (intro h; cases h; done) | exact Or.inr (by decide) | exact Or.inl ⟨by omega, by omega⟩ | exact ⟨by omega, by omega⟩ | (rw [sizeLine_eq]; omega) | (refine sz ?_; first | omega | (simp; done))))))
        refine c_is_edit (gd_ok1 hd) ?_; (first | simp_arith! only [g42, g2, g34] | simp_arith! only [true_and] | skip) ; (repeat (((with_reducible refine And.intro ?_ ?_); focus (first | decide | omega | exact trivial | (intro h; cases h; done) | exact Or.inr (by decide) | exact Or.inl ⟨by omega, by omega⟩ | exact ⟨by omega, by omega⟩ | (rw [sizeLine_eq]; omega) | (refine sz ?_; first | omega | (simp; done))))))
        refine c_same (by rw [e]) ⟨by simp, fun x hx => ?_⟩ ?_; (first | simp_arith! only [g42, g2, g34] | simp_arith! only [true_and] | skip) ; (repeat (((with_reducible refine And.intro ?_ ?_); focus (first | decide | omega | exact trivial | (intro h; cases h; done) | exact Or.inr (by decide) | exact Or.inl ⟨by omega, by omega⟩ | exact ⟨by omega, by omega⟩ | (rw [sizeLine_eq]; omega) | (refine sz ?_; first | omega | (simp; done))))))
        · simp only [List.mem_cons, List.not_mem_nil, or_false] at hx
          rcases hx with rfl | rfl
          · exact told_dep hd
          · trivial
        · (try simp_arith! only [true_and]) ; (repeat (((with_reducible refine And.intro ?_ ?_); focus (first | decide | omega | exact trivial | (intro h; cases h; done) | exact Or.inr (by decide) | exact Or.inl ⟨by omega, by omega⟩ | exact ⟨by omega, by omega⟩ | (rw [sizeLine_eq]; omega) | (refine sz ?_; first | omega | (simp; done))))))
          exact on _ _ _ _ _ _ _
      (first | (with_reducible refine step_i (by with_unfolding_all rfl) ?_) | ((try simp_arith! only [true_and]); with_reducible refine step_i (by with_unfolding_all rfl) ?_)); simp_arith! only [true_and] ; (repeat (((with_reducible refine And.intro ?_ ?_); focus (first | decide | omega | exact trivial | (intro h; cases h; done) | exact Or.inr (by decide) | exact Or.inl ⟨by omega, by omega⟩ | exact ⟨by omega, by omega⟩ | (rw [sizeLine_eq]; omega) | (refine sz ?_; first | omega | (simp; done))))))
      (first | (with_reducible refine step_i (by with_unfolding_all rfl) ?_) | ((first | simp_arith! only [g36] | simp_arith! only [true_and] | skip); with_reducible refine step_i (by with_unfolding_all rfl) ?_)); simp_arith! only [g36] ; (repeat (((with_reducible refine And.intro ?_ ?_); focus (first | decide | omega | exact trivial | (intro h; cases h; done) | exact Or.inr (by decide) | exact Or.inl ⟨by omega, by omega⟩ | exact ⟨by omega, by omega⟩ | (rw [sizeLine_eq]; omega) | (refine sz ?_; first | omega | (simp; done))))))
      refine c_ledit hd ?_; (first | simp_arith! only [g36] | simp_arith! only [true_and] | skip) ; (repeat (((with_reducible refine And.intro ?_ ?_); focus (first | decide | omega | exact trivial | (intro h; cases h; done) | exact Or.inr (by decide) | exact Or.inl ⟨by omega, by omega⟩ | exact ⟨by omega, by omega⟩ | (rw [sizeLine_eq]; omega) | (refine sz ?_; first | omega | (simp; done))))))
      (first | (with_reducible refine step_i (by with_unfolding_all rfl) ?_) | ((try simp_arith! only [true_and]); with_reducible refine step_i (by with_unfolding_all rfl) ?_)); simp_arith! only [true_and] ; (repeat (((with_reducible refine And.intro ?_ ?_); focus (first | decide | omega | exact trivial | (intro h; cases h; done) | exact Or.inr (by decide) | exact Or.inl ⟨by omega, by omega⟩ | exact ⟨by omega, by omega⟩ | (rw [sizeLine_eq]; omega) | (refine sz ?_; first | omega | (simp; done))))))
      by_cases hE : isEditD d = true
      · rw [if_pos hE]
        obtain ⟨i, j, s, rfl, h0, h1, h2⟩ := editD_inv hE
        (try simp_arith! only [true_and]) ; (repeat (((with_reducible refine And.intro ?_ ?_); focus (first | decide | omega | exact trivial | (intro h; cases h; done) | exact Or.inr (by decide) | exact Or.inl ⟨by omega, by omega⟩ | exact ⟨by omega, by omega⟩ | (rw [sizeLine_eq]; omega) | (refine sz ?_; first | omega | (simp; done))))))
        split
        · rename_i hj
          (first | (with_reducible refine step_i (by with_unfolding_all rfl) ?_) | ((first | simp_arith! only [g18] | simp_arith! only [true_and] | skip); with_reducible refine step_i (by with_unfolding_all rfl) ?_)); simp_arith! only [g18] ; (repeat (((with_reducible refine And.intro ?_ ?_); focus (first | decide | omega | exact trivial | (intro h; cases h; done) | exact Or.inr (by decide) | exact Or.inl ⟨by omega, by omega⟩ | exact ⟨by omega, by omega⟩ | (rw [sizeLine_eq]; omega) | (refine sz ?_; first | omega | (simp; done))))))
          refine c_done (es := [⟨i, j, s⟩]) 1000000 ht (by simp) (mem_one (by have := hd.2 (.str s) (by simp); exact this)) fun z ez hz => ?_; (first | simp_arith! only [g18] | simp_arith! only [true_and] | skip) ; (repeat (((with_reducible refine And.intro ?_ ?_); focus (first | decide | omega | exact trivial | (intro h; cases h; done) | exact Or.inr (by decide) | exact Or.inl ⟨by omega, by omega⟩ | exact ⟨by omega, by omega⟩ | (rw [sizeLine_eq]; omega) | (refine sz ?_; first | omega | (simp; done))))))
          subst ez
          exact fin _ (told_good hE hj).symm
        · rename_i hj
          exact fin _ (told_far hj).symm
      · rw [if_neg hE]
        rw [Bool.not_eq_true] at hE
        (try simp_arith! only [true_and]) ; (repeat (((with_reducible refine And.intro ?_ ?_); focus (first | decide | omega | exact trivial | (intro h; cases h; done) | exact Or.inr (by decide) | exact Or.inl ⟨by omega, by omega⟩ | exact ⟨by omega, by omega⟩ | (rw [sizeLine_eq]; omega) | (refine sz ?_; first | omega | (simp; done))))))
        exact fin _ (told_bad hE).symm
    (first | (with_reducible refine step_i (by with_unfolding_all rfl) ?_) | ((try simp_arith! only [true_and]); with_reducible refine step_i (by with_unfolding_all rfl) ?_)); simp_arith! only [true_and] ; (repeat (((with_reducible refine And.intro ?_ ?_); focus (first | decide | omega | exact trivial | (intro h; cases h; done) | exact Or.inr (by decide) | exact Or.inl ⟨by omega, by omega⟩ | exact ⟨by omega, by omega⟩ | (rw [sizeLine_eq]; omega) | (refine sz ?_; first | omega | (simp; done))))))
    split
    · (first | (with_reducible refine step_i (by with_unfolding_all rfl) ?_) | ((first | simp_arith! only [g40] | simp_arith! only [true_and] | skip); with_reducible refine step_i (by with_unfolding_all rfl) ?_)); simp_arith! only [g40] ; (repeat (((with_reducible refine And.intro ?_ ?_); focus (first | decide | omega | exact trivial | (intro h; cases h; done) | exact Or.inr (by decide) | exact Or.inl ⟨by omega, by omega⟩ | exact ⟨by omega, by omega⟩ | (rw [sizeLine_eq]; omega) | (refine sz ?_; first | omega | (simp; done))))))
      refine c_spoilt ⟨v, x, s, by omega, by omega, by omega, .inl ⟨rfl, rfl⟩⟩ fun d hd => ?_; (first | simp_arith! only [g40] | simp_arith! only [true_and] | skip) ; (repeat (((with_reducible refine And.intro ?_ ?_); focus (first | decide | omega | exact trivial | (intro h; cases h; done) | exact Or.inr (by decide) | exact Or.inl ⟨by omega, by omega⟩ | exact ⟨by omega, by omega⟩ | (rw [sizeLine_eq]; omega) | (refine sz ?_; first | omega | (simp; done))))))
      exact rest _ _ _ _ hd
    · (try simp_arith! only [true_and]) ; (repeat (((with_reducible refine And.intro ?_ ?_); focus (first | decide | omega | exact trivial | (intro h; cases h; done) | exact Or.inr (by decide) | exact Or.inl ⟨by omega, by omega⟩ | exact ⟨by omega, by omega⟩ | (rw [sizeLine_eq]; omega) | (refine sz ?_; first | omega | (simp; done))))))
      refine rest _ _ _ _ ?_
      simp [gd]; omega
  · intro d hd
    obtain ⟨i, _, rfl⟩ := List.mem_map.mp hd
    exact ⟨_, rfl⟩
end
end DL
/-! P_l25: the plain law of k25 -/
namespace DL
open PySem PySem.Spec PyProof.Rows L2
def PEnt.ed (x : PEnt) : Ed := ⟨x.s, x.e, x.n⟩
def own (nm : Str) (ps : List PEnt) : List Ed := (ps.filter fun x => decide (x.nm = nm)).map PEnt.ed
def mkE (nm : Str) (x : Ed) : PEnt := ⟨nm, x.s, x.e, x.n⟩
theorem own_app {nm : Str} {l m : List PEnt} : own nm (l ++ m) = own nm l ++ own nm m := by
  unfold own; rw [List.filter_append, List.map_append]
theorem own_self {nm : Str} {es : List Ed} : own nm (es.map (mkE nm)) = es := by
  unfold own
  rw [List.filter_eq_self.mpr (fun x hx => by obtain ⟨y, _, rfl⟩ := List.mem_map.mp hx; exact decide_eq_true rfl), List.map_map]
  exact (List.map_congr_left fun x _ => by rfl).trans (List.map_id es)
theorem own_other {nm nm' : Str} (h : nm' ≠ nm) {es : List Ed} : own nm (es.map (mkE nm')) = [] := by
  unfold own
  rw [List.filter_eq_nil_iff.mpr (fun x hx => by obtain ⟨y, _, rfl⟩ := List.mem_map.mp hx; rw [decide_eq_false (show ¬ (mkE nm' y).nm = nm from h)]; exact Bool.false_ne_true)]
  rfl
theorem cut_mid {t : Str} {i j : Int} (h0 : 0 ≤ i) (h1 : i ≤ j) (h2 : j ≤ t.length) : (cutS t (some i) (some j)).cps.toList = (t.cps.toList.drop i.toNat).take (j.toNat - i.toNat) := by
  obtain ⟨i, rfl⟩ := Int.eq_ofNat_of_zero_le h0
  obtain ⟨j, rfl⟩ := Int.eq_ofNat_of_zero_le (Int.le_trans h0 h1)
  unfold cutS
  rw [HT.sIx_nat, HT.sIx_nat, List.toList_toArray, Nat.min_eq_left (by omega), Nat.min_eq_left (by omega), Int.toNat_natCast, Int.toNat_natCast]
theorem cut_from {t : Str} {i : Int} (h0 : 0 ≤ i) (h2 : i ≤ t.length) : (cutS t (some i) none).cps.toList = t.cps.toList.drop i.toNat := by
  obtain ⟨i, rfl⟩ := Int.eq_ofNat_of_zero_le h0
  unfold cutS
  rw [HT.sIx_nat, HT.sIx_none, List.toList_toArray, Nat.min_eq_left (by omega), Int.toNat_natCast]
  refine List.take_of_length_le ?_
  rw [List.length_drop, toL_len]
  exact Nat.le_refl _
theorem cut_to {t : Str} {i : Int} (h0 : 0 ≤ i) (h2 : i ≤ t.length) : (cutS t none (some i)).cps.toList = t.cps.toList.take i.toNat := by
  obtain ⟨i, rfl⟩ := Int.eq_ofNat_of_zero_le h0
  unfold cutS
  rw [HT.sIx_nat, HT.sIx_none, List.toList_toArray, Nat.min_eq_left (by omega), Int.toNat_natCast, List.drop_zero, Nat.sub_zero]
def doneL (T : List Nat) : List Ed → Nat → List Nat
  | [], p => T.drop p
  | x :: r, p => (T.drop p).take (x.s.toNat - p) ++ x.n.cps.toList ++ doneL T r x.e.toNat
def Asc (L : Int) : Int → List Ed → Prop
  | p, [] => 0 ≤ p ∧ p ≤ L
  | p, x :: r => 0 ≤ p ∧ p ≤ x.s ∧ x.s ≤ x.e ∧ Asc L x.e r
theorem asc_le {L : Int} : ∀ {es : List Ed} {p : Int}, Asc L p es → 0 ≤ p ∧ p ≤ L
  | [], _, h => h
  | x :: r, p, h => by
    obtain ⟨h0, h1, h2, h3⟩ := h
    have := asc_le h3
    omega
theorem asc_of {L : Int} : ∀ {es : List Ed} {p : Int}, (∀ x ∈ es, 0 ≤ x.s ∧ x.s ≤ x.e ∧ x.e ≤ L) → (es.Pairwise fun x y => x.e ≤ y.s) → 0 ≤ p → p ≤ L → (∀ x ∈ es, p ≤ x.s) → Asc L p es
  | [], _, _, _, h0, h1, _ => ⟨h0, h1⟩
  | x :: r, p, h, hp, h0, h1, h2 => by
    have hx := h x List.mem_cons_self
    rw [List.pairwise_cons] at hp
    exact ⟨h0, h2 x List.mem_cons_self, hx.2.1, asc_of (fun y hy => h y (List.mem_cons_of_mem _ hy)) hp.2 (by omega) hx.2.2 hp.1⟩
theorem doneF_L {t : Str} : ∀ {es : List Ed} {p : Int} {acc : Str}, Asc t.length p es → (doneF t es acc p).cps.toList = acc.cps.toList ++ doneL t.cps.toList es p.toNat
  | [], p, acc, h => by
    show (acc ++ cutS t (some p) none).cps.toList = _
    rw [toL_app, cut_from h.1 h.2]; rfl
  | x :: r, p, acc, h => by
    obtain ⟨h0, h1, h2, h3⟩ := h
    have h4 := asc_le h3
    rw [doneF_cons, doneF_L h3, toL_app, toL_app, cut_mid h0 h1 (by omega)]
    simp only [doneL, List.append_assoc]

/-! ### one text -/
def chE : List Ed → Str → Str
  | [], t => t
  | x :: r, t => cutS (chE r t) none (some x.s) ++ x.n ++ cutS (chE r t) (some x.e) none
theorem chF_own {nm t : Str} : ∀ ps : List PEnt, chF ps nm t = chE (own nm ps) t
  | [] => rfl
  | x :: r => by
    have ih := chF_own (nm := nm) (t := t) r
    rw [chF_cons]
    by_cases e : x.nm = nm
    · have o : own nm (x :: r) = x.ed :: own nm r := by
        unfold own
        rw [List.filter_cons_of_pos (p := fun x : PEnt => decide (x.nm = nm)) (decide_eq_true e)]; rfl
      rw [if_pos e, o, ih]; rfl
    · have o : own nm (x :: r) = own nm r := by
        unfold own
        rw [List.filter_cons_of_neg (p := fun x : PEnt => decide (x.nm = nm)) (by rw [decide_eq_false e]; exact Bool.false_ne_true)]
      rw [if_neg e, o, ih]
theorem chE_L {t : Str} : ∀ {es : List Ed} {p : Int}, Asc t.length p es → (chE es t).cps.toList = t.cps.toList.take p.toNat ++ doneL t.cps.toList es p.toNat
  | [], p, h => by
    show t.cps.toList = _ ++ t.cps.toList.drop _
    rw [List.take_append_drop]
  | x :: r, p, h => by
    obtain ⟨h0, h1, h2, h3⟩ := h
    have h4 := asc_le h3
    have ih := chE_L h3
    have hl : x.e.toNat ≤ t.cps.toList.length := by rw [toL_len]; omega
    have l1 : (t.cps.toList.take x.e.toNat).length = x.e.toNat := by rw [List.length_take]; omega
    have hC : (x.e.toNat : Nat) ≤ (chE r t).length := by
      rw [← toL_len, ih, List.length_append, l1]; omega
    show (cutS (chE r t) none (some x.s) ++ x.n ++ cutS (chE r t) (some x.e) none).cps.toList = _
    rw [toL_app, toL_app, cut_to (by omega) (by omega), cut_from (by omega) (by omega), ih]
    have d1 : (t.cps.toList.take x.e.toNat ++ doneL t.cps.toList r x.e.toNat).drop x.e.toNat = doneL t.cps.toList r x.e.toNat := by
      conv => lhs; arg 1; rw [← l1]
      exact List.drop_left
    have d2 : (t.cps.toList.take x.e.toNat ++ doneL t.cps.toList r x.e.toNat).take x.s.toNat = t.cps.toList.take x.s.toNat := by
      rw [List.take_append_of_le_length (by rw [l1]; omega), List.take_take, Nat.min_eq_left (by omega)]
    rw [d1, d2]
    have e1 : t.cps.toList.take x.s.toNat = t.cps.toList.take p.toNat ++ (t.cps.toList.drop p.toNat).take (x.s.toNat - p.toNat) := by
      have : x.s.toNat = p.toNat + (x.s.toNat - p.toNat) := by omega
      conv => lhs; rw [this, List.take_add]
    rw [e1]
    simp only [doneL, List.append_assoc]
theorem chE_done {t : Str} {es : List Ed} (h : EdsOk t.length es) : chE es t = doneF t es Str.empty 0 := by
  have a : Asc t.length 0 es := asc_of (fun x hx => by have := h.one x hx; exact ⟨this.1, this.2.1, this.2.2.1⟩) h.pw (by omega) (by omega) fun x hx => (h.one x hx).1
  refine str_ext ?_
  rw [chE_L a, doneF_L a]
  rfl
/-! ### the law's rows -/
abbrev Rw := Str × List Ed
def Rw.d (r : Rw) : D := .tup [.str r.1, .lst (r.2.map Ed.d)]
def paperOf (rows : List Rw) : List PEnt := rows.flatMap fun r => r.2.map (mkE r.1)
structure RowsOk (rows : List Rw) : Prop where
  pw : rows.Pairwise fun a b => ltS a.1 b.1
  one : ∀ r ∈ rows, nameS r.1 = true ∧ ∃ size : Int, size ≤ 10000 ∧ EdsOk size r.2
theorem own_paper : ∀ {rows : List Rw}, (rows.Pairwise fun a b => ltS a.1 b.1) → ∀ {nm es}, (nm, es) ∈ rows → own nm (paperOf rows) = es
  | r :: rs, h, nm, es, hm => by
    rw [List.pairwise_cons] at h
    have e : paperOf (r :: rs) = r.2.map (mkE r.1) ++ paperOf rs := List.flatMap_cons
    rw [e, own_app]
    rcases List.mem_cons.mp hm with rfl | hm
    · rw [own_self]
      have z : own nm (paperOf rs) = [] := by
        unfold own
        rw [List.filter_eq_nil_iff.mpr ?_]; rfl
        intro x hx
        obtain ⟨r2, hr2, hx⟩ := List.mem_flatMap.mp hx
        obtain ⟨y, _, rfl⟩ := List.mem_map.mp hx
        have l := h.1 r2 hr2
        show ¬ decide (r2.1 = nm) = true
        rw [decide_eq_false (show ¬ r2.1 = nm from fun k => by rw [k] at l; exact ltS_irr l)]
        exact Bool.false_ne_true
      rw [z, List.append_nil]
    · have l := h.1 _ hm
      rw [own_other (fun k => by rw [k] at l; exact ltS_irr l), List.nil_append]
      exact own_paper h.2 hm
theorem chF_done {rows : List Rw} (h : rows.Pairwise fun a b => ltS a.1 b.1) {nm t : Str} {es : List Ed} (hm : (nm, es) ∈ rows) (ho : EdsOk t.length es) : chF (paperOf rows) nm t = doneF t es Str.empty 0 := by
  rw [chF_own, own_paper h hm, chE_done ho]
theorem chain_pw {f : PEnt → PEnt → Bool} : ∀ {ps : List PEnt}, (ps.Pairwise fun x y => f x y = true) → chainB f ps = true
  | [], _ => rfl
  | [_], _ => rfl
  | x :: y :: r, h => by
    rw [List.pairwise_cons] at h
    show (f x y && chainB f (y :: r)) = true
    rw [h.1 y (by simp), chain_pw h.2]; rfl
theorem paper_ok {rows : List Rw} (h : RowsOk rows) : ∀ x ∈ paperOf rows, okP x = true ∧ rowOk x := fun x hx => by
  obtain ⟨r, hr, hx⟩ := List.mem_flatMap.mp hx
  obtain ⟨y, hy, rfl⟩ := List.mem_map.mp hx
  obtain ⟨hn, size, hs, ho⟩ := h.one r hr
  obtain ⟨a1, a2, a3, a4, a5⟩ := ho.one y hy
  have n8 : r.1.length ≤ 8 := by
    unfold nameS at hn
    rw [Bool.and_eq_true, decide_eq_true_eq] at hn
    exact hn.1
  refine ⟨?_, n8, ⟨?_, ?_⟩, ⟨?_, ?_⟩, ?_⟩
  · unfold okP
    rw [Bool.and_eq_true]
    refine ⟨hn, ?_⟩
    show (isNumD (.int y.s) && isNumD (.int y.e) && (decide (y.s ≤ y.e) && isRowD (.str y.n))) = true
    rw [show isNumD (.int y.s) = true from decide_eq_true a1, show isNumD (.int y.e) = true from decide_eq_true (by omega), decide_eq_true a2, show isRowD (.str y.n) = true from a5]
    rfl
  all_goals (first | (show -1000000000 ≤ y.s; omega) | (show y.s ≤ 1000000000; omega) | (show -1000000000 ≤ y.e; omega) | (show y.e ≤ 1000000000; omega) | (show y.n.length ≤ 1000; omega))
theorem paper_pw {rows : List Rw} (h : RowsOk rows) : (paperOf rows).Pairwise fun x y => apartF x y = true := by
  unfold paperOf
  rw [List.pairwise_flatMap]
  refine ⟨fun r hr => ?_, ?_⟩
  · obtain ⟨hn, size, hs, ho⟩ := h.one r hr
    rw [List.pairwise_map]
    have pn := ho.pw.and ho.nd
    refine List.Pairwise.imp_of_mem ?_ pn
    rintro x y hx hy ⟨h1, h2⟩
    obtain ⟨a1, a2, a3, a4, a5⟩ := ho.one x hx
    obtain ⟨b1, b2, b3, b4, b5⟩ := ho.one y hy
    show (if r.1 = r.1 then (if y.s < x.e then false else decide (x.s < x.e) || decide (y.s < y.e) || decide (x.s < y.s)) else _) = true
    rw [if_pos rfl, if_neg (by omega)]
    simp only [Bool.or_eq_true, decide_eq_true_eq]
    omega
  · refine h.pw.imp fun {a b} l x hx y hy => ?_
    obtain ⟨x, _, rfl⟩ := List.mem_map.mp hx
    obtain ⟨y, _, rfl⟩ := List.mem_map.mp hy
    show (if a.1 = b.1 then _ else decide (a.1.cps.toList < b.1.cps.toList)) = true
    rw [if_neg (fun k => by rw [k] at l; exact ltS_irr l)]
    exact decide_eq_true l
theorem paper_is {rows : List Rw} (h : RowsOk rows) : isPaperD (.tup ((paperOf rows).map PEnt.d)) = true := by
  have e := rowsP_map (ps := paperOf rows) (r := []) fun x hx => (paper_ok h x hx).1
  rw [List.append_nil] at e
  rw [isPaperD_tup, e]
  show chainB apartF (paperOf rows ++ []) = true
  rw [List.append_nil]
  exact chain_pw (paper_pw h)
theorem paper_len : ∀ {rows : List Rw}, RowsOk rows → (paperOf rows).length ≤ 4 * rows.length
  | [], _ => by simp [paperOf]
  | r :: rs, h => by
    have hp := h.pw
    rw [List.pairwise_cons] at hp
    have ih := paper_len (rows := rs) ⟨hp.2, fun x hx => h.one x (List.mem_cons_of_mem _ hx)⟩
    obtain ⟨_, _, _, ho⟩ := h.one r List.mem_cons_self
    have := ho.len
    have e : paperOf (r :: rs) = r.2.map (mkE r.1) ++ paperOf rs := List.flatMap_cons
    rw [e, List.length_append, List.length_map, List.length_cons]
    omega
/-- what is due of the texts so far -/
inductive DueOk (rows : List Rw) : List (Str × Str) → List (Str × Str) → Prop
  | nil : DueOk rows [] []
  | snoc {done due : List (Str × Str)} {p : Str × Str} {es : List Ed} : DueOk rows done due → (p.1, es) ∈ rows → EdsOk p.2.length es → DueOk rows (done ++ [p]) (due ++ [(p.1, doneF p.2 es Str.empty 0)])
theorem DueOk.mono {rows rows' : List Rw} (h : ∀ r ∈ rows, r ∈ rows') {done due : List (Str × Str)} (k : DueOk rows done due) : DueOk rows' done due := by
  induction k with
  | nil => exact .nil
  | snoc _ m o ih => exact .snoc ih (h _ m) o
theorem DueOk.eq {rows : List Rw} (h : rows.Pairwise fun a b => ltS a.1 b.1) {done due : List (Str × Str)} (k : DueOk rows done due) : due = done.map fun p => (p.1, chF (paperOf rows) p.1 p.2) := by
  induction k with
  | nil => rfl
  | snoc _ m o ih => rw [List.map_append, ← ih, List.map_cons, List.map_nil, chF_done h m o]
theorem DueOk.len {rows : List Rw} {done due : List (Str × Str)} (k : DueOk rows done due) : due.length = done.length := by
  induction k with
  | nil => rfl
  | snoc _ _ _ ih => rw [List.length_append, List.length_append, ih]; rfl
end DL
/-! V_q25: the law's own walk -/
namespace DL
open PySem PySem.Spec PyProof.Rows L2
theorem c_text26 {P : Program} {w : World} {Q : D → Prop} {QE : DX → Prop} (q : ∀ s : Str, s.length ≤ 10000 → s.cps.toList.all okRow = true → Q (.str s)) : sText26 P w [stL.d P w] Q QE := ⟨rfl, q⟩
def sLaw25 : FSp := fun ds Q E => ∃ cs : List Int, ds = [.lst (cs.map .int)] ∧ cs.length ≤ 63 ∧ Q (.bl true)
theorem cut_fromD {l : List D} {j : Nat} (h : j ≤ l.length) : cutD l (some (j : Int)) none = l.drop j := by
  unfold cutD
  rw [HT.sIx_nat, HT.sIx_none, Nat.min_eq_left h]
  exact List.take_of_length_le (by rw [List.length_drop]; omega)
theorem cut_toD {l : List D} {j : Nat} (h : j ≤ l.length) : cutD l none (some (j : Int)) = l.take j := by
  unfold cutD
  rw [HT.sIx_nat, HT.sIx_none, Nat.min_eq_left h, List.drop_zero, Nat.sub_zero]
theorem paper_ch {rows : List Rw} (h : RowsOk rows) (hl : rows.length ≤ 7) : okCh (paperOf rows) := by
  refine ⟨by have := paper_len h; omega, fun x hx => ?_⟩
  obtain ⟨a, b⟩ := paper_ok h x hx
  unfold okP at a
  rw [Bool.and_eq_true] at a
  obtain ⟨i, j, s, e, h0, h1, _⟩ := editD_inv a.2
  injection e with e
  injection e with e1 e2
  injection e2 with e2 e3
  injection e1 with e1
  injection e2 with e2
  subst e1 e2
  exact ⟨b.2.2.2, h0, h1⟩
theorem pr_dep {n : Nat} {l : List (Str × Str)} (h : l.length ≤ 1000) : dep (n + 2) (.tup (l.map prD)) := ⟨by rw [List.length_map]; omega, fun x hx => by
  obtain ⟨p, _, rfl⟩ := List.mem_map.mp hx
  exact ⟨by simp, fun y hy => by
    simp only [List.mem_cons, List.not_mem_nil, or_false] at hy
    rcases hy with rfl | rfl <;> (cases n <;> trivial)⟩⟩
theorem pr_depL {n : Nat} {l : List (Str × Str)} (h : l.length ≤ 1000) : dep (n + 2) (.lst (l.map prD)) := ⟨(pr_dep (n := n) h).1, (pr_dep h).2⟩
theorem pr_depG {n : Nat} {l : List (Str × Str)} (g : Str × Str → Str) (h : l.length ≤ 1000) : dep (n + 2) (.tup (l.map fun p => prD (p.1, g p))) := by
  have := pr_dep (n := n) (l := l.map fun p => (p.1, g p)) (by rw [List.length_map]; exact h)
  rw [List.map_map] at this
  exact this
section
variable {P : Program} {w : World} {Γ : Gm} {E : DX → DEnv → Prop} {Q : D → Prop} {QE : DX → Prop} {ds : List D}
theorem c_start26 {cs : List Int} (h : cs.length ≤ 63) (q : Q (stL.d P w)) : sStart26 P w [.lst (cs.map .int)] Q QE := ⟨cs, rfl, h, q⟩
theorem w_law25 (g9 : Γ.f 9 = sDraw26 P w) (g10 : Γ.f 10 = sStart26 P w) (g19 : Γ.f 19 = sNames P w) (g16 : Γ.f 16 = sText26 P w) (g17 : Γ.f 17 = sEdits P w) (g18 : Γ.f 18 = sDone)
    (g38 : Γ.f 38 = sIsPaper) (g27 : Γ.f 27 = sIsPaper) (g34 : Γ.f 34 = sSame 4) (g41 : Γ.f 41 = sSpPaper P w) (g28 : Γ.f 28 = sChanged) (g43 : Γ.f 43 = sEdd P w) (h : sLaw25 ds Q QE) :
    wSs Γ E b_law_v2 (zz Q) (ent0 n_law_v2 ds) := by
  obtain ⟨cs, rfl, hcs, q⟩ := h
  show wSs Γ E b_law_v2 _ [.sh (.lst (cs.map .int)), .un, .un, .un, .un, .un, .un, .un, .un, .un, .un, .un, .un, .un, .un, .un]
  have hz := sizeLine_eq
  (first | (with_reducible refine step_i (by with_unfolding_all rfl) ?_) | ((first | simp_arith! only [g10] | simp_arith! only [true_and] | skip); with_reducible refine step_i (by with_unfolding_all rfl) ?_)); simp_arith! only [g10] ; (repeat (((with_reducible refine And.intro ?_ ?_); focus (first | decide | omega | exact trivial | (intro h; cases h; done) | exact Or.inr (by decide) | exact Or.inl ⟨by omega, by omega⟩ | exact ⟨by omega, by omega⟩ | (rw [sizeLine_eq]; omega) | (refine sz ?_; first | omega | (simp; done))))))
  refine c_start26 hcs ?_; (first | simp_arith! only [g10] | simp_arith! only [true_and] | skip) ; (repeat (((with_reducible refine And.intro ?_ ?_); focus (first | decide | omega | exact trivial | (intro h; cases h; done) | exact Or.inr (by decide) | exact Or.inl ⟨by omega, by omega⟩ | exact ⟨by omega, by omega⟩ | (rw [sizeLine_eq]; omega) | (refine sz ?_; first | omega | (simp; done))))))
  (first | (with_reducible refine step_i (by with_unfolding_all rfl) ?_) | ((first | simp_arith! only [g9, g19] | simp_arith! only [true_and] | skip); with_reducible refine step_i (by with_unfolding_all rfl) ?_)); simp_arith! only [g9, g19] ; (repeat (((with_reducible refine And.intro ?_ ?_); focus (first | decide | omega | exact trivial | (intro h; cases h; done) | exact Or.inr (by decide) | exact Or.inl ⟨by omega, by omega⟩ | exact ⟨by omega, by omega⟩ | (rw [sizeLine_eq]; omega) | (refine sz ?_; first | omega | (simp; done))))))
  (repeat (((with_reducible refine And.intro ?_ ?_); focus (first | decide | omega | exact trivial | (intro h; cases h; done) | exact Or.inr (by decide) | exact Or.inl ⟨by omega, by omega⟩ | exact ⟨by omega, by omega⟩ | (rw [sizeLine_eq]; omega) | (refine sz ?_; first | omega | (simp; done)))))); refine c_draw26 (by constructor <;> first | decide | omega) fun a a0 a1 => ?_; (first | simp_arith! only [g9, g19] | simp_arith! only [true_and] | skip) ; (repeat (((with_reducible refine And.intro ?_ ?_); focus (first | decide | omega | exact trivial | (intro h; cases h; done) | exact Or.inr (by decide) | exact Or.inl ⟨by omega, by omega⟩ | exact ⟨by omega, by omega⟩ | (rw [sizeLine_eq]; omega) | (refine sz ?_; first | omega | (simp; done))))))
  obtain ⟨n, rfl⟩ := Int.eq_ofNat_of_zero_le a0
  refine c_names (n := n) (by omega) fun ns hns hnl hnm => ?_; (first | simp_arith! only [g9, g19] | simp_arith! only [true_and] | skip) ; (repeat (((with_reducible refine And.intro ?_ ?_); focus (first | decide | omega | exact trivial | (intro h; cases h; done) | exact Or.inr (by decide) | exact Or.inl ⟨by omega, by omega⟩ | exact ⟨by omega, by omega⟩ | (rw [sizeLine_eq]; omega) | (refine sz ?_; first | omega | (simp; done))))))
  refine lcL_ind (fun ds acc => ∃ (done : List (Str × Str)) (rest : List Str), ns = done.map (·.1) ++ rest ∧ ds = rest.map .str ∧ acc = done.map prD ∧ ∀ p ∈ done, p.2.length ≤ 10000) (fun acc h => ?_) (fun d ds acc h R hR => ?_) _ _ ⟨[], ns, rfl, rfl, rfl, nofun⟩
  rotate_left
  · obtain ⟨done, rest, e1, e2, rfl, hp⟩ := h
    cases rest with
    | nil => cases e2
    | cons x rest =>
      injection e2 with e2 e3
      subst e2 e3
      have hl := congrArg List.length e1
      rw [List.length_append, List.length_map, List.length_cons] at hl
      simp_arith! only [e_law_v2_3, g16]
      refine c_text26 fun s hs hp2 => ?_; (first | simp_arith! only [g9, g19] | simp_arith! only [true_and] | skip) ; (repeat (((with_reducible refine And.intro ?_ ?_); focus (first | decide | omega | exact trivial | (intro h; cases h; done) | exact Or.inr (by decide) | exact Or.inl ⟨by omega, by omega⟩ | exact ⟨by omega, by omega⟩ | (rw [sizeLine_eq]; omega) | (refine sz ?_; first | omega | (simp; done))))))
      refine hR _ ⟨done ++ [(x, s)], rest, by rw [e1]; simp, rfl, by simp [prD], mem_app hp (mem_one hs)⟩
  obtain ⟨L, rest, e1, e2, rfl, hL⟩ := h
  cases rest with
  | cons _ _ => cases e2
  | nil =>
  rw [List.append_nil] at e1
  subst e1
  have hLn : L.length ≤ 5 := by rw [List.length_map] at hnl; omega
  (try simp_arith! only [true_and]) ; (repeat (((with_reducible refine And.intro ?_ ?_); focus (first | decide | omega | exact trivial | (intro h; cases h; done) | exact Or.inr (by decide) | exact Or.inl ⟨by omega, by omega⟩ | exact ⟨by omega, by omega⟩ | (rw [sizeLine_eq]; omega) | (refine sz ?_; first | omega | (simp; done))))))
  (first | (with_reducible refine step_i (by with_unfolding_all rfl) ?_) | ((try simp_arith! only [true_and]); with_reducible refine step_i (by with_unfolding_all rfl) ?_)); simp_arith! only [true_and] ; (repeat (((with_reducible refine And.intro ?_ ?_); focus (first | decide | omega | exact trivial | (intro h; cases h; done) | exact Or.inr (by decide) | exact Or.inl ⟨by omega, by omega⟩ | exact ⟨by omega, by omega⟩ | (rw [sizeLine_eq]; omega) | (refine sz ?_; first | omega | (simp; done))))))
  (first | (with_reducible refine step_i (by with_unfolding_all rfl) ?_) | ((first | simp_arith! only [g19] | simp_arith! only [true_and] | skip); with_reducible refine step_i (by with_unfolding_all rfl) ?_)); simp_arith! only [g19] ; (repeat (((with_reducible refine And.intro ?_ ?_); focus (first | decide | omega | exact trivial | (intro h; cases h; done) | exact Or.inr (by decide) | exact Or.inl ⟨by omega, by omega⟩ | exact ⟨by omega, by omega⟩ | (rw [sizeLine_eq]; omega) | (refine sz ?_; first | omega | (simp; done))))))
  refine c_names (n := 2) (by omega) fun ns2 hns2 hnl2 hnm2 => ?_; (first | simp_arith! only [g19] | simp_arith! only [true_and] | skip) ; (repeat (((with_reducible refine And.intro ?_ ?_); focus (first | decide | omega | exact trivial | (intro h; cases h; done) | exact Or.inr (by decide) | exact Or.inl ⟨by omega, by omega⟩ | exact ⟨by omega, by omega⟩ | (rw [sizeLine_eq]; omega) | (refine sz ?_; first | omega | (simp; done))))))
  refine forL_i (fun ds ρ => ∃ (rows : List Rw) (rest : List Str) (s4 : Sl), ds = rest.map .str ∧ rest.length + rows.length ≤ 2 ∧ rest.Pairwise ltS ∧ (∀ x ∈ rest, nameS x = true ∧ ∀ r ∈ rows, ltS r.1 x) ∧ RowsOk rows ∧ (∀ r ∈ rows, r.1 ∉ L.map (·.1)) ∧
    ρ = [.sh (.lst (cs.map .int)), .sh (stL.d P w), .sh (.lst (L.map prD)), .own none (rows.map Rw.d), s4, .un, .un, .un, .un, .un, .un, .un, .un, .un, .un, .un]) ?_ ?_ _ _ ⟨[], ns2, _, rfl, by simp; omega, hns2, fun x hx => ⟨hnm2 x hx, nofun⟩, ⟨.nil, nofun⟩, nofun, rfl⟩
  rotate_left
  · rintro d ds ρ ⟨rows, rest, s4, e, hl, hpw, hre, hro, hno, rfl⟩ N hN
    cases rest with
    | nil => cases e
    | cons x rest =>
      injection e with e1 e2
      subst e1 e2
      rw [List.pairwise_cons] at hpw
      rw [List.length_cons] at hl
      (try simp_arith! only [true_and]) ; (repeat (((with_reducible refine And.intro ?_ ?_); focus (first | decide | omega | exact trivial | (intro h; cases h; done) | exact Or.inr (by decide) | exact Or.inl ⟨by omega, by omega⟩ | exact ⟨by omega, by omega⟩ | (rw [sizeLine_eq]; omega) | (refine sz ?_; first | omega | (simp; done))))))
      (first | (with_reducible refine step_i (by with_unfolding_all rfl) ?_) | ((try simp_arith! only [true_and]); with_reducible refine step_i (by with_unfolding_all rfl) ?_)); simp_arith! only [true_and] ; (repeat (((with_reducible refine And.intro ?_ ?_); focus (first | decide | omega | exact trivial | (intro h; cases h; done) | exact Or.inr (by decide) | exact Or.inl ⟨by omega, by omega⟩ | exact ⟨by omega, by omega⟩ | (rw [sizeLine_eq]; omega) | (refine sz ?_; first | omega | (simp; done))))))
      refine lcL_ex (fun d => match d with | .tup [a, _] => a | d => d) (by rw [List.length_map]; omega) (fun d acc hd hlt R hR => ?_) ?_
      · obtain ⟨p, hp, rfl⟩ := List.mem_map.mp hd
        simp_arith! only [e_law_v2_2, prD]
        exact ⟨hlt, hR⟩
      · have e : ((L.map prD).map fun d => match d with | .tup [a, _] => a | d => d) = (L.map (·.1)).map D.str := by
          rw [List.map_map, List.map_map]; rfl
        rw [e]
        (try simp_arith! only [true_and]) ; (repeat (((with_reducible refine And.intro ?_ ?_); focus (first | decide | omega | exact trivial | (intro h; cases h; done) | exact Or.inr (by decide) | exact Or.inl ⟨by omega, by omega⟩ | exact ⟨by omega, by omega⟩ | (rw [sizeLine_eq]; omega) | (refine sz ?_; first | omega | (simp; done))))))
        refine inW_str ?_
        (try simp_arith! only [true_and]) ; (repeat (((with_reducible refine And.intro ?_ ?_); focus (first | decide | omega | exact trivial | (intro h; cases h; done) | exact Or.inr (by decide) | exact Or.inl ⟨by omega, by omega⟩ | exact ⟨by omega, by omega⟩ | (rw [sizeLine_eq]; omega) | (refine sz ?_; first | omega | (simp; done))))))
        split
        · exact hN _ ⟨rows, rest, _, rfl, by omega, hpw.2, fun y hy => ⟨(hre y (List.mem_cons_of_mem _ hy)).1, (hre y (List.mem_cons_of_mem _ hy)).2⟩, hro, hno, rfl⟩
        · rename_i hx
          (first | (with_reducible refine step_i (by with_unfolding_all rfl) ?_) | ((first | simp_arith! only [g17] | simp_arith! only [true_and] | skip); with_reducible refine step_i (by with_unfolding_all rfl) ?_)); simp_arith! only [g17] ; (repeat (((with_reducible refine And.intro ?_ ?_); focus (first | decide | omega | exact trivial | (intro h; cases h; done) | exact Or.inr (by decide) | exact Or.inl ⟨by omega, by omega⟩ | exact ⟨by omega, by omega⟩ | (rw [sizeLine_eq]; omega) | (refine sz ?_; first | omega | (simp; done))))))
          refine c_edits (size := 99) (by decide) (by decide) fun es hes => ?_; (first | simp_arith! only [g17] | simp_arith! only [true_and] | skip) ; (repeat (((with_reducible refine And.intro ?_ ?_); focus (first | decide | omega | exact trivial | (intro h; cases h; done) | exact Or.inr (by decide) | exact Or.inl ⟨by omega, by omega⟩ | exact ⟨by omega, by omega⟩ | (rw [sizeLine_eq]; omega) | (refine sz ?_; first | omega | (simp; done))))))
          refine hN _ ⟨rows ++ [(x, es)], rest, .sh (.str x), rfl, by simp; omega, hpw.2, fun y hy => ⟨(hre y (List.mem_cons_of_mem _ hy)).1, mem_app (hre y (List.mem_cons_of_mem _ hy)).2 (mem_one (hpw.1 y hy))⟩, ⟨?_, ?_⟩, mem_app hno (mem_one hx), by simp [Rw.d]⟩
          · exact List.pairwise_append.mpr ⟨hro.pw, List.pairwise_singleton _ _, fun r hr y hy => by
              rw [List.mem_singleton.mp hy]; exact (hre x List.mem_cons_self).2 r hr⟩
          · exact mem_app hro.one (mem_one ⟨(hre x List.mem_cons_self).1, 99, by decide, hes⟩)
  rintro ρ ⟨rows, rest, s4, e, hl, _, _, hro, hno, rfl⟩
  have e : rest = [] := by cases rest with
    | nil => rfl
    | cons _ _ => cases e
  subst e
  have hrn : rows.length ≤ 2 := by simpa using hl
  clear hl
  (first | (with_reducible refine step_i (by with_unfolding_all rfl) ?_) | ((try simp_arith! only [true_and]); with_reducible refine step_i (by with_unfolding_all rfl) ?_)); simp_arith! only [true_and] ; (repeat (((with_reducible refine And.intro ?_ ?_); focus (first | decide | omega | exact trivial | (intro h; cases h; done) | exact Or.inr (by decide) | exact Or.inl ⟨by omega, by omega⟩ | exact ⟨by omega, by omega⟩ | (rw [sizeLine_eq]; omega) | (refine sz ?_; first | omega | (simp; done))))))
  (first | (with_reducible refine step_i (by with_unfolding_all rfl) ?_) | ((try simp_arith! only [true_and]); with_reducible refine step_i (by with_unfolding_all rfl) ?_)); simp_arith! only [true_and] ; (repeat (((with_reducible refine And.intro ?_ ?_); focus (first | decide | omega | exact trivial | (intro h; cases h; done) | exact Or.inr (by decide) | exact Or.inl ⟨by omega, by omega⟩ | exact ⟨by omega, by omega⟩ | (rw [sizeLine_eq]; omega) | (refine sz ?_; first | omega | (simp; done))))))
  refine forL_i (fun ds ρ => ∃ (done todo due : List (Str × Str)) (rows : List Rw) (s6 s8 s13 : Sl), L = done ++ todo ∧ ds = todo.map prD ∧ RowsOk rows ∧ rows.length ≤ 2 + done.length ∧ DueOk rows done due ∧ (∀ r ∈ rows, r.1 ∉ todo.map (·.1)) ∧
    ρ = [.sh (.lst (cs.map .int)), .sh (stL.d P w), .sh (.lst (L.map prD)), .own none (rows.map Rw.d), s4, .own none (due.map prD), s6, .un, s8, .un, .un, .un, .un, s13, .un, .un]) ?_ ?_ _ _ ⟨[], L, [], rows, _, _, _, rfl, rfl, hro, by simp; omega, .nil, hno, rfl⟩
  rotate_left
  · rintro d ds ρ ⟨done, todo, due, rows, s6, s8, s13, eL, e, hro, hrn, hdue, hno, rfl⟩ N hN
    cases todo with
    | nil => cases e
    | cons p todo =>
      injection e with e1 e2
      subst e1 e2
      have hp : p.2.length ≤ 10000 := hL p (by rw [eL]; simp)
      have hpn : nameS p.1 = true := hnm p.1 (by rw [eL]; simp)
      have hdl : done.length ≤ 4 := by
        have := congrArg List.length eL
        rw [List.length_append, List.length_cons] at this
        omega
      have hnp : p.1 ∉ todo.map (·.1) := by
        rw [eL, List.map_append, List.pairwise_append] at hns
        have := hns.2.1
        rw [List.map_cons, List.pairwise_cons] at this
        exact fun k => ltS_irr (this.1 _ k)
      have pd : prD p = .tup [.str p.1, .str p.2] := rfl
      (try simp_arith! only [true_and]) ; (repeat (((with_reducible refine And.intro ?_ ?_); focus (first | decide | omega | exact trivial | (intro h; cases h; done) | exact Or.inr (by decide) | exact Or.inl ⟨by omega, by omega⟩ | exact ⟨by omega, by omega⟩ | (rw [sizeLine_eq]; omega) | (refine sz ?_; first | omega | (simp; done))))))
      (first | (with_reducible refine step_i (by with_unfolding_all rfl) ?_) | ((first | simp_arith! only [g17, g9, pd] | simp_arith! only [true_and] | skip); with_reducible refine step_i (by with_unfolding_all rfl) ?_)); simp_arith! only [g17, g9, pd] ; (repeat (((with_reducible refine And.intro ?_ ?_); focus (first | decide | omega | exact trivial | (intro h; cases h; done) | exact Or.inr (by decide) | exact Or.inl ⟨by omega, by omega⟩ | exact ⟨by omega, by omega⟩ | (rw [sizeLine_eq]; omega) | (refine sz ?_; first | omega | (simp; done))))))
      refine c_edits (size := p.2.length) (by omega) (by omega) fun es0 hes0 => ?_; (first | simp_arith! only [g17, g9, pd] | simp_arith! only [true_and] | skip) ; (repeat (((with_reducible refine And.intro ?_ ?_); focus (first | decide | omega | exact trivial | (intro h; cases h; done) | exact Or.inr (by decide) | exact Or.inl ⟨by omega, by omega⟩ | exact ⟨by omega, by omega⟩ | (rw [sizeLine_eq]; omega) | (refine sz ?_; first | omega | (simp; done))))))
      (repeat (((with_reducible refine And.intro ?_ ?_); focus (first | decide | omega | exact trivial | (intro h; cases h; done) | exact Or.inr (by decide) | exact Or.inl ⟨by omega, by omega⟩ | exact ⟨by omega, by omega⟩ | (rw [sizeLine_eq]; omega) | (refine sz ?_; first | omega | (simp; done)))))); refine c_draw26 (by constructor <;> first | decide | omega) fun k k0 k1 => ?_; (first | simp_arith! only [g17, g9, pd] | simp_arith! only [true_and] | skip) ; (repeat (((with_reducible refine And.intro ?_ ?_); focus (first | decide | omega | exact trivial | (intro h; cases h; done) | exact Or.inr (by decide) | exact Or.inl ⟨by omega, by omega⟩ | exact ⟨by omega, by omega⟩ | (rw [sizeLine_eq]; omega) | (refine sz ?_; first | omega | (simp; done))))))
      have he : ∀ b : Int, (b = 0 ∨ b = 1) → ∃ es : List Ed, repL b (es0.map Ed.d) = es.map Ed.d ∧ EdsOk p.2.length es := fun b hb => by
        rcases hb with rfl | rfl
        · exact ⟨[], rfl, ⟨nofun, .nil, .nil, by simp⟩⟩
        · exact ⟨es0, by simp [repL], hes0⟩
      have h1 : es0.length ≤ 4 := hes0.len
      have hb : ∃ b : Int, b = (if 0 < k then 1 else 0) ∧ (b = 0 ∨ b = 1) := ⟨_, rfl, by split <;> simp⟩
      obtain ⟨b, eb, hb⟩ := hb
      rw [← eb]
      refine ⟨⟨by omega, by omega, by rcases hb with rfl | rfl <;> simp <;> omega⟩, ?_⟩
      obtain ⟨es, ee, hes⟩ := he b hb
      rw [ee]
      have hel := hes.len
      have hdul := hdue.len
      (first | (with_reducible refine step_i (by with_unfolding_all rfl) ?_) | ((first | simp_arith! only [g18] | simp_arith! only [true_and] | skip); with_reducible refine step_i (by with_unfolding_all rfl) ?_)); simp_arith! only [g18] ; (repeat (((with_reducible refine And.intro ?_ ?_); focus (first | decide | omega | exact trivial | (intro h; cases h; done) | exact Or.inr (by decide) | exact Or.inl ⟨by omega, by omega⟩ | exact ⟨by omega, by omega⟩ | (rw [sizeLine_eq]; omega) | (refine sz ?_; first | omega | (simp; done))))))
      refine c_done (es := es) 1000 hp (by omega) (fun x hx => by have := (hes.one x hx).2.2.2.1; omega) fun s es_ hs => ?_; (first | simp_arith! only [g18] | simp_arith! only [true_and] | skip) ; (repeat (((with_reducible refine And.intro ?_ ?_); focus (first | decide | omega | exact trivial | (intro h; cases h; done) | exact Or.inr (by decide) | exact Or.inl ⟨by omega, by omega⟩ | exact ⟨by omega, by omega⟩ | (rw [sizeLine_eq]; omega) | (refine sz ?_; first | omega | (simp; done))))))
      subst es_
      (first | (with_reducible refine step_i (by with_unfolding_all rfl) ?_) | ((try simp_arith! only [true_and]); with_reducible refine step_i (by with_unfolding_all rfl) ?_)); simp_arith! only [true_and] ; (repeat (((with_reducible refine And.intro ?_ ?_); focus (first | decide | omega | exact trivial | (intro h; cases h; done) | exact Or.inr (by decide) | exact Or.inl ⟨by omega, by omega⟩ | exact ⟨by omega, by omega⟩ | (rw [sizeLine_eq]; omega) | (refine sz ?_; first | omega | (simp; done))))))
      refine lcL_filter (fun d => match d with | .tup [.str x, _] => decide (x.cps.toList < p.1.cps.toList) | _ => false) id (by rw [List.length_map]; omega) (fun d acc2 hd hlt R h1 h2 => ?_) ?_
      · obtain ⟨x, hx, rfl⟩ := List.mem_map.mp hd
        simp_arith! only [t_law_v2_1, e_law_v2_1, Rw.d]
        split
        · rename_i k
          exact ⟨hlt, h1 (decide_eq_true k)⟩
        · rename_i k
          exact h2 (decide_eq_false k)
      · have em : ((rows.map Rw.d).filter fun d => match d with | .tup [.str x, _] => decide (x.cps.toList < p.1.cps.toList) | _ => false) = (rows.filter fun x => decide (x.1.cps.toList < p.1.cps.toList)).map Rw.d := by
          rw [List.filter_map]; rfl
        have hle := List.length_filter_le (fun x : Rw => decide (x.1.cps.toList < p.1.cps.toList)) rows
        have hs2 := put_sorted (r := fun a b : Rw => ltS a.1 b.1) (p := fun x : Rw => decide (x.1.cps.toList < p.1.cps.toList)) (a := (p.1, es)) (fun x y h h2 => decide_eq_true (List.lt_trans h (of_decide_eq_true h2))) hro.pw
          (fun x _ h => show x.1.cps.toList < p.1.cps.toList from of_decide_eq_true h) (fun x hx h => ltS_tri (show ¬ x.1.cps.toList < p.1.cps.toList from of_decide_eq_false h) fun e => hno x hx (by rw [e]; simp))
        rw [em, List.map_id]
        (try simp_arith! only [true_and]) ; (repeat (((with_reducible refine And.intro ?_ ?_); focus (first | decide | omega | exact trivial | (intro h; cases h; done) | exact Or.inr (by decide) | exact Or.inl ⟨by omega, by omega⟩ | exact ⟨by omega, by omega⟩ | (rw [sizeLine_eq]; omega) | (refine sz ?_; first | omega | (simp; done))))))
        generalize (rows.filter fun x => decide (x.1.cps.toList < p.1.cps.toList)).length = j at hle hs2 ⊢
        have hin : ∀ x ∈ rows.take j ++ [((p.1, es) : Rw)] ++ rows.drop j, x ∈ rows ∨ x = (p.1, es) := mem_app (mem_app (fun x hx => .inl (List.mem_of_mem_take hx)) (mem_one (.inr rfl))) fun x hx => .inl (List.mem_of_mem_drop hx)
        have hin2 : ∀ x ∈ rows, x ∈ rows.take j ++ [((p.1, es) : Rw)] ++ rows.drop j := fun x hx => by
          rw [← List.take_append_drop j rows] at hx
          rcases List.mem_append.mp hx with hx | hx
          · exact List.mem_append_left _ (List.mem_append_left _ hx)
          · exact List.mem_append_right _ hx
        refine hN _ ⟨done ++ [p], todo, due ++ [(p.1, doneF p.2 es Str.empty 0)], rows.take j ++ [(p.1, es)] ++ rows.drop j, .sh (prD p), s8, .sh (.lst (es.map Ed.d)), by rw [eL]; simp, rfl, ⟨hs2, fun x hx => ?_⟩, by simp; omega, .snoc (hdue.mono hin2) (by simp) hes, fun x hx => ?_, ?_⟩
        · rcases hin x hx with hx | rfl
          · exact hro.one x hx
          · exact ⟨hpn, p.2.length, by omega, hes⟩
        · rcases hin x hx with hx | rfl
          · exact fun k => hno x hx (by simp at k ⊢; exact .inr k)
          · exact hnp
        · simp [prD, Rw.d]
  rintro ρ ⟨done, todo, due, rows, s6, s8, s13, eL, e, hro, hrn, hdue, hno, rfl⟩
  have e : todo = [] := by cases todo with
    | nil => rfl
    | cons _ _ => cases e
  subst e
  rw [List.append_nil] at eL
  subst eL
  have hdeq := hdue.eq hro.pw
  have hok := paper_ok hro
  have hpl := paper_len hro
  (first | (with_reducible refine step_i (by with_unfolding_all rfl) ?_) | ((try simp_arith! only [true_and]); with_reducible refine step_i (by with_unfolding_all rfl) ?_)); simp_arith! only [true_and] ; (repeat (((with_reducible refine And.intro ?_ ?_); focus (first | decide | omega | exact trivial | (intro h; cases h; done) | exact Or.inr (by decide) | exact Or.inl ⟨by omega, by omega⟩ | exact ⟨by omega, by omega⟩ | (rw [sizeLine_eq]; omega) | (refine sz ?_; first | omega | (simp; done))))))
  (first | (with_reducible refine step_i (by with_unfolding_all rfl) ?_) | ((try simp_arith! only [true_and]); with_reducible refine step_i (by with_unfolding_all rfl) ?_)); simp_arith! only [true_and] ; (repeat (((with_reducible refine And.intro ?_ ?_); focus (first | decide | omega | exact trivial | (intro h; cases h; done) | exact Or.inr (by decide) | exact Or.inl ⟨by omega, by omega⟩ | exact ⟨by omega, by omega⟩ | (rw [sizeLine_eq]; omega) | (refine sz ?_; first | omega | (simp; done))))))
  have hrn7 : rows.length ≤ 7 := by omega
  have hch := paper_ch hro hrn7
  refine forL_i (fun ds ρ => ∃ (dn td : List Rw) (s8 : Sl), rows = dn ++ td ∧ ds = td.map Rw.d ∧
    ρ = [.sh (.lst (cs.map .int)), .sh (stL.d P w), .sh (.lst (L.map prD)), .sh (.lst (rows.map Rw.d)), s4, .own none (due.map prD), s6, .sh (.tup ((paperOf dn).map PEnt.d)), s8, .un, .un, .un, .un, s13, .un, .un]) ?_ ?_ _ _ ⟨[], rows, _, rfl, rfl, rfl⟩
  rotate_left
  · rintro d ds ρ ⟨dn, td, s8, e, e2, rfl⟩ N hN
    cases td with
    | nil => cases e2
    | cons r td =>
      injection e2 with e3 e4
      subst e3 e4
      have e5 : paperOf rows = paperOf dn ++ (r.2.map (mkE r.1) ++ paperOf td) := by rw [e]; simp [paperOf]
      have hl := congrArg List.length e5
      rw [List.length_append, List.length_append, List.length_map] at hl
      have rd : Rw.d r = .tup [.str r.1, .lst (r.2.map Ed.d)] := rfl
      (try simp_arith! only [true_and]) ; (repeat (((with_reducible refine And.intro ?_ ?_); focus (first | decide | omega | exact trivial | (intro h; cases h; done) | exact Or.inr (by decide) | exact Or.inl ⟨by omega, by omega⟩ | exact ⟨by omega, by omega⟩ | (rw [sizeLine_eq]; omega) | (refine sz ?_; first | omega | (simp; done))))))
      (first | (with_reducible refine step_i (by with_unfolding_all rfl) ?_) | ((first | simp_arith! only [rd] | simp_arith! only [true_and] | skip); with_reducible refine step_i (by with_unfolding_all rfl) ?_)); simp_arith! only [rd] ; (repeat (((with_reducible refine And.intro ?_ ?_); focus (first | decide | omega | exact trivial | (intro h; cases h; done) | exact Or.inr (by decide) | exact Or.inl ⟨by omega, by omega⟩ | exact ⟨by omega, by omega⟩ | (rw [sizeLine_eq]; omega) | (refine sz ?_; first | omega | (simp; done))))))
      refine lcL_ex (fun d => match d with | .tup [a, b, c] => .tup [.str r.1, a, b, c] | d => d) (by rw [List.length_map]; omega) (fun d acc hd hlt R hR => ?_) ?_
      · obtain ⟨x, hx, rfl⟩ := List.mem_map.mp hd
        simp_arith! only [e_law_v2_0, Ed.d]
        (repeat (((with_reducible refine And.intro ?_ ?_); focus (first | decide | omega | exact trivial | (intro h; cases h; done) | exact Or.inr (by decide) | exact Or.inl ⟨by omega, by omega⟩ | exact ⟨by omega, by omega⟩ | (rw [sizeLine_eq]; omega) | (refine sz ?_; first | omega | (simp; done))))))
        exact hR
      · have e6 : ((r.2.map Ed.d).map fun d => match d with | .tup [a, b, c] => .tup [.str r.1, a, b, c] | d => d) = (r.2.map (mkE r.1)).map PEnt.d := by
          rw [List.map_map, List.map_map]; rfl
        rw [e6]
        (try simp_arith! only [true_and]) ; (repeat (((with_reducible refine And.intro ?_ ?_); focus (first | decide | omega | exact trivial | (intro h; cases h; done) | exact Or.inr (by decide) | exact Or.inl ⟨by omega, by omega⟩ | exact ⟨by omega, by omega⟩ | (rw [sizeLine_eq]; omega) | (refine sz ?_; first | omega | (simp; done))))))
        exact hN _ ⟨dn ++ [r], td, .sh (Rw.d r), by rw [e]; simp, rfl, by simp [paperOf, rd]⟩
  rintro ρ ⟨dn, td, s8, e, e2, rfl⟩
  have e3 : td = [] := by cases td with
    | nil => rfl
    | cons _ _ => cases e2
  subst e3
  rw [List.append_nil] at e
  subst e
  have hgd : gd 2 (.tup ((paperOf rows).map PEnt.d)) := gd_tup' (by rw [List.length_map]; omega) fun x hx => by
    obtain ⟨y, hy, rfl⟩ := List.mem_map.mp hx
    exact row_gd (hok y hy).2
  (first | (with_reducible refine step_i (by with_unfolding_all rfl) ?_) | ((first | simp_arith! only [g38, g27, g34] | simp_arith! only [true_and] | skip); with_reducible refine step_i (by with_unfolding_all rfl) ?_)); simp_arith! only [g38, g27, g34] ; (repeat (((with_reducible refine And.intro ?_ ?_); focus (first | decide | omega | exact trivial | (intro h; cases h; done) | exact Or.inr (by decide) | exact Or.inl ⟨by omega, by omega⟩ | exact ⟨by omega, by omega⟩ | (rw [sizeLine_eq]; omega) | (refine sz ?_; first | omega | (simp; done))))))
  refine c_is_paper hgd ?_; (first | simp_arith! only [g38, g27, g34] | simp_arith! only [true_and] | skip) ; (repeat (((with_reducible refine And.intro ?_ ?_); focus (first | decide | omega | exact trivial | (intro h; cases h; done) | exact Or.inr (by decide) | exact Or.inl ⟨by omega, by omega⟩ | exact ⟨by omega, by omega⟩ | (rw [sizeLine_eq]; omega) | (refine sz ?_; first | omega | (simp; done))))))
  rw [paper_is hro]
  (try simp_arith! only [true_and]) ; (repeat (((with_reducible refine And.intro ?_ ?_); focus (first | decide | omega | exact trivial | (intro h; cases h; done) | exact Or.inr (by decide) | exact Or.inl ⟨by omega, by omega⟩ | exact ⟨by omega, by omega⟩ | (rw [sizeLine_eq]; omega) | (refine sz ?_; first | omega | (simp; done))))))
  refine c_is_paper hgd ?_; (first | simp_arith! only [g38, g27, g34] | simp_arith! only [true_and] | skip) ; (repeat (((with_reducible refine And.intro ?_ ?_); focus (first | decide | omega | exact trivial | (intro h; cases h; done) | exact Or.inr (by decide) | exact Or.inl ⟨by omega, by omega⟩ | exact ⟨by omega, by omega⟩ | (rw [sizeLine_eq]; omega) | (refine sz ?_; first | omega | (simp; done))))))
  refine c_same (by rw [paper_is hro]) trivial ?_; (first | simp_arith! only [g38, g27, g34] | simp_arith! only [true_and] | skip) ; (repeat (((with_reducible refine And.intro ?_ ?_); focus (first | decide | omega | exact trivial | (intro h; cases h; done) | exact Or.inr (by decide) | exact Or.inl ⟨by omega, by omega⟩ | exact ⟨by omega, by omega⟩ | (rw [sizeLine_eq]; omega) | (refine sz ?_; first | omega | (simp; done))))))
  (first | (with_reducible refine step_i (by with_unfolding_all rfl) ?_) | ((try simp_arith! only [true_and]); with_reducible refine step_i (by with_unfolding_all rfl) ?_)); simp_arith! only [true_and] ; (repeat (((with_reducible refine And.intro ?_ ?_); focus (first | decide | omega | exact trivial | (intro h; cases h; done) | exact Or.inr (by decide) | exact Or.inl ⟨by omega, by omega⟩ | exact ⟨by omega, by omega⟩ | (rw [sizeLine_eq]; omega) | (refine sz ?_; first | omega | (simp; done))))))
  refine forL_i (fun ds ρ => ∃ s9 s14, (∀ d ∈ ds, ∃ i : Int, d = .int i) ∧ ρ = [.sh (.lst (cs.map .int)), .sh (stL.d P w), .sh (.lst (L.map prD)), .sh (.lst (rows.map Rw.d)), s4, .own none (due.map prD), s6, .sh (.tup ((paperOf rows).map PEnt.d)), s8, s9, .un, .un, .un, s13, s14, .un]) ?_ ?_ _ _ ⟨_, _, ?_, rfl⟩
  rotate_left
  · rintro d ds ρ ⟨s9, s14, hi, rfl⟩ N hN
    obtain ⟨i, rfl⟩ := hi d List.mem_cons_self
    (try simp_arith! only [true_and]) ; (repeat (((with_reducible refine And.intro ?_ ?_); focus (first | decide | omega | exact trivial | (intro h; cases h; done) | exact Or.inr (by decide) | exact Or.inl ⟨by omega, by omega⟩ | exact ⟨by omega, by omega⟩ | (rw [sizeLine_eq]; omega) | (refine sz ?_; first | omega | (simp; done))))))
    (first | (with_reducible refine step_i (by with_unfolding_all rfl) ?_) | ((first | simp_arith! only [g41] | simp_arith! only [true_and] | skip); with_reducible refine step_i (by with_unfolding_all rfl) ?_)); simp_arith! only [g41] ; (repeat (((with_reducible refine And.intro ?_ ?_); focus (first | decide | omega | exact trivial | (intro h; cases h; done) | exact Or.inr (by decide) | exact Or.inl ⟨by omega, by omega⟩ | exact ⟨by omega, by omega⟩ | (rw [sizeLine_eq]; omega) | (refine sz ?_; first | omega | (simp; done))))))
    refine c_sppaper (by omega) (fun x hx => (hok x hx).2) fun d hd => ?_; (first | simp_arith! only [g41] | simp_arith! only [true_and] | skip) ; (repeat (((with_reducible refine And.intro ?_ ?_); focus (first | decide | omega | exact trivial | (intro h; cases h; done) | exact Or.inr (by decide) | exact Or.inl ⟨by omega, by omega⟩ | exact ⟨by omega, by omega⟩ | (rw [sizeLine_eq]; omega) | (refine sz ?_; first | omega | (simp; done))))))
    (first | (with_reducible refine step_i (by with_unfolding_all rfl) ?_) | ((first | simp_arith! only [g27, g38, g34] | simp_arith! only [true_and] | skip); with_reducible refine step_i (by with_unfolding_all rfl) ?_)); simp_arith! only [g27, g38, g34] ; (repeat (((with_reducible refine And.intro ?_ ?_); focus (first | decide | omega | exact trivial | (intro h; cases h; done) | exact Or.inr (by decide) | exact Or.inl ⟨by omega, by omega⟩ | exact ⟨by omega, by omega⟩ | (rw [sizeLine_eq]; omega) | (refine sz ?_; first | omega | (simp; done))))))
    refine c_is_paper hd ?_; (first | simp_arith! only [g27, g38, g34] | simp_arith! only [true_and] | skip) ; (repeat (((with_reducible refine And.intro ?_ ?_); focus (first | decide | omega | exact trivial | (intro h; cases h; done) | exact Or.inr (by decide) | exact Or.inl ⟨by omega, by omega⟩ | exact ⟨by omega, by omega⟩ | (rw [sizeLine_eq]; omega) | (refine sz ?_; first | omega | (simp; done))))))
    refine c_is_paper hd ?_; (first | simp_arith! only [g27, g38, g34] | simp_arith! only [true_and] | skip) ; (repeat (((with_reducible refine And.intro ?_ ?_); focus (first | decide | omega | exact trivial | (intro h; cases h; done) | exact Or.inr (by decide) | exact Or.inl ⟨by omega, by omega⟩ | exact ⟨by omega, by omega⟩ | (rw [sizeLine_eq]; omega) | (refine sz ?_; first | omega | (simp; done))))))
    refine c_same rfl trivial ?_; (first | simp_arith! only [g27, g38, g34] | simp_arith! only [true_and] | skip) ; (repeat (((with_reducible refine And.intro ?_ ?_); focus (first | decide | omega | exact trivial | (intro h; cases h; done) | exact Or.inr (by decide) | exact Or.inl ⟨by omega, by omega⟩ | exact ⟨by omega, by omega⟩ | (rw [sizeLine_eq]; omega) | (refine sz ?_; first | omega | (simp; done))))))
    exact hN _ ⟨_, _, fun y hy => hi y (List.mem_cons_of_mem _ hy), rfl⟩
  · intro d hd
    obtain ⟨i, _, rfl⟩ := List.mem_map.mp hd
    exact ⟨_, rfl⟩
  rintro ρ ⟨s9, s14, _, rfl⟩
  (first | (with_reducible refine step_i (by with_unfolding_all rfl) ?_) | ((first | simp_arith! only [g9] | simp_arith! only [true_and] | skip); with_reducible refine step_i (by with_unfolding_all rfl) ?_)); simp_arith! only [g9] ; (repeat (((with_reducible refine And.intro ?_ ?_); focus (first | decide | omega | exact trivial | (intro h; cases h; done) | exact Or.inr (by decide) | exact Or.inl ⟨by omega, by omega⟩ | exact ⟨by omega, by omega⟩ | (rw [sizeLine_eq]; omega) | (refine sz ?_; first | omega | (simp; done))))))
  (repeat (((with_reducible refine And.intro ?_ ?_); focus (first | decide | omega | exact trivial | (intro h; cases h; done) | exact Or.inr (by decide) | exact Or.inl ⟨by omega, by omega⟩ | exact ⟨by omega, by omega⟩ | (rw [sizeLine_eq]; omega) | (refine sz ?_; first | omega | (simp; done)))))); refine c_draw26 (by constructor <;> first | decide | omega) fun a a0 a1 => ?_; (first | simp_arith! only [g9] | simp_arith! only [true_and] | skip) ; (repeat (((with_reducible refine And.intro ?_ ?_); focus (first | decide | omega | exact trivial | (intro h; cases h; done) | exact Or.inr (by decide) | exact Or.inl ⟨by omega, by omega⟩ | exact ⟨by omega, by omega⟩ | (rw [sizeLine_eq]; omega) | (refine sz ?_; first | omega | (simp; done))))))
  obtain ⟨j, rfl⟩ := Int.eq_ofNat_of_zero_le a0
  have hj : j ≤ L.length := by omega
  have rot : ∀ l : List (Str × Str), j ≤ l.length → cutD (l.map prD) (some (j : Int)) none = (l.drop j).map prD ∧ cutD (l.map prD) none (some (j : Int)) = (l.take j).map prD := fun l h => by
    rw [cut_fromD (by rw [List.length_map]; exact h), cut_toD (by rw [List.length_map]; exact h), List.map_drop, List.map_take]
    exact ⟨rfl, rfl⟩
  obtain ⟨r1, r2⟩ := rot L hj
  have hdul := hdue.len
  obtain ⟨r3, r4⟩ := rot due (by omega)
  have hD : (L.drop j ++ L.take j).length ≤ 1000 := by rw [List.length_append, List.length_drop, List.length_take]; omega
  have hDm : ∀ p ∈ L.drop j ++ L.take j, p.2.length ≤ 10000 := mem_app (fun p hp => hL p (List.mem_of_mem_drop hp)) fun p hp => hL p (List.mem_of_mem_take hp)
  (first | (with_reducible refine step_i (by with_unfolding_all rfl) ?_) | ((first | simp_arith! only [r1, r2] | simp_arith! only [true_and] | skip); with_reducible refine step_i (by with_unfolding_all rfl) ?_)); simp_arith! only [r1, r2] ; (repeat (((with_reducible refine And.intro ?_ ?_); focus (first | decide | omega | exact trivial | (intro h; cases h; done) | exact Or.inr (by decide) | exact Or.inl ⟨by omega, by omega⟩ | exact ⟨by omega, by omega⟩ | (rw [sizeLine_eq]; omega) | (refine sz ?_; first | omega | (simp; done))))))
  rw [← List.map_append]
  (first | (with_reducible refine step_i (by with_unfolding_all rfl) ?_) | ((first | simp_arith! only [g28] | simp_arith! only [true_and] | skip); with_reducible refine step_i (by with_unfolding_all rfl) ?_)); simp_arith! only [g28] ; (repeat (((with_reducible refine And.intro ?_ ?_); focus (first | decide | omega | exact trivial | (intro h; cases h; done) | exact Or.inr (by decide) | exact Or.inl ⟨by omega, by omega⟩ | exact ⟨by omega, by omega⟩ | (rw [sizeLine_eq]; omega) | (refine sz ?_; first | omega | (simp; done))))))
  refine c_changed (.inl rfl) hD hDm hch ?_; (first | simp_arith! only [g28] | simp_arith! only [true_and] | skip) ; (repeat (((with_reducible refine And.intro ?_ ?_); focus (first | decide | omega | exact trivial | (intro h; cases h; done) | exact Or.inr (by decide) | exact Or.inl ⟨by omega, by omega⟩ | exact ⟨by omega, by omega⟩ | (rw [sizeLine_eq]; omega) | (refine sz ?_; first | omega | (simp; done))))))
  have edue : ((due.drop j).map prD ++ (due.take j).map prD) = (L.drop j ++ L.take j).map fun p => prD (p.1, chF (paperOf rows) p.1 p.2) := by
    rw [hdeq, ← List.map_drop, ← List.map_take, List.map_map, List.map_map, List.map_append]
    rfl
  (first | (with_reducible refine step_i (by with_unfolding_all rfl) ?_) | ((first | simp_arith! only [r1, r2, r3, r4, g34] | simp_arith! only [true_and] | skip); with_reducible refine step_i (by with_unfolding_all rfl) ?_)); simp_arith! only [r1, r2, r3, r4, g34] ; (repeat (((with_reducible refine And.intro ?_ ?_); focus (first | decide | omega | exact trivial | (intro h; cases h; done) | exact Or.inr (by decide) | exact Or.inl ⟨by omega, by omega⟩ | exact ⟨by omega, by omega⟩ | (rw [sizeLine_eq]; omega) | (refine sz ?_; first | omega | (simp; done))))))
  refine c_same (by rw [edue]) (pr_depG _ hD) ?_; (first | simp_arith! only [r1, r2, r3, r4, g34] | simp_arith! only [true_and] | skip) ; (repeat (((with_reducible refine And.intro ?_ ?_); focus (first | decide | omega | exact trivial | (intro h; cases h; done) | exact Or.inr (by decide) | exact Or.inl ⟨by omega, by omega⟩ | exact ⟨by omega, by omega⟩ | (rw [sizeLine_eq]; omega) | (refine sz ?_; first | omega | (simp; done))))))
  refine c_same (by rw [← List.map_append]) (pr_depL hD) ?_; (first | simp_arith! only [r1, r2, r3, r4, g34] | simp_arith! only [true_and] | skip) ; (repeat (((with_reducible refine And.intro ?_ ?_); focus (first | decide | omega | exact trivial | (intro h; cases h; done) | exact Or.inr (by decide) | exact Or.inl ⟨by omega, by omega⟩ | exact ⟨by omega, by omega⟩ | (rw [sizeLine_eq]; omega) | (refine sz ?_; first | omega | (simp; done))))))
  (first | (with_reducible refine step_i (by with_unfolding_all rfl) ?_) | ((first | simp_arith! only [List.filterMap_cons, List.filterMap_nil, List.getElem?_cons_zero, List.getElem?_cons_succ, g28, g34] | simp_arith! only [true_and] | skip); with_reducible refine step_i (by with_unfolding_all rfl) ?_)); simp_arith! only [List.filterMap_cons, List.filterMap_nil, List.getElem?_cons_zero, List.getElem?_cons_succ, g28, g34] ; (repeat (((with_reducible refine And.intro ?_ ?_); focus (first | decide | omega | exact trivial | (intro h; cases h; done) | exact Or.inr (by decide) | exact Or.inl ⟨by omega, by omega⟩ | exact ⟨by omega, by omega⟩ | (rw [sizeLine_eq]; omega) | (refine sz ?_; first | omega | (simp; done))))))
  refine c_changed (.inr rfl) (by omega) hL hch ?_; (first | simp_arith! only [List.filterMap_cons, List.filterMap_nil, List.getElem?_cons_zero, List.getElem?_cons_succ, g28, g34] | simp_arith! only [true_and] | skip) ; (repeat (((with_reducible refine And.intro ?_ ?_); focus (first | decide | omega | exact trivial | (intro h; cases h; done) | exact Or.inr (by decide) | exact Or.inl ⟨by omega, by omega⟩ | exact ⟨by omega, by omega⟩ | (rw [sizeLine_eq]; omega) | (refine sz ?_; first | omega | (simp; done))))))
  refine c_same (by rw [hdeq, List.map_map]; rfl) (pr_depG _ (by omega)) ?_; (first | simp_arith! only [List.filterMap_cons, List.filterMap_nil, List.getElem?_cons_zero, List.getElem?_cons_succ, g28, g34] | simp_arith! only [true_and] | skip) ; (repeat (((with_reducible refine And.intro ?_ ?_); focus (first | decide | omega | exact trivial | (intro h; cases h; done) | exact Or.inr (by decide) | exact Or.inl ⟨by omega, by omega⟩ | exact ⟨by omega, by omega⟩ | (rw [sizeLine_eq]; omega) | (refine sz ?_; first | omega | (simp; done))))))
  (first | (with_reducible refine step_i (by with_unfolding_all rfl) ?_) | ((first | simp_arith! only [g43, g16, g28, g34] | simp_arith! only [true_and] | skip); with_reducible refine step_i (by with_unfolding_all rfl) ?_)); simp_arith! only [g43, g16, g28, g34] ; (repeat (((with_reducible refine And.intro ?_ ?_); focus (first | decide | omega | exact trivial | (intro h; cases h; done) | exact Or.inr (by decide) | exact Or.inl ⟨by omega, by omega⟩ | exact ⟨by omega, by omega⟩ | (rw [sizeLine_eq]; omega) | (refine sz ?_; first | omega | (simp; done))))))
  refine c_text26 fun s hs _ => ?_; (first | simp_arith! only [g43, g16, g28, g34] | simp_arith! only [true_and] | skip) ; (repeat (((with_reducible refine And.intro ?_ ?_); focus (first | decide | omega | exact trivial | (intro h; cases h; done) | exact Or.inr (by decide) | exact Or.inl ⟨by omega, by omega⟩ | exact ⟨by omega, by omega⟩ | (rw [sizeLine_eq]; omega) | (refine sz ?_; first | omega | (simp; done))))))
  refine c_edd hs ?_; (first | simp_arith! only [g43, g16, g28, g34] | simp_arith! only [true_and] | skip) ; (repeat (((with_reducible refine And.intro ?_ ?_); focus (first | decide | omega | exact trivial | (intro h; cases h; done) | exact Or.inr (by decide) | exact Or.inl ⟨by omega, by omega⟩ | exact ⟨by omega, by omega⟩ | (rw [sizeLine_eq]; omega) | (refine sz ?_; first | omega | (simp; done))))))
  refine c_changed (ps := []) (.inl rfl) hD hDm ⟨by simp, nofun⟩ ?_; (first | simp_arith! only [g43, g16, g28, g34] | simp_arith! only [true_and] | skip) ; (repeat (((with_reducible refine And.intro ?_ ?_); focus (first | decide | omega | exact trivial | (intro h; cases h; done) | exact Or.inr (by decide) | exact Or.inl ⟨by omega, by omega⟩ | exact ⟨by omega, by omega⟩ | (rw [sizeLine_eq]; omega) | (refine sz ?_; first | omega | (simp; done))))))
  refine c_same rfl (pr_depG (fun p => chF [] p.1 p.2) hD) ?_; (first | simp_arith! only [g43, g16, g28, g34] | simp_arith! only [true_and] | skip) ; (repeat (((with_reducible refine And.intro ?_ ?_); focus (first | decide | omega | exact trivial | (intro h; cases h; done) | exact Or.inr (by decide) | exact Or.inl ⟨by omega, by omega⟩ | exact ⟨by omega, by omega⟩ | (rw [sizeLine_eq]; omega) | (refine sz ?_; first | omega | (simp; done))))))
  exact q
end
end DL
namespace DL.K25
open PySem PySem.Spec PyProof.Rows L2 DL

def top (i : Nat) : Stmt := PySem.Challenge.pw_proseknot_k25_edits_and_papers.main.body.getD i (.Pass ⟨0, 0, 0, 0⟩)
def x_InvalidEdit : Stmt := match top 2 with | .ClassDef _ _ _ b _ _ _ _ _ _ _ => b.getD 0 (.Pass ⟨0, 0, 0, 0⟩) | s => s
theorem fx_InvalidEdit : FnScope ["self", "value"] ["self", "value"] (defScope x_InvalidEdit) := ⟨rfl, rfl, rfl, by decide +kernel, rfl, by decide +kernel, by decide +kernel⟩
theorem kx_InvalidEdit : ckIni ["self", "value"] (defScope x_InvalidEdit) ["value"] (defBody x_InvalidEdit) = true := by decide +kernel
def nmT : Nat → Str
  | 0 => "is_number"
  | 1 => "is_row_of_signs"
  | 25 => "is_name"
  | 2 => "is_edit"
  | 3 => "need_edit"
  | 4 => "edited"
  | 26 => "are_apart"
  | 27 => "is_paper"
  | 28 => "changed_by"
  | 8 => "_law_mixed"
  | 9 => "_law_draw"
  | 10 => "_law_start"
  | 29 => "_law_same"
  | 30 => "_law_same"
  | 31 => "_law_same"
  | 32 => "_law_same"
  | 33 => "_law_same"
  | 34 => "_law_same"
  | 14 => "_law_signs"
  | 15 => "_law_string"
  | 16 => "_law_text"
  | 35 => "_law_is_number"
  | 36 => "_law_is_edit"
  | 17 => "_law_edits"
  | 18 => "_law_done"
  | 19 => "_law_names"
  | 37 => "_law_is_name"
  | 38 => "_law_is_paper"
  | 39 => "_law_odd"
  | 40 => "_law_spoilt"
  | 41 => "_law_spoilt_paper"
  | 42 => "_law_told"
  | 43 => "_law_edited"
  | 44 => "law"
  | _ => ""
def lvT : Nat → Nat
  | 0 => 3
  | 1 => 3
  | 25 => 3
  | 2 => 4
  | 3 => 5
  | 4 => 6
  | 26 => 3
  | 27 => 5
  | 28 => 3
  | 8 => 3
  | 9 => 4
  | 10 => 5
  | 29 => 0
  | 30 => 3
  | 31 => 4
  | 32 => 5
  | 33 => 6
  | 34 => 7
  | 14 => 3
  | 15 => 5
  | 16 => 6
  | 35 => 3
  | 36 => 4
  | 17 => 6
  | 18 => 3
  | 19 => 5
  | 37 => 3
  | 38 => 5
  | 39 => 5
  | 40 => 6
  | 41 => 7
  | 42 => 7
  | 43 => 8
  | 44 => 9
  | _ => 0
/-! ### is_number -/
abbrev s_is_number : Stmt := top 9
theorem f_is_number : FnScope n_is_number ["value"] (defScope s_is_number) := ⟨rfl, rfl, rfl, by decide +kernel, rfl, by decide +kernel, by decide +kernel⟩
def c_is_number : Cn := { N := n_is_number, nm := nmT, lv := lvT, k := 2, dep := [], kw := [], depO := [], ex := [], hx := [], gi := [], gs := [] }
theorem k_is_number : ckSs c_is_number (defScope s_is_number) b_is_number (defBody s_is_number) = true := by decide +kernel
/-! ### is_row_of_signs -/
abbrev s_is_row_of_signs : Stmt := top 10
theorem f_is_row_of_signs : FnScope n_is_row_of_signs ["value"] (defScope s_is_row_of_signs) := ⟨rfl, rfl, rfl, by decide +kernel, rfl, by decide +kernel, by decide +kernel⟩
def c_is_row_of_signs : Cn := { N := n_is_row_of_signs, nm := nmT, lv := lvT, k := 2, dep := [], kw := [], depO := [], ex := [], hx := [], gi := [("PERCENT", 37), ("BLANK", 32), ("TILDE", 126)], gs := [] }
theorem k_is_row_of_signs : ckSs c_is_row_of_signs (defScope s_is_row_of_signs) b_is_row_of_signs (defBody s_is_row_of_signs) = true := by decide +kernel
/-! ### is_name -/
abbrev s_is_name : Stmt := top 11
theorem f_is_name : FnScope n_is_name ["value"] (defScope s_is_name) := ⟨rfl, rfl, rfl, by decide +kernel, rfl, by decide +kernel, by decide +kernel⟩
def c_is_name : Cn := { N := n_is_name, nm := nmT, lv := lvT, k := 2, dep := [], kw := [], depO := [], ex := [], hx := [], gi := [("MOST_LETTERS", 8)], gs := [("LETTERS", "abcdefghijklmnopqrstuvwxyz")] }
theorem k_is_name : ckSs c_is_name (defScope s_is_name) b_is_name (defBody s_is_name) = true := by decide +kernel
/-! ### is_edit -/
abbrev s_is_edit : Stmt := top 12
theorem f_is_edit : FnScope n_is_edit ["value"] (defScope s_is_edit) := ⟨rfl, rfl, rfl, by decide +kernel, rfl, by decide +kernel, by decide +kernel⟩
def c_is_edit : Cn := { N := n_is_edit, nm := nmT, lv := lvT, k := 3, dep := [1, 0], kw := [], depO := [], ex := [], hx := [], gi := [], gs := [] }
theorem k_is_edit : ckSs c_is_edit (defScope s_is_edit) b_is_edit (defBody s_is_edit) = true := by decide +kernel
/-! ### need_edit -/
abbrev s_need_edit : Stmt := top 13
theorem f_need_edit : FnScope n_need_edit ["text", "edit"] (defScope s_need_edit) := ⟨rfl, rfl, rfl, by decide +kernel, rfl, by decide +kernel, by decide +kernel⟩
def c_need_edit : Cn := { N := n_need_edit, nm := nmT, lv := lvT, k := 4, dep := [2], kw := [], depO := [], ex := [(3, "InvalidEdit")], hx := [], gi := [], gs := [] }
theorem k_need_edit : ckSs c_need_edit (defScope s_need_edit) b_need_edit (defBody s_need_edit) = true := by decide +kernel
/-! ### edited -/
abbrev s_edited : Stmt := top 14
theorem f_edited : FnScope n_edited ["text", "edit"] (defScope s_edited) := ⟨rfl, rfl, rfl, by decide +kernel, rfl, by decide +kernel, by decide +kernel⟩
def c_edited : Cn := { N := n_edited, nm := nmT, lv := lvT, k := 5, dep := [3], kw := [], depO := [], ex := [], hx := [], gi := [], gs := [] }
theorem k_edited : ckSs c_edited (defScope s_edited) b_edited (defBody s_edited) = true := by decide +kernel
/-! ### are_apart -/
abbrev s_are_apart : Stmt := top 15
theorem f_are_apart : FnScope n_are_apart ["one", "following"] (defScope s_are_apart) := ⟨rfl, rfl, rfl, by decide +kernel, rfl, by decide +kernel, by decide +kernel⟩
def c_are_apart : Cn := { N := n_are_apart, nm := nmT, lv := lvT, k := 2, dep := [], kw := [], depO := [], ex := [], hx := [], gi := [], gs := [] }
theorem k_are_apart : ckSs c_are_apart (defScope s_are_apart) b_are_apart (defBody s_are_apart) = true := by decide +kernel
/-! ### is_paper -/
abbrev s_is_paper : Stmt := top 16
theorem f_is_paper : FnScope n_is_paper ["value"] (defScope s_is_paper) := ⟨rfl, rfl, rfl, by decide +kernel, rfl, by decide +kernel, by decide +kernel⟩
def c_is_paper : Cn := { N := n_is_paper, nm := nmT, lv := lvT, k := 4, dep := [26, 2, 25], kw := [], depO := [], ex := [], hx := [], gi := [], gs := [] }
theorem k_is_paper : ckSs c_is_paper (defScope s_is_paper) b_is_paper (defBody s_is_paper) = true := by decide +kernel
/-! ### changed_by -/
abbrev s_changed_by : Stmt := top 17
theorem f_changed_by : FnScope n_changed_by ["texts", "paper"] (defScope s_changed_by) := ⟨rfl, rfl, rfl, by decide +kernel, rfl, by decide +kernel, by decide +kernel⟩
def c_changed_by : Cn := { N := n_changed_by, nm := nmT, lv := lvT, k := 2, dep := [], kw := [], depO := [], ex := [], hx := [], gi := [], gs := [] }
theorem k_changed_by : ckSs c_changed_by (defScope s_changed_by) b_changed_by (defBody s_changed_by) = true := by decide +kernel
/-! ### law_mixed -/
abbrev s_law_mixed : Stmt := top 19
theorem f_law_mixed : FnScope n_law_mixed ["_law_cell", "_law_turn"] (defScope s_law_mixed) := ⟨rfl, rfl, rfl, by decide +kernel, rfl, by decide +kernel, by decide +kernel⟩
def c_law_mixed : Cn := { N := n_law_mixed, nm := nmT, lv := lvT, k := 2, dep := [], kw := [], depO := [], ex := [], hx := [], gi := [], gs := [] }
theorem k_law_mixed : ckSs c_law_mixed (defScope s_law_mixed) b_law_mixed (defBody s_law_mixed) = true := by decide +kernel
/-! ### law_draw -/
abbrev s_law_draw : Stmt := top 20
theorem f_law_draw : FnScope n_law_draw ["_law_state", "_law_limit"] (defScope s_law_draw) := ⟨rfl, rfl, rfl, by decide +kernel, rfl, by decide +kernel, by decide +kernel⟩
def c_law_draw : Cn := { N := n_law_draw, nm := nmT, lv := lvT, k := 3, dep := [8], kw := [], depO := [], ex := [], hx := [], gi := [], gs := [] }
theorem k_law_draw : ckSs c_law_draw (defScope s_law_draw) b_law_draw (defBody s_law_draw) = true := by decide +kernel
/-! ### law_start -/
abbrev s_law_start : Stmt := top 21
theorem f_law_start : FnScope n_law_start ["_law_script"] (defScope s_law_start) := ⟨rfl, rfl, rfl, by decide +kernel, rfl, by decide +kernel, by decide +kernel⟩
def c_law_start : Cn := { N := n_law_start, nm := nmT, lv := lvT, k := 4, dep := [], kw := [], depO := [9], ex := [], hx := [], gi := [], gs := [] }
theorem k_law_start : ckSs c_law_start (defScope s_law_start) b_law_start (defBody s_law_start) = true := by decide +kernel
/-! ### law_same0_v2 -/
abbrev s_law_same : Stmt := top 22
theorem f_law_same : FnScope n_law_same0_v2 ["_law_actual", "_law_due"] (defScope s_law_same) := ⟨rfl, rfl, rfl, by decide +kernel, rfl, by decide +kernel, by decide +kernel⟩
def c_law_same0_v2 : Cn := { N := n_law_same0_v2, nm := nmT, lv := lvT, k := 2, dep := [29], kw := [], depO := [], ex := [], hx := [], gi := [], gs := [] }
theorem k_law_same0_v2 : ckSs c_law_same0_v2 (defScope s_law_same) b_law_same0_v2 (defBody s_law_same) = true := by decide +kernel
/-! ### law_same1_v2 -/
def c_law_same1_v2 : Cn := { N := n_law_same1_v2, nm := nmT, lv := lvT, k := 3, dep := [30], kw := [], depO := [], ex := [], hx := [], gi := [], gs := [] }
theorem k_law_same1_v2 : ckSs c_law_same1_v2 (defScope s_law_same) b_law_same1_v2 (defBody s_law_same) = true := by decide +kernel
/-! ### law_same2 -/
def c_law_same2 : Cn := { N := n_law_same2, nm := nmT, lv := lvT, k := 4, dep := [31], kw := [], depO := [], ex := [], hx := [], gi := [], gs := [] }
theorem k_law_same2 : ckSs c_law_same2 (defScope s_law_same) b_law_same2 (defBody s_law_same) = true := by decide +kernel
/-! ### law_same3 -/
def c_law_same3 : Cn := { N := n_law_same3, nm := nmT, lv := lvT, k := 5, dep := [32], kw := [], depO := [], ex := [], hx := [], gi := [], gs := [] }
theorem k_law_same3 : ckSs c_law_same3 (defScope s_law_same) b_law_same3 (defBody s_law_same) = true := by decide +kernel
/-! ### law_same4 -/
def c_law_same4 : Cn := { N := n_law_same4, nm := nmT, lv := lvT, k := 6, dep := [33], kw := [], depO := [], ex := [], hx := [], gi := [], gs := [] }
theorem k_law_same4 : ckSs c_law_same4 (defScope s_law_same) b_law_same4 (defBody s_law_same) = true := by decide +kernel
/-! ### law_signs -/
abbrev s_law_signs : Stmt := top 23
theorem f_law_signs : FnScope n_law_signs [] (defScope s_law_signs) := ⟨rfl, rfl, rfl, by decide +kernel, rfl, by decide +kernel, by decide +kernel⟩
def c_law_signs : Cn := { N := n_law_signs, nm := nmT, lv := lvT, k := 2, dep := [], kw := [], depO := [], ex := [], hx := [], gi := [], gs := [] }
theorem k_law_signs : ckSs c_law_signs (defScope s_law_signs) b_law_signs (defBody s_law_signs) = true := by decide +kernel
/-! ### law_string -/
abbrev s_law_string : Stmt := top 24
theorem f_law_string : FnScope n_law_string ["_law_state", "_law_most"] (defScope s_law_string) := ⟨rfl, rfl, rfl, by decide +kernel, rfl, by decide +kernel, by decide +kernel⟩
def c_law_string : Cn := { N := n_law_string, nm := nmT, lv := lvT, k := 4, dep := [9, 14], kw := [], depO := [], ex := [], hx := [], gi := [], gs := [] }
theorem k_law_string : ckSs c_law_string (defScope s_law_string) b_law_string (defBody s_law_string) = true := by decide +kernel
/-! ### law_text -/
abbrev s_law_text : Stmt := top 25
theorem f_law_text : FnScope n_law_text ["_law_state"] (defScope s_law_text) := ⟨rfl, rfl, rfl, by decide +kernel, rfl, by decide +kernel, by decide +kernel⟩
def c_law_text : Cn := { N := n_law_text, nm := nmT, lv := lvT, k := 5, dep := [15], kw := [], depO := [], ex := [], hx := [], gi := [], gs := [] }
theorem k_law_text : ckSs c_law_text (defScope s_law_text) b_law_text (defBody s_law_text) = true := by decide +kernel
/-! ### law_is_number -/
abbrev s_law_is_number : Stmt := top 26
theorem f_law_is_number : FnScope n_law_is_number ["_law_value"] (defScope s_law_is_number) := ⟨rfl, rfl, rfl, by decide +kernel, rfl, by decide +kernel, by decide +kernel⟩
def c_law_is_number : Cn := { N := n_law_is_number, nm := nmT, lv := lvT, k := 2, dep := [], kw := [], depO := [], ex := [], hx := [], gi := [], gs := [] }
theorem k_law_is_number : ckSs c_law_is_number (defScope s_law_is_number) b_law_is_number (defBody s_law_is_number) = true := by decide +kernel
/-! ### law_is_edit -/
abbrev s_law_is_edit : Stmt := top 27
theorem f_law_is_edit : FnScope n_law_is_edit ["_law_value"] (defScope s_law_is_edit) := ⟨rfl, rfl, rfl, by decide +kernel, rfl, by decide +kernel, by decide +kernel⟩
def c_law_is_edit : Cn := { N := n_law_is_edit, nm := nmT, lv := lvT, k := 3, dep := [14, 35], kw := [], depO := [], ex := [], hx := [], gi := [], gs := [] }
theorem k_law_is_edit : ckSs c_law_is_edit (defScope s_law_is_edit) b_law_is_edit (defBody s_law_is_edit) = true := by decide +kernel
/-! ### law_edits -/
abbrev s_law_edits : Stmt := top 28
theorem f_law_edits : FnScope n_law_edits ["_law_state", "_law_size"] (defScope s_law_edits) := ⟨rfl, rfl, rfl, by decide +kernel, rfl, by decide +kernel, by decide +kernel⟩
def c_law_edits : Cn := { N := n_law_edits, nm := nmT, lv := lvT, k := 5, dep := [9, 15], kw := [], depO := [], ex := [], hx := [], gi := [], gs := [] }
theorem k_law_edits : ckSs c_law_edits (defScope s_law_edits) b_law_edits (defBody s_law_edits) = true := by decide +kernel
/-! ### law_done -/
abbrev s_law_done : Stmt := top 29
theorem f_law_done : FnScope n_law_done ["_law_text_here", "_law_edits_here"] (defScope s_law_done) := ⟨rfl, rfl, rfl, by decide +kernel, rfl, by decide +kernel, by decide +kernel⟩
def c_law_done : Cn := { N := n_law_done, nm := nmT, lv := lvT, k := 2, dep := [], kw := [], depO := [], ex := [], hx := [], gi := [], gs := [] }
theorem k_law_done : ckSs c_law_done (defScope s_law_done) b_law_done (defBody s_law_done) = true := by decide +kernel
/-! ### law_names -/
abbrev s_law_names : Stmt := top 30
theorem f_law_names : FnScope n_law_names ["_law_state", "_law_many"] (defScope s_law_names) := ⟨rfl, rfl, rfl, by decide +kernel, rfl, by decide +kernel, by decide +kernel⟩
def c_law_names : Cn := { N := n_law_names, nm := nmT, lv := lvT, k := 4, dep := [9], kw := [], depO := [], ex := [], hx := [], gi := [], gs := [] }
theorem k_law_names : ckSs c_law_names (defScope s_law_names) b_law_names (defBody s_law_names) = true := by decide +kernel
/-! ### law_is_name -/
abbrev s_law_is_name : Stmt := top 31
theorem f_law_is_name : FnScope n_law_is_name ["_law_value"] (defScope s_law_is_name) := ⟨rfl, rfl, rfl, by decide +kernel, rfl, by decide +kernel, by decide +kernel⟩
def c_law_is_name : Cn := { N := n_law_is_name, nm := nmT, lv := lvT, k := 2, dep := [], kw := [], depO := [], ex := [], hx := [], gi := [], gs := [] }
theorem k_law_is_name : ckSs c_law_is_name (defScope s_law_is_name) b_law_is_name (defBody s_law_is_name) = true := by decide +kernel
/-! ### law_is_paper -/
abbrev s_law_is_paper : Stmt := top 32
theorem f_law_is_paper : FnScope n_law_is_paper ["_law_value"] (defScope s_law_is_paper) := ⟨rfl, rfl, rfl, by decide +kernel, rfl, by decide +kernel, by decide +kernel⟩
def c_law_is_paper : Cn := { N := n_law_is_paper, nm := nmT, lv := lvT, k := 4, dep := [36, 37], kw := [], depO := [], ex := [], hx := [], gi := [], gs := [] }
theorem k_law_is_paper : ckSs c_law_is_paper (defScope s_law_is_paper) b_law_is_paper (defBody s_law_is_paper) = true := by decide +kernel
/-! ### law_odd -/
abbrev s_law_odd : Stmt := top 33
theorem f_law_odd : FnScope n_law_odd ["_law_state"] (defScope s_law_odd) := ⟨rfl, rfl, rfl, by decide +kernel, rfl, by decide +kernel, by decide +kernel⟩
def c_law_odd : Cn := { N := n_law_odd, nm := nmT, lv := lvT, k := 4, dep := [9], kw := [], depO := [], ex := [], hx := [], gi := [], gs := [] }
theorem k_law_odd : ckSs c_law_odd (defScope s_law_odd) b_law_odd (defBody s_law_odd) = true := by decide +kernel
/-! ### law_spoilt -/
abbrev s_law_spoilt : Stmt := top 34
theorem f_law_spoilt : FnScope n_law_spoilt ["_law_state", "_law_row", "_law_at"] (defScope s_law_spoilt) := ⟨rfl, rfl, rfl, by decide +kernel, rfl, by decide +kernel, by decide +kernel⟩
def c_law_spoilt : Cn := { N := n_law_spoilt, nm := nmT, lv := lvT, k := 5, dep := [39, 9], kw := [], depO := [], ex := [], hx := [], gi := [], gs := [] }
theorem k_law_spoilt : ckSs c_law_spoilt (defScope s_law_spoilt) b_law_spoilt (defBody s_law_spoilt) = true := by decide +kernel
/-! ### law_spoilt_paper -/
abbrev s_law_spoilt_paper : Stmt := top 35
theorem f_law_spoilt_paper : FnScope n_law_spoilt_paper ["_law_state", "_law_paper"] (defScope s_law_spoilt_paper) := ⟨rfl, rfl, rfl, by decide +kernel, rfl, by decide +kernel, by decide +kernel⟩
def c_law_spoilt_paper : Cn := { N := n_law_spoilt_paper, nm := nmT, lv := lvT, k := 6, dep := [39, 9, 40], kw := [], depO := [], ex := [], hx := [], gi := [], gs := [] }
theorem k_law_spoilt_paper : ckSs c_law_spoilt_paper (defScope s_law_spoilt_paper) b_law_spoilt_paper (defBody s_law_spoilt_paper) = true := by decide +kernel
/-! ### law_told_v2 -/
abbrev s_law_told : Stmt := top 36
theorem f_law_told : FnScope n_law_told_v2 ["_law_text_here", "_law_edit"] (defScope s_law_told) := ⟨rfl, rfl, rfl, by decide +kernel, rfl, by decide +kernel, by decide +kernel⟩
def c_law_told_v2 : Cn := { N := n_law_told_v2, nm := nmT, lv := lvT, k := 6, dep := [4], kw := [], depO := [], ex := [], hx := ["InvalidEdit"], gi := [], gs := [] }
theorem k_law_told_v2 : ckSs c_law_told_v2 (defScope s_law_told) b_law_told_v2 (defBody s_law_told) = true := by decide +kernel
/-! ### law_edited -/
abbrev s_law_edited : Stmt := top 37
theorem f_law_edited : FnScope n_law_edited ["_law_state", "_law_text_here"] (defScope s_law_edited) := ⟨rfl, rfl, rfl, by decide +kernel, rfl, by decide +kernel, by decide +kernel⟩
def c_law_edited : Cn := { N := n_law_edited, nm := nmT, lv := lvT, k := 7, dep := [34, 2, 42, 18, 36, 40, 15, 9], kw := [], depO := [], ex := [], hx := [], gi := [], gs := [] }
theorem k_law_edited : ckSs c_law_edited (defScope s_law_edited) b_law_edited (defBody s_law_edited) = true := by decide +kernel
/-! ### law_v2 -/
abbrev s_law : Stmt := top 38
theorem f_law : FnScope n_law_v2 ["_law_script"] (defScope s_law) := ⟨rfl, rfl, rfl, by decide +kernel, rfl, by decide +kernel, by decide +kernel⟩
def c_law_v2 : Cn := { N := n_law_v2, nm := nmT, lv := lvT, k := 8, dep := [43, 16, 34, 28, 9, 38, 27, 41, 18, 17, 19, 10], kw := [(28, ["texts", "paper"], [0, 1])], depO := [], ex := [], hx := [], gi := [], gs := [] }
theorem k_law_v2 : ckSs c_law_v2 (defScope s_law) b_law_v2 (defBody s_law) = true := by decide +kernel
end DL.K25
namespace DL.K25
open PySem PySem.Spec PyProof.Rows L2 DL

abbrev subT : List (Nat × Str × Bool) := [(3, "InvalidEdit", true), (3, "KnotError", true), (3, "ValueError", true)]
abbrev clsT : List (Nat × List Str) := [(3, ["value"])]
def Γ (P : Program) (w : World) : Gm where
  f := fun n => match n with
    | 0 => sIsNumber
    | 1 => sIsRow
    | 25 => sIsName
    | 2 => sIsEdit
    | 3 => sNeedEdit
    | 4 => sEdited
    | 26 => sApart
    | 27 => sIsPaper
    | 28 => sChanged
    | 8 => sMixed26
    | 9 => sDraw26 P w
    | 10 => sStart26 P w
    | 30 => sSame 0
    | 31 => sSame 1
    | 32 => sSame 2
    | 33 => sSame 3
    | 34 => sSame 4
    | 14 => sSigns
    | 15 => sString P w
    | 16 => sText26 P w
    | 35 => sLNum
    | 36 => sLEdit
    | 17 => sEdits P w
    | 18 => sDone
    | 19 => sNames P w
    | 37 => sIsName
    | 38 => sIsPaper
    | 39 => sOdd P w
    | 40 => sSpoilt P w
    | 41 => sSpPaper P w
    | 42 => sTold25
    | 43 => sEdd P w
    | 44 => sLaw25
    | _ => fun _ _ _ => False
  o := fun n => match n with
    | 9 => oDraw26
    | _ => fun _ _ _ => False
  sub := subF subT
  cls := clsF clsT
theorem ek0 : EXok (fun _ _ _ _ => False) := fun _ _ _ _ _ _ h => h
section
variable {P : Program} {w : World} {K : PySem.W.Frag} {mg : Str → Option Value} {base : Heap} {xa : Nat → Addr}
abbrev Fg (P : Program) (w : World) (K : PySem.W.Frag) (mg : Str → Option Value) (base : Heap) (xa : Nat → Addr) (i : Nat) : Prop := ∃ (fa : Addr) (fd : FuncData) (ps : List Str), mg (nmT i) = some (.ref fa) ∧ PySem.W.keepIn K (.ref fa) = true ∧ Binds K fd ps [] ∧ FnOk P w K mg base (L2.CX P w) (lvT i) fa fd ps (low K xa ((Γ P w).f i))
abbrev Fo (P : Program) (w : World) (K : PySem.W.Frag) (mg : Str → Option Value) (base : Heap) (i : Nat) : Prop := ∃ (fa : Addr) (fd : FuncData) (ps : List Str), mg (nmT i) = some (.ref fa) ∧ PySem.W.keepIn K (.ref fa) = true ∧ Binds K fd ps [] ∧ FnOk P w K mg base (L2.CX P w) (lvT i) fa fd ps (lowO K ((Γ P w).o i))
abbrev Fk (P : Program) (w : World) (K : PySem.W.Frag) (mg : Str → Option Value) (base : Heap) (xa : Nat → Addr) (i : Nat) (ks : List Str) (pm : List Nat) : Prop := ∃ (fa : Addr) (fd : FuncData) (ps : List Str), mg (nmT i) = some (.ref fa) ∧ PySem.W.keepIn K (.ref fa) = true ∧ KB K fd ps ks pm ∧ FnOk P w K mg base (L2.CX P w) (lvT i) fa fd ps (low K xa ((Γ P w).f i))
theorem ok_none29 {f : Addr} {fd : FuncData} {ps : List Str} : FnOk P w K mg base (L2.CX P w) (lvT 29) f fd ps (low K xa ((Γ P w).f 29)) := ⟨fun vs H Q E ⟨_, _, _, _, _, _, h, _⟩ => h.elim, fun A outer s H args us vs Q E _ _ _ _ ⟨_, _, _, _, _, _, h, _⟩ => h.elim⟩
theorem ok_is_number {f : Addr} {fd : FuncData} (F : Fun K "is_number" "is_number" s_is_number f fd) (B : ∀ x ∈ bltNames, mg x = none) (U : ∀ c x b, (Γ P w).sub c x = some b → ExNG K mg xa c x b) (V : ∀ c fs, (Γ P w).cls c = some fs → ExK K xa c fs) : FnOk P w K mg base (L2.CX P w) (lvT 0) f fd ["value"] (low K xa ((Γ P w).f 0)) :=
  def_ok (C := c_is_number) (Γ := Γ P w) (sp := (Γ P w).f 0) F f_is_number ek0 ⟨nofun, nofun, B, nofun, nofun, nofun, nofun, nofun, U, V, rfl⟩ k_is_number (fun ds Q E h => by first | (obtain ⟨rfl, _⟩ := h; rfl) | (obtain ⟨_, rfl, _⟩ := h; rfl) | (obtain ⟨_, _, rfl, _⟩ := h; rfl) | (obtain ⟨_, _, _, rfl, _⟩ := h; rfl) | (obtain ⟨_, _, _, _, rfl, _⟩ := h; rfl) | (obtain ⟨_, _, _, _, _, rfl, _⟩ := h; rfl) | (obtain ⟨_, _, _, _, _, _, rfl, _⟩ := h; rfl) | (obtain ⟨_, _, _, _, _, _, _, rfl, _⟩ := h; rfl) | (obtain ⟨_, _, _, _, _, _, _, _, rfl, _⟩ := h; rfl) | (obtain ⟨_, _, _, _, _, _, _, _, _, rfl, _⟩ := h; rfl) | (obtain ⟨_, _, _, _, _, _, _, _, _, _, rfl, _⟩ := h; rfl) | (obtain ⟨_, _, _, _, _, _, _, _, _, _, _, rfl, _⟩ := h; rfl) | (obtain ⟨_, _, _, _, _, _, _, _, _, _, _, _, rfl, _⟩ := h; rfl) | (obtain ⟨_, _, _, _, _, _, _, _, _, _, _, _, _, rfl, _⟩ := h; rfl)) fun ds QD QE h => w_is_number (QE := QE) h
theorem ok_is_row_of_signs {f : Addr} {fd : FuncData} (F : Fun K "is_row_of_signs" "is_row_of_signs" s_is_row_of_signs f fd) (B : ∀ x ∈ bltNames, mg x = none) (U : ∀ c x b, (Γ P w).sub c x = some b → ExNG K mg xa c x b) (V : ∀ c fs, (Γ P w).cls c = some fs → ExK K xa c fs) (t0 : ∃ t, mg "PERCENT" = some (.int 37 t)) (t1 : ∃ t, mg "BLANK" = some (.int 32 t)) (t2 : ∃ t, mg "TILDE" = some (.int 126 t)) : FnOk P w K mg base (L2.CX P w) (lvT 1) f fd ["value"] (low K xa ((Γ P w).f 1)) :=
  def_ok (C := c_is_row_of_signs) (Γ := Γ P w) (sp := (Γ P w).f 1) F f_is_row_of_signs ek0 ⟨nofun, nofun, B, nofun, List.forall_mem_cons.mpr ⟨t0, List.forall_mem_cons.mpr ⟨t1, List.forall_mem_cons.mpr ⟨t2, nofun⟩⟩⟩, nofun, nofun, nofun, U, V, rfl⟩ k_is_row_of_signs (fun ds Q E h => by first | (obtain ⟨rfl, _⟩ := h; rfl) | (obtain ⟨_, rfl, _⟩ := h; rfl) | (obtain ⟨_, _, rfl, _⟩ := h; rfl) | (obtain ⟨_, _, _, rfl, _⟩ := h; rfl) | (obtain ⟨_, _, _, _, rfl, _⟩ := h; rfl) | (obtain ⟨_, _, _, _, _, rfl, _⟩ := h; rfl) | (obtain ⟨_, _, _, _, _, _, rfl, _⟩ := h; rfl) | (obtain ⟨_, _, _, _, _, _, _, rfl, _⟩ := h; rfl) | (obtain ⟨_, _, _, _, _, _, _, _, rfl, _⟩ := h; rfl) | (obtain ⟨_, _, _, _, _, _, _, _, _, rfl, _⟩ := h; rfl) | (obtain ⟨_, _, _, _, _, _, _, _, _, _, rfl, _⟩ := h; rfl) | (obtain ⟨_, _, _, _, _, _, _, _, _, _, _, rfl, _⟩ := h; rfl) | (obtain ⟨_, _, _, _, _, _, _, _, _, _, _, _, rfl, _⟩ := h; rfl) | (obtain ⟨_, _, _, _, _, _, _, _, _, _, _, _, _, rfl, _⟩ := h; rfl)) fun ds QD QE h => w_is_row (QE := QE) h
theorem ok_is_name {f : Addr} {fd : FuncData} (F : Fun K "is_name" "is_name" s_is_name f fd) (B : ∀ x ∈ bltNames, mg x = none) (U : ∀ c x b, (Γ P w).sub c x = some b → ExNG K mg xa c x b) (V : ∀ c fs, (Γ P w).cls c = some fs → ExK K xa c fs) (t0 : ∃ t, mg "LETTERS" = some (.str "abcdefghijklmnopqrstuvwxyz" t)) (t1 : ∃ t, mg "MOST_LETTERS" = some (.int 8 t)) : FnOk P w K mg base (L2.CX P w) (lvT 25) f fd ["value"] (low K xa ((Γ P w).f 25)) :=
  def_ok (C := c_is_name) (Γ := Γ P w) (sp := (Γ P w).f 25) F f_is_name ek0 ⟨nofun, nofun, B, nofun, List.forall_mem_cons.mpr ⟨t1, nofun⟩, List.forall_mem_cons.mpr ⟨t0, nofun⟩, nofun, nofun, U, V, rfl⟩ k_is_name (fun ds Q E h => by first | (obtain ⟨rfl, _⟩ := h; rfl) | (obtain ⟨_, rfl, _⟩ := h; rfl) | (obtain ⟨_, _, rfl, _⟩ := h; rfl) | (obtain ⟨_, _, _, rfl, _⟩ := h; rfl) | (obtain ⟨_, _, _, _, rfl, _⟩ := h; rfl) | (obtain ⟨_, _, _, _, _, rfl, _⟩ := h; rfl) | (obtain ⟨_, _, _, _, _, _, rfl, _⟩ := h; rfl) | (obtain ⟨_, _, _, _, _, _, _, rfl, _⟩ := h; rfl) | (obtain ⟨_, _, _, _, _, _, _, _, rfl, _⟩ := h; rfl) | (obtain ⟨_, _, _, _, _, _, _, _, _, rfl, _⟩ := h; rfl) | (obtain ⟨_, _, _, _, _, _, _, _, _, _, rfl, _⟩ := h; rfl) | (obtain ⟨_, _, _, _, _, _, _, _, _, _, _, rfl, _⟩ := h; rfl) | (obtain ⟨_, _, _, _, _, _, _, _, _, _, _, _, rfl, _⟩ := h; rfl) | (obtain ⟨_, _, _, _, _, _, _, _, _, _, _, _, _, rfl, _⟩ := h; rfl)) fun ds QD QE h => w_is_name (QE := QE) h
theorem ok_is_edit {f : Addr} {fd : FuncData} (F : Fun K "is_edit" "is_edit" s_is_edit f fd) (B : ∀ x ∈ bltNames, mg x = none) (U : ∀ c x b, (Γ P w).sub c x = some b → ExNG K mg xa c x b) (V : ∀ c fs, (Γ P w).cls c = some fs → ExK K xa c fs) (g1 : Fg P w K mg base xa 1) (g0 : Fg P w K mg base xa 0) : FnOk P w K mg base (L2.CX P w) (lvT 2) f fd ["value"] (low K xa ((Γ P w).f 2)) :=
  def_ok (C := c_is_edit) (Γ := Γ P w) (sp := (Γ P w).f 2) F f_is_edit ek0 ⟨List.forall_mem_cons.mpr ⟨g1, List.forall_mem_cons.mpr ⟨g0, nofun⟩⟩, nofun, B, nofun, nofun, nofun, nofun, nofun, U, V, rfl⟩ k_is_edit (fun ds Q E h => by first | (obtain ⟨rfl, _⟩ := h; rfl) | (obtain ⟨_, rfl, _⟩ := h; rfl) | (obtain ⟨_, _, rfl, _⟩ := h; rfl) | (obtain ⟨_, _, _, rfl, _⟩ := h; rfl) | (obtain ⟨_, _, _, _, rfl, _⟩ := h; rfl) | (obtain ⟨_, _, _, _, _, rfl, _⟩ := h; rfl) | (obtain ⟨_, _, _, _, _, _, rfl, _⟩ := h; rfl) | (obtain ⟨_, _, _, _, _, _, _, rfl, _⟩ := h; rfl) | (obtain ⟨_, _, _, _, _, _, _, _, rfl, _⟩ := h; rfl) | (obtain ⟨_, _, _, _, _, _, _, _, _, rfl, _⟩ := h; rfl) | (obtain ⟨_, _, _, _, _, _, _, _, _, _, rfl, _⟩ := h; rfl) | (obtain ⟨_, _, _, _, _, _, _, _, _, _, _, rfl, _⟩ := h; rfl) | (obtain ⟨_, _, _, _, _, _, _, _, _, _, _, _, rfl, _⟩ := h; rfl) | (obtain ⟨_, _, _, _, _, _, _, _, _, _, _, _, _, rfl, _⟩ := h; rfl)) fun ds QD QE h => w_is_edit rfl rfl (QE := QE) h
theorem ok_need_edit {f : Addr} {fd : FuncData} (F : Fun K "need_edit" "need_edit" s_need_edit f fd) (B : ∀ x ∈ bltNames, mg x = none) (U : ∀ c x b, (Γ P w).sub c x = some b → ExNG K mg xa c x b) (V : ∀ c fs, (Γ P w).cls c = some fs → ExK K xa c fs) (g2 : Fg P w K mg base xa 2) (r3 : ExRG P w K mg base xa (Γ P w) 3 "InvalidEdit") : FnOk P w K mg base (L2.CX P w) (lvT 3) f fd ["text", "edit"] (low K xa ((Γ P w).f 3)) :=
  def_ok (C := c_need_edit) (Γ := Γ P w) (sp := (Γ P w).f 3) F f_need_edit ek0 ⟨List.forall_mem_cons.mpr ⟨g2, nofun⟩, nofun, B, nofun, nofun, nofun, List.forall_mem_cons.mpr ⟨r3, nofun⟩, nofun, U, V, rfl⟩ k_need_edit (fun ds Q E h => by first | (obtain ⟨rfl, _⟩ := h; rfl) | (obtain ⟨_, rfl, _⟩ := h; rfl) | (obtain ⟨_, _, rfl, _⟩ := h; rfl) | (obtain ⟨_, _, _, rfl, _⟩ := h; rfl) | (obtain ⟨_, _, _, _, rfl, _⟩ := h; rfl) | (obtain ⟨_, _, _, _, _, rfl, _⟩ := h; rfl) | (obtain ⟨_, _, _, _, _, _, rfl, _⟩ := h; rfl) | (obtain ⟨_, _, _, _, _, _, _, rfl, _⟩ := h; rfl) | (obtain ⟨_, _, _, _, _, _, _, _, rfl, _⟩ := h; rfl) | (obtain ⟨_, _, _, _, _, _, _, _, _, rfl, _⟩ := h; rfl) | (obtain ⟨_, _, _, _, _, _, _, _, _, _, rfl, _⟩ := h; rfl) | (obtain ⟨_, _, _, _, _, _, _, _, _, _, _, rfl, _⟩ := h; rfl) | (obtain ⟨_, _, _, _, _, _, _, _, _, _, _, _, rfl, _⟩ := h; rfl) | (obtain ⟨_, _, _, _, _, _, _, _, _, _, _, _, _, rfl, _⟩ := h; rfl)) fun ds QD QE h => w_need_edit rfl rfl (QE := QE) h
theorem ok_edited {f : Addr} {fd : FuncData} (F : Fun K "edited" "edited" s_edited f fd) (B : ∀ x ∈ bltNames, mg x = none) (U : ∀ c x b, (Γ P w).sub c x = some b → ExNG K mg xa c x b) (V : ∀ c fs, (Γ P w).cls c = some fs → ExK K xa c fs) (g3 : Fg P w K mg base xa 3) : FnOk P w K mg base (L2.CX P w) (lvT 4) f fd ["text", "edit"] (low K xa ((Γ P w).f 4)) :=
  def_ok (C := c_edited) (Γ := Γ P w) (sp := (Γ P w).f 4) F f_edited ek0 ⟨List.forall_mem_cons.mpr ⟨g3, nofun⟩, nofun, B, nofun, nofun, nofun, nofun, nofun, U, V, rfl⟩ k_edited (fun ds Q E h => by first | (obtain ⟨rfl, _⟩ := h; rfl) | (obtain ⟨_, rfl, _⟩ := h; rfl) | (obtain ⟨_, _, rfl, _⟩ := h; rfl) | (obtain ⟨_, _, _, rfl, _⟩ := h; rfl) | (obtain ⟨_, _, _, _, rfl, _⟩ := h; rfl) | (obtain ⟨_, _, _, _, _, rfl, _⟩ := h; rfl) | (obtain ⟨_, _, _, _, _, _, rfl, _⟩ := h; rfl) | (obtain ⟨_, _, _, _, _, _, _, rfl, _⟩ := h; rfl) | (obtain ⟨_, _, _, _, _, _, _, _, rfl, _⟩ := h; rfl) | (obtain ⟨_, _, _, _, _, _, _, _, _, rfl, _⟩ := h; rfl) | (obtain ⟨_, _, _, _, _, _, _, _, _, _, rfl, _⟩ := h; rfl) | (obtain ⟨_, _, _, _, _, _, _, _, _, _, _, rfl, _⟩ := h; rfl) | (obtain ⟨_, _, _, _, _, _, _, _, _, _, _, _, rfl, _⟩ := h; rfl) | (obtain ⟨_, _, _, _, _, _, _, _, _, _, _, _, _, rfl, _⟩ := h; rfl)) fun ds QD QE h => w_edited rfl (QE := QE) h
theorem ok_are_apart {f : Addr} {fd : FuncData} (F : Fun K "are_apart" "are_apart" s_are_apart f fd) (B : ∀ x ∈ bltNames, mg x = none) (U : ∀ c x b, (Γ P w).sub c x = some b → ExNG K mg xa c x b) (V : ∀ c fs, (Γ P w).cls c = some fs → ExK K xa c fs) : FnOk P w K mg base (L2.CX P w) (lvT 26) f fd ["one", "following"] (low K xa ((Γ P w).f 26)) :=
  def_ok (C := c_are_apart) (Γ := Γ P w) (sp := (Γ P w).f 26) F f_are_apart ek0 ⟨nofun, nofun, B, nofun, nofun, nofun, nofun, nofun, U, V, rfl⟩ k_are_apart (fun ds Q E h => by first | (obtain ⟨rfl, _⟩ := h; rfl) | (obtain ⟨_, rfl, _⟩ := h; rfl) | (obtain ⟨_, _, rfl, _⟩ := h; rfl) | (obtain ⟨_, _, _, rfl, _⟩ := h; rfl) | (obtain ⟨_, _, _, _, rfl, _⟩ := h; rfl) | (obtain ⟨_, _, _, _, _, rfl, _⟩ := h; rfl) | (obtain ⟨_, _, _, _, _, _, rfl, _⟩ := h; rfl) | (obtain ⟨_, _, _, _, _, _, _, rfl, _⟩ := h; rfl) | (obtain ⟨_, _, _, _, _, _, _, _, rfl, _⟩ := h; rfl) | (obtain ⟨_, _, _, _, _, _, _, _, _, rfl, _⟩ := h; rfl) | (obtain ⟨_, _, _, _, _, _, _, _, _, _, rfl, _⟩ := h; rfl) | (obtain ⟨_, _, _, _, _, _, _, _, _, _, _, rfl, _⟩ := h; rfl) | (obtain ⟨_, _, _, _, _, _, _, _, _, _, _, _, rfl, _⟩ := h; rfl) | (obtain ⟨_, _, _, _, _, _, _, _, _, _, _, _, _, rfl, _⟩ := h; rfl)) fun ds QD QE h => w_are_apart (QE := QE) h
theorem ok_is_paper {f : Addr} {fd : FuncData} (F : Fun K "is_paper" "is_paper" s_is_paper f fd) (B : ∀ x ∈ bltNames, mg x = none) (U : ∀ c x b, (Γ P w).sub c x = some b → ExNG K mg xa c x b) (V : ∀ c fs, (Γ P w).cls c = some fs → ExK K xa c fs) (g26 : Fg P w K mg base xa 26) (g2 : Fg P w K mg base xa 2) (g25 : Fg P w K mg base xa 25) : FnOk P w K mg base (L2.CX P w) (lvT 27) f fd ["value"] (low K xa ((Γ P w).f 27)) :=
  def_ok (C := c_is_paper) (Γ := Γ P w) (sp := (Γ P w).f 27) F f_is_paper ek0 ⟨List.forall_mem_cons.mpr ⟨g26, List.forall_mem_cons.mpr ⟨g2, List.forall_mem_cons.mpr ⟨g25, nofun⟩⟩⟩, nofun, B, nofun, nofun, nofun, nofun, nofun, U, V, rfl⟩ k_is_paper (fun ds Q E h => by first | (obtain ⟨rfl, _⟩ := h; rfl) | (obtain ⟨_, rfl, _⟩ := h; rfl) | (obtain ⟨_, _, rfl, _⟩ := h; rfl) | (obtain ⟨_, _, _, rfl, _⟩ := h; rfl) | (obtain ⟨_, _, _, _, rfl, _⟩ := h; rfl) | (obtain ⟨_, _, _, _, _, rfl, _⟩ := h; rfl) | (obtain ⟨_, _, _, _, _, _, rfl, _⟩ := h; rfl) | (obtain ⟨_, _, _, _, _, _, _, rfl, _⟩ := h; rfl) | (obtain ⟨_, _, _, _, _, _, _, _, rfl, _⟩ := h; rfl) | (obtain ⟨_, _, _, _, _, _, _, _, _, rfl, _⟩ := h; rfl) | (obtain ⟨_, _, _, _, _, _, _, _, _, _, rfl, _⟩ := h; rfl) | (obtain ⟨_, _, _, _, _, _, _, _, _, _, _, rfl, _⟩ := h; rfl) | (obtain ⟨_, _, _, _, _, _, _, _, _, _, _, _, rfl, _⟩ := h; rfl) | (obtain ⟨_, _, _, _, _, _, _, _, _, _, _, _, _, rfl, _⟩ := h; rfl)) fun ds QD QE h => w_is_paper rfl rfl rfl (QE := QE) h
theorem ok_changed_by {f : Addr} {fd : FuncData} (F : Fun K "changed_by" "changed_by" s_changed_by f fd) (B : ∀ x ∈ bltNames, mg x = none) (U : ∀ c x b, (Γ P w).sub c x = some b → ExNG K mg xa c x b) (V : ∀ c fs, (Γ P w).cls c = some fs → ExK K xa c fs) : FnOk P w K mg base (L2.CX P w) (lvT 28) f fd ["texts", "paper"] (low K xa ((Γ P w).f 28)) :=
  def_ok (C := c_changed_by) (Γ := Γ P w) (sp := (Γ P w).f 28) F f_changed_by ek0 ⟨nofun, nofun, B, nofun, nofun, nofun, nofun, nofun, U, V, rfl⟩ k_changed_by (fun ds Q E h => by first | (obtain ⟨rfl, _⟩ := h; rfl) | (obtain ⟨_, rfl, _⟩ := h; rfl) | (obtain ⟨_, _, rfl, _⟩ := h; rfl) | (obtain ⟨_, _, _, rfl, _⟩ := h; rfl) | (obtain ⟨_, _, _, _, rfl, _⟩ := h; rfl) | (obtain ⟨_, _, _, _, _, rfl, _⟩ := h; rfl) | (obtain ⟨_, _, _, _, _, _, rfl, _⟩ := h; rfl) | (obtain ⟨_, _, _, _, _, _, _, rfl, _⟩ := h; rfl) | (obtain ⟨_, _, _, _, _, _, _, _, rfl, _⟩ := h; rfl) | (obtain ⟨_, _, _, _, _, _, _, _, _, rfl, _⟩ := h; rfl) | (obtain ⟨_, _, _, _, _, _, _, _, _, _, rfl, _⟩ := h; rfl) | (obtain ⟨_, _, _, _, _, _, _, _, _, _, _, rfl, _⟩ := h; rfl) | (obtain ⟨_, _, _, _, _, _, _, _, _, _, _, _, rfl, _⟩ := h; rfl) | (obtain ⟨_, _, _, _, _, _, _, _, _, _, _, _, _, rfl, _⟩ := h; rfl)) fun ds QD QE h => w_changed_by (QE := QE) h
theorem ok_law_mixed {f : Addr} {fd : FuncData} (F : Fun K "_law_mixed" "_law_mixed" s_law_mixed f fd) (B : ∀ x ∈ bltNames, mg x = none) (U : ∀ c x b, (Γ P w).sub c x = some b → ExNG K mg xa c x b) (V : ∀ c fs, (Γ P w).cls c = some fs → ExK K xa c fs) : FnOk P w K mg base (L2.CX P w) (lvT 8) f fd ["_law_cell", "_law_turn"] (low K xa ((Γ P w).f 8)) :=
  def_ok (C := c_law_mixed) (Γ := Γ P w) (sp := (Γ P w).f 8) F f_law_mixed ek0 ⟨nofun, nofun, B, nofun, nofun, nofun, nofun, nofun, U, V, rfl⟩ k_law_mixed (fun ds Q E h => by first | (obtain ⟨rfl, _⟩ := h; rfl) | (obtain ⟨_, rfl, _⟩ := h; rfl) | (obtain ⟨_, _, rfl, _⟩ := h; rfl) | (obtain ⟨_, _, _, rfl, _⟩ := h; rfl) | (obtain ⟨_, _, _, _, rfl, _⟩ := h; rfl) | (obtain ⟨_, _, _, _, _, rfl, _⟩ := h; rfl) | (obtain ⟨_, _, _, _, _, _, rfl, _⟩ := h; rfl) | (obtain ⟨_, _, _, _, _, _, _, rfl, _⟩ := h; rfl) | (obtain ⟨_, _, _, _, _, _, _, _, rfl, _⟩ := h; rfl) | (obtain ⟨_, _, _, _, _, _, _, _, _, rfl, _⟩ := h; rfl) | (obtain ⟨_, _, _, _, _, _, _, _, _, _, rfl, _⟩ := h; rfl) | (obtain ⟨_, _, _, _, _, _, _, _, _, _, _, rfl, _⟩ := h; rfl) | (obtain ⟨_, _, _, _, _, _, _, _, _, _, _, _, rfl, _⟩ := h; rfl) | (obtain ⟨_, _, _, _, _, _, _, _, _, _, _, _, _, rfl, _⟩ := h; rfl)) fun ds QD QE h => w_law_mixed (QE := QE) h
theorem okO_law_draw {f : Addr} {fd : FuncData} (F : Fun K "_law_draw" "_law_draw" s_law_draw f fd) (B : ∀ x ∈ bltNames, mg x = none) (U : ∀ c x b, (Γ P w).sub c x = some b → ExNG K mg xa c x b) (V : ∀ c fs, (Γ P w).cls c = some fs → ExK K xa c fs) (g8 : Fg P w K mg base xa 8) : FnOk P w K mg base (L2.CX P w) (lvT 9) f fd ["_law_state", "_law_limit"] (lowO K ((Γ P w).o 9)) :=
  def_okO (C := c_law_draw) (Γ := Γ P w) (xa := xa) (sp := oDraw26) F f_law_draw ek0 ⟨List.forall_mem_cons.mpr ⟨g8, nofun⟩, nofun, B, nofun, nofun, nofun, nofun, nofun, U, V, rfl⟩ k_law_draw (fun d0 ds Q h => by obtain ⟨n, _, _, _, _, _, _, _, _, _, rfl, _⟩ := h; rfl) fun a d0 ds QD h => w_law_draw rfl h
theorem ok_law_draw {f : Addr} {fd : FuncData} (F : Fun K "_law_draw" "_law_draw" s_law_draw f fd) (B : ∀ x ∈ bltNames, mg x = none) (U : ∀ c x b, (Γ P w).sub c x = some b → ExNG K mg xa c x b) (V : ∀ c fs, (Γ P w).cls c = some fs → ExK K xa c fs) (g8 : Fg P w K mg base xa 8) : FnOk P w K mg base (L2.CX P w) (lvT 9) f fd ["_law_state", "_law_limit"] (low K xa ((Γ P w).f 9)) :=
  take_ok stL (okO_law_draw F B U V g8) (fun ds QD QE h => by obtain ⟨n, rfl, _⟩ := h; rfl) fun ds QD QE h => by
    obtain ⟨n, rfl, hn, q⟩ := h
    exact ⟨[.int n], rfl, by simp [flatD], fun θ d0 hS => by
      obtain ⟨at_, rest, turn, mixed, left, rfl⟩ := hS
      exact ⟨n, _, _, θ.1.2.1, θ.1.2.2.2, at_, rest, turn, mixed, left, rfl, hn, rfl, wk_opq, wk_opq, θ.2, fun r a1 a2 a3 a4 a5 h0 h1 => ⟨rfl, ⟨a1, a2, a3, a4, a5, rfl⟩, q r h0 h1⟩⟩⟩
theorem ok_law_start {f : Addr} {fd : FuncData} (F : Fun K "_law_start" "_law_start" s_law_start f fd) (B : ∀ x ∈ bltNames, mg x = none) (U : ∀ c x b, (Γ P w).sub c x = some b → ExNG K mg xa c x b) (V : ∀ c fs, (Γ P w).cls c = some fs → ExK K xa c fs) (h9 : Fo P w K mg base 9) : FnOk P w K mg base (L2.CX P w) (lvT 10) f fd ["_law_script"] (low K xa ((Γ P w).f 10)) :=
  make_ok stL (def_okN (C := c_law_start) (Γ := Γ P w) (xa := xa) (sp := nStart26) F f_law_start ek0 ⟨nofun, nofun, B, List.forall_mem_cons.mpr ⟨h9, nofun⟩, nofun, nofun, nofun, nofun, U, V, rfl⟩ k_law_start (fun ds Q h => by obtain ⟨cs, rfl, _⟩ := h; rfl) fun ds QD h => w_law_start rfl h) (fun H d o hN r => st_ini H d o hN r) fun ds QD QE h => by
    obtain ⟨cs, rfl, hl, q⟩ := h
    exact ⟨⟨cs, rfl, hl, fun os a1 a2 a3 a4 a5 e => ⟨cs, os, a1, a2, a3, a4, a5, e, rfl⟩⟩, q⟩
theorem ok_law_same0_v2 {f : Addr} {fd : FuncData} (F : Fun K "_law_same" "_law_same" s_law_same f fd) (B : ∀ x ∈ bltNames, mg x = none) (U : ∀ c x b, (Γ P w).sub c x = some b → ExNG K mg xa c x b) (V : ∀ c fs, (Γ P w).cls c = some fs → ExK K xa c fs) (g29 : Fg P w K mg base xa 29) : FnOk P w K mg base (L2.CX P w) (lvT 30) f fd ["_law_actual", "_law_due"] (low K xa ((Γ P w).f 30)) :=
  def_ok (C := c_law_same0_v2) (Γ := Γ P w) (sp := (Γ P w).f 30) F f_law_same ek0 ⟨List.forall_mem_cons.mpr ⟨g29, nofun⟩, nofun, B, nofun, nofun, nofun, nofun, nofun, U, V, rfl⟩ k_law_same0_v2 (fun ds Q E h => by first | (obtain ⟨rfl, _⟩ := h; rfl) | (obtain ⟨_, rfl, _⟩ := h; rfl) | (obtain ⟨_, _, rfl, _⟩ := h; rfl) | (obtain ⟨_, _, _, rfl, _⟩ := h; rfl) | (obtain ⟨_, _, _, _, rfl, _⟩ := h; rfl) | (obtain ⟨_, _, _, _, _, rfl, _⟩ := h; rfl) | (obtain ⟨_, _, _, _, _, _, rfl, _⟩ := h; rfl) | (obtain ⟨_, _, _, _, _, _, _, rfl, _⟩ := h; rfl) | (obtain ⟨_, _, _, _, _, _, _, _, rfl, _⟩ := h; rfl) | (obtain ⟨_, _, _, _, _, _, _, _, _, rfl, _⟩ := h; rfl) | (obtain ⟨_, _, _, _, _, _, _, _, _, _, rfl, _⟩ := h; rfl) | (obtain ⟨_, _, _, _, _, _, _, _, _, _, _, rfl, _⟩ := h; rfl) | (obtain ⟨_, _, _, _, _, _, _, _, _, _, _, _, rfl, _⟩ := h; rfl) | (obtain ⟨_, _, _, _, _, _, _, _, _, _, _, _, _, rfl, _⟩ := h; rfl)) fun ds QD QE h => w_same (i := 29) (r := 0) (.inl rfl) (QE := QE) h
theorem ok_law_same1_v2 {f : Addr} {fd : FuncData} (F : Fun K "_law_same" "_law_same" s_law_same f fd) (B : ∀ x ∈ bltNames, mg x = none) (U : ∀ c x b, (Γ P w).sub c x = some b → ExNG K mg xa c x b) (V : ∀ c fs, (Γ P w).cls c = some fs → ExK K xa c fs) (g30 : Fg P w K mg base xa 30) : FnOk P w K mg base (L2.CX P w) (lvT 31) f fd ["_law_actual", "_law_due"] (low K xa ((Γ P w).f 31)) :=
  def_ok (C := c_law_same1_v2) (Γ := Γ P w) (sp := (Γ P w).f 31) F f_law_same ek0 ⟨List.forall_mem_cons.mpr ⟨g30, nofun⟩, nofun, B, nofun, nofun, nofun, nofun, nofun, U, V, rfl⟩ k_law_same1_v2 (fun ds Q E h => by first | (obtain ⟨rfl, _⟩ := h; rfl) | (obtain ⟨_, rfl, _⟩ := h; rfl) | (obtain ⟨_, _, rfl, _⟩ := h; rfl) | (obtain ⟨_, _, _, rfl, _⟩ := h; rfl) | (obtain ⟨_, _, _, _, rfl, _⟩ := h; rfl) | (obtain ⟨_, _, _, _, _, rfl, _⟩ := h; rfl) | (obtain ⟨_, _, _, _, _, _, rfl, _⟩ := h; rfl) | (obtain ⟨_, _, _, _, _, _, _, rfl, _⟩ := h; rfl) | (obtain ⟨_, _, _, _, _, _, _, _, rfl, _⟩ := h; rfl) | (obtain ⟨_, _, _, _, _, _, _, _, _, rfl, _⟩ := h; rfl) | (obtain ⟨_, _, _, _, _, _, _, _, _, _, rfl, _⟩ := h; rfl) | (obtain ⟨_, _, _, _, _, _, _, _, _, _, _, rfl, _⟩ := h; rfl) | (obtain ⟨_, _, _, _, _, _, _, _, _, _, _, _, rfl, _⟩ := h; rfl) | (obtain ⟨_, _, _, _, _, _, _, _, _, _, _, _, _, rfl, _⟩ := h; rfl)) fun ds QD QE h => w_same (i := 30) (r := 1) (.inr ⟨0, rfl, rfl⟩) (QE := QE) h
theorem ok_law_same2 {f : Addr} {fd : FuncData} (F : Fun K "_law_same" "_law_same" s_law_same f fd) (B : ∀ x ∈ bltNames, mg x = none) (U : ∀ c x b, (Γ P w).sub c x = some b → ExNG K mg xa c x b) (V : ∀ c fs, (Γ P w).cls c = some fs → ExK K xa c fs) (g31 : Fg P w K mg base xa 31) : FnOk P w K mg base (L2.CX P w) (lvT 32) f fd ["_law_actual", "_law_due"] (low K xa ((Γ P w).f 32)) :=
  def_ok (C := c_law_same2) (Γ := Γ P w) (sp := (Γ P w).f 32) F f_law_same ek0 ⟨List.forall_mem_cons.mpr ⟨g31, nofun⟩, nofun, B, nofun, nofun, nofun, nofun, nofun, U, V, rfl⟩ k_law_same2 (fun ds Q E h => by first | (obtain ⟨rfl, _⟩ := h; rfl) | (obtain ⟨_, rfl, _⟩ := h; rfl) | (obtain ⟨_, _, rfl, _⟩ := h; rfl) | (obtain ⟨_, _, _, rfl, _⟩ := h; rfl) | (obtain ⟨_, _, _, _, rfl, _⟩ := h; rfl) | (obtain ⟨_, _, _, _, _, rfl, _⟩ := h; rfl) | (obtain ⟨_, _, _, _, _, _, rfl, _⟩ := h; rfl) | (obtain ⟨_, _, _, _, _, _, _, rfl, _⟩ := h; rfl) | (obtain ⟨_, _, _, _, _, _, _, _, rfl, _⟩ := h; rfl) | (obtain ⟨_, _, _, _, _, _, _, _, _, rfl, _⟩ := h; rfl) | (obtain ⟨_, _, _, _, _, _, _, _, _, _, rfl, _⟩ := h; rfl) | (obtain ⟨_, _, _, _, _, _, _, _, _, _, _, rfl, _⟩ := h; rfl) | (obtain ⟨_, _, _, _, _, _, _, _, _, _, _, _, rfl, _⟩ := h; rfl) | (obtain ⟨_, _, _, _, _, _, _, _, _, _, _, _, _, rfl, _⟩ := h; rfl)) fun ds QD QE h => w_same (i := 31) (r := 2) (.inr ⟨1, rfl, rfl⟩) (QE := QE) h
theorem ok_law_same3 {f : Addr} {fd : FuncData} (F : Fun K "_law_same" "_law_same" s_law_same f fd) (B : ∀ x ∈ bltNames, mg x = none) (U : ∀ c x b, (Γ P w).sub c x = some b → ExNG K mg xa c x b) (V : ∀ c fs, (Γ P w).cls c = some fs → ExK K xa c fs) (g32 : Fg P w K mg base xa 32) : FnOk P w K mg base (L2.CX P w) (lvT 33) f fd ["_law_actual", "_law_due"] (low K xa ((Γ P w).f 33)) :=
  def_ok (C := c_law_same3) (Γ := Γ P w) (sp := (Γ P w).f 33) F f_law_same ek0 ⟨List.forall_mem_cons.mpr ⟨g32, nofun⟩, nofun, B, nofun, nofun, nofun, nofun, nofun, U, V, rfl⟩ k_law_same3 (fun ds Q E h => by first | (obtain ⟨rfl, _⟩ := h; rfl) | (obtain ⟨_, rfl, _⟩ := h; rfl) | (obtain ⟨_, _, rfl, _⟩ := h; rfl) | (obtain ⟨_, _, _, rfl, _⟩ := h; rfl) | (obtain ⟨_, _, _, _, rfl, _⟩ := h; rfl) | (obtain ⟨_, _, _, _, _, rfl, _⟩ := h; rfl) | (obtain ⟨_, _, _, _, _, _, rfl, _⟩ := h; rfl) | (obtain ⟨_, _, _, _, _, _, _, rfl, _⟩ := h; rfl) | (obtain ⟨_, _, _, _, _, _, _, _, rfl, _⟩ := h; rfl) | (obtain ⟨_, _, _, _, _, _, _, _, _, rfl, _⟩ := h; rfl) | (obtain ⟨_, _, _, _, _, _, _, _, _, _, rfl, _⟩ := h; rfl) | (obtain ⟨_, _, _, _, _, _, _, _, _, _, _, rfl, _⟩ := h; rfl) | (obtain ⟨_, _, _, _, _, _, _, _, _, _, _, _, rfl, _⟩ := h; rfl) | (obtain ⟨_, _, _, _, _, _, _, _, _, _, _, _, _, rfl, _⟩ := h; rfl)) fun ds QD QE h => w_same (i := 32) (r := 3) (.inr ⟨2, rfl, rfl⟩) (QE := QE) h
theorem ok_law_same4 {f : Addr} {fd : FuncData} (F : Fun K "_law_same" "_law_same" s_law_same f fd) (B : ∀ x ∈ bltNames, mg x = none) (U : ∀ c x b, (Γ P w).sub c x = some b → ExNG K mg xa c x b) (V : ∀ c fs, (Γ P w).cls c = some fs → ExK K xa c fs) (g33 : Fg P w K mg base xa 33) : FnOk P w K mg base (L2.CX P w) (lvT 34) f fd ["_law_actual", "_law_due"] (low K xa ((Γ P w).f 34)) :=
  def_ok (C := c_law_same4) (Γ := Γ P w) (sp := (Γ P w).f 34) F f_law_same ek0 ⟨List.forall_mem_cons.mpr ⟨g33, nofun⟩, nofun, B, nofun, nofun, nofun, nofun, nofun, U, V, rfl⟩ k_law_same4 (fun ds Q E h => by first | (obtain ⟨rfl, _⟩ := h; rfl) | (obtain ⟨_, rfl, _⟩ := h; rfl) | (obtain ⟨_, _, rfl, _⟩ := h; rfl) | (obtain ⟨_, _, _, rfl, _⟩ := h; rfl) | (obtain ⟨_, _, _, _, rfl, _⟩ := h; rfl) | (obtain ⟨_, _, _, _, _, rfl, _⟩ := h; rfl) | (obtain ⟨_, _, _, _, _, _, rfl, _⟩ := h; rfl) | (obtain ⟨_, _, _, _, _, _, _, rfl, _⟩ := h; rfl) | (obtain ⟨_, _, _, _, _, _, _, _, rfl, _⟩ := h; rfl) | (obtain ⟨_, _, _, _, _, _, _, _, _, rfl, _⟩ := h; rfl) | (obtain ⟨_, _, _, _, _, _, _, _, _, _, rfl, _⟩ := h; rfl) | (obtain ⟨_, _, _, _, _, _, _, _, _, _, _, rfl, _⟩ := h; rfl) | (obtain ⟨_, _, _, _, _, _, _, _, _, _, _, _, rfl, _⟩ := h; rfl) | (obtain ⟨_, _, _, _, _, _, _, _, _, _, _, _, _, rfl, _⟩ := h; rfl)) fun ds QD QE h => w_same (i := 33) (r := 4) (.inr ⟨3, rfl, rfl⟩) (QE := QE) h
theorem ok_law_signs {f : Addr} {fd : FuncData} (F : Fun K "_law_signs" "_law_signs" s_law_signs f fd) (B : ∀ x ∈ bltNames, mg x = none) (U : ∀ c x b, (Γ P w).sub c x = some b → ExNG K mg xa c x b) (V : ∀ c fs, (Γ P w).cls c = some fs → ExK K xa c fs) : FnOk P w K mg base (L2.CX P w) (lvT 14) f fd [] (low K xa ((Γ P w).f 14)) :=
  def_ok (C := c_law_signs) (Γ := Γ P w) (sp := (Γ P w).f 14) F f_law_signs ek0 ⟨nofun, nofun, B, nofun, nofun, nofun, nofun, nofun, U, V, rfl⟩ k_law_signs (fun ds Q E h => by first | (obtain ⟨rfl, _⟩ := h; rfl) | (obtain ⟨_, rfl, _⟩ := h; rfl) | (obtain ⟨_, _, rfl, _⟩ := h; rfl) | (obtain ⟨_, _, _, rfl, _⟩ := h; rfl) | (obtain ⟨_, _, _, _, rfl, _⟩ := h; rfl) | (obtain ⟨_, _, _, _, _, rfl, _⟩ := h; rfl) | (obtain ⟨_, _, _, _, _, _, rfl, _⟩ := h; rfl) | (obtain ⟨_, _, _, _, _, _, _, rfl, _⟩ := h; rfl) | (obtain ⟨_, _, _, _, _, _, _, _, rfl, _⟩ := h; rfl) | (obtain ⟨_, _, _, _, _, _, _, _, _, rfl, _⟩ := h; rfl) | (obtain ⟨_, _, _, _, _, _, _, _, _, _, rfl, _⟩ := h; rfl) | (obtain ⟨_, _, _, _, _, _, _, _, _, _, _, rfl, _⟩ := h; rfl) | (obtain ⟨_, _, _, _, _, _, _, _, _, _, _, _, rfl, _⟩ := h; rfl) | (obtain ⟨_, _, _, _, _, _, _, _, _, _, _, _, _, rfl, _⟩ := h; rfl)) fun ds QD QE h => w_law_signs (QE := QE) h
theorem ok_law_string {f : Addr} {fd : FuncData} (F : Fun K "_law_string" "_law_string" s_law_string f fd) (B : ∀ x ∈ bltNames, mg x = none) (U : ∀ c x b, (Γ P w).sub c x = some b → ExNG K mg xa c x b) (V : ∀ c fs, (Γ P w).cls c = some fs → ExK K xa c fs) (g9 : Fg P w K mg base xa 9) (g14 : Fg P w K mg base xa 14) : FnOk P w K mg base (L2.CX P w) (lvT 15) f fd ["_law_state", "_law_most"] (low K xa ((Γ P w).f 15)) :=
  def_ok (C := c_law_string) (Γ := Γ P w) (sp := (Γ P w).f 15) F f_law_string ek0 ⟨List.forall_mem_cons.mpr ⟨g9, List.forall_mem_cons.mpr ⟨g14, nofun⟩⟩, nofun, B, nofun, nofun, nofun, nofun, nofun, U, V, rfl⟩ k_law_string (fun ds Q E h => by first | (obtain ⟨rfl, _⟩ := h; rfl) | (obtain ⟨_, rfl, _⟩ := h; rfl) | (obtain ⟨_, _, rfl, _⟩ := h; rfl) | (obtain ⟨_, _, _, rfl, _⟩ := h; rfl) | (obtain ⟨_, _, _, _, rfl, _⟩ := h; rfl) | (obtain ⟨_, _, _, _, _, rfl, _⟩ := h; rfl) | (obtain ⟨_, _, _, _, _, _, rfl, _⟩ := h; rfl) | (obtain ⟨_, _, _, _, _, _, _, rfl, _⟩ := h; rfl) | (obtain ⟨_, _, _, _, _, _, _, _, rfl, _⟩ := h; rfl) | (obtain ⟨_, _, _, _, _, _, _, _, _, rfl, _⟩ := h; rfl) | (obtain ⟨_, _, _, _, _, _, _, _, _, _, rfl, _⟩ := h; rfl) | (obtain ⟨_, _, _, _, _, _, _, _, _, _, _, rfl, _⟩ := h; rfl) | (obtain ⟨_, _, _, _, _, _, _, _, _, _, _, _, rfl, _⟩ := h; rfl) | (obtain ⟨_, _, _, _, _, _, _, _, _, _, _, _, _, rfl, _⟩ := h; rfl)) fun ds QD QE h => w_law_string rfl rfl (QE := QE) h
theorem ok_law_text {f : Addr} {fd : FuncData} (F : Fun K "_law_text" "_law_text" s_law_text f fd) (B : ∀ x ∈ bltNames, mg x = none) (U : ∀ c x b, (Γ P w).sub c x = some b → ExNG K mg xa c x b) (V : ∀ c fs, (Γ P w).cls c = some fs → ExK K xa c fs) (g15 : Fg P w K mg base xa 15) : FnOk P w K mg base (L2.CX P w) (lvT 16) f fd ["_law_state"] (low K xa ((Γ P w).f 16)) :=
  def_ok (C := c_law_text) (Γ := Γ P w) (sp := (Γ P w).f 16) F f_law_text ek0 ⟨List.forall_mem_cons.mpr ⟨g15, nofun⟩, nofun, B, nofun, nofun, nofun, nofun, nofun, U, V, rfl⟩ k_law_text (fun ds Q E h => by first | (obtain ⟨rfl, _⟩ := h; rfl) | (obtain ⟨_, rfl, _⟩ := h; rfl) | (obtain ⟨_, _, rfl, _⟩ := h; rfl) | (obtain ⟨_, _, _, rfl, _⟩ := h; rfl) | (obtain ⟨_, _, _, _, rfl, _⟩ := h; rfl) | (obtain ⟨_, _, _, _, _, rfl, _⟩ := h; rfl) | (obtain ⟨_, _, _, _, _, _, rfl, _⟩ := h; rfl) | (obtain ⟨_, _, _, _, _, _, _, rfl, _⟩ := h; rfl) | (obtain ⟨_, _, _, _, _, _, _, _, rfl, _⟩ := h; rfl) | (obtain ⟨_, _, _, _, _, _, _, _, _, rfl, _⟩ := h; rfl) | (obtain ⟨_, _, _, _, _, _, _, _, _, _, rfl, _⟩ := h; rfl) | (obtain ⟨_, _, _, _, _, _, _, _, _, _, _, rfl, _⟩ := h; rfl) | (obtain ⟨_, _, _, _, _, _, _, _, _, _, _, _, rfl, _⟩ := h; rfl) | (obtain ⟨_, _, _, _, _, _, _, _, _, _, _, _, _, rfl, _⟩ := h; rfl)) fun ds QD QE h => w_law_text rfl (QE := QE) h
theorem ok_law_is_number {f : Addr} {fd : FuncData} (F : Fun K "_law_is_number" "_law_is_number" s_law_is_number f fd) (B : ∀ x ∈ bltNames, mg x = none) (U : ∀ c x b, (Γ P w).sub c x = some b → ExNG K mg xa c x b) (V : ∀ c fs, (Γ P w).cls c = some fs → ExK K xa c fs) : FnOk P w K mg base (L2.CX P w) (lvT 35) f fd ["_law_value"] (low K xa ((Γ P w).f 35)) :=
  def_ok (C := c_law_is_number) (Γ := Γ P w) (sp := (Γ P w).f 35) F f_law_is_number ek0 ⟨nofun, nofun, B, nofun, nofun, nofun, nofun, nofun, U, V, rfl⟩ k_law_is_number (fun ds Q E h => by first | (obtain ⟨rfl, _⟩ := h; rfl) | (obtain ⟨_, rfl, _⟩ := h; rfl) | (obtain ⟨_, _, rfl, _⟩ := h; rfl) | (obtain ⟨_, _, _, rfl, _⟩ := h; rfl) | (obtain ⟨_, _, _, _, rfl, _⟩ := h; rfl) | (obtain ⟨_, _, _, _, _, rfl, _⟩ := h; rfl) | (obtain ⟨_, _, _, _, _, _, rfl, _⟩ := h; rfl) | (obtain ⟨_, _, _, _, _, _, _, rfl, _⟩ := h; rfl) | (obtain ⟨_, _, _, _, _, _, _, _, rfl, _⟩ := h; rfl) | (obtain ⟨_, _, _, _, _, _, _, _, _, rfl, _⟩ := h; rfl) | (obtain ⟨_, _, _, _, _, _, _, _, _, _, rfl, _⟩ := h; rfl) | (obtain ⟨_, _, _, _, _, _, _, _, _, _, _, rfl, _⟩ := h; rfl) | (obtain ⟨_, _, _, _, _, _, _, _, _, _, _, _, rfl, _⟩ := h; rfl) | (obtain ⟨_, _, _, _, _, _, _, _, _, _, _, _, _, rfl, _⟩ := h; rfl)) fun ds QD QE h => w_law_is_number (QE := QE) h
theorem ok_law_is_edit {f : Addr} {fd : FuncData} (F : Fun K "_law_is_edit" "_law_is_edit" s_law_is_edit f fd) (B : ∀ x ∈ bltNames, mg x = none) (U : ∀ c x b, (Γ P w).sub c x = some b → ExNG K mg xa c x b) (V : ∀ c fs, (Γ P w).cls c = some fs → ExK K xa c fs) (g14 : Fg P w K mg base xa 14) (g35 : Fg P w K mg base xa 35) : FnOk P w K mg base (L2.CX P w) (lvT 36) f fd ["_law_value"] (low K xa ((Γ P w).f 36)) :=
  def_ok (C := c_law_is_edit) (Γ := Γ P w) (sp := (Γ P w).f 36) F f_law_is_edit ek0 ⟨List.forall_mem_cons.mpr ⟨g14, List.forall_mem_cons.mpr ⟨g35, nofun⟩⟩, nofun, B, nofun, nofun, nofun, nofun, nofun, U, V, rfl⟩ k_law_is_edit (fun ds Q E h => by first | (obtain ⟨rfl, _⟩ := h; rfl) | (obtain ⟨_, rfl, _⟩ := h; rfl) | (obtain ⟨_, _, rfl, _⟩ := h; rfl) | (obtain ⟨_, _, _, rfl, _⟩ := h; rfl) | (obtain ⟨_, _, _, _, rfl, _⟩ := h; rfl) | (obtain ⟨_, _, _, _, _, rfl, _⟩ := h; rfl) | (obtain ⟨_, _, _, _, _, _, rfl, _⟩ := h; rfl) | (obtain ⟨_, _, _, _, _, _, _, rfl, _⟩ := h; rfl) | (obtain ⟨_, _, _, _, _, _, _, _, rfl, _⟩ := h; rfl) | (obtain ⟨_, _, _, _, _, _, _, _, _, rfl, _⟩ := h; rfl) | (obtain ⟨_, _, _, _, _, _, _, _, _, _, rfl, _⟩ := h; rfl) | (obtain ⟨_, _, _, _, _, _, _, _, _, _, _, rfl, _⟩ := h; rfl) | (obtain ⟨_, _, _, _, _, _, _, _, _, _, _, _, rfl, _⟩ := h; rfl) | (obtain ⟨_, _, _, _, _, _, _, _, _, _, _, _, _, rfl, _⟩ := h; rfl)) fun ds QD QE h => w_law_is_edit rfl rfl (QE := QE) h
theorem ok_law_edits {f : Addr} {fd : FuncData} (F : Fun K "_law_edits" "_law_edits" s_law_edits f fd) (B : ∀ x ∈ bltNames, mg x = none) (U : ∀ c x b, (Γ P w).sub c x = some b → ExNG K mg xa c x b) (V : ∀ c fs, (Γ P w).cls c = some fs → ExK K xa c fs) (g9 : Fg P w K mg base xa 9) (g15 : Fg P w K mg base xa 15) : FnOk P w K mg base (L2.CX P w) (lvT 17) f fd ["_law_state", "_law_size"] (low K xa ((Γ P w).f 17)) :=
  def_ok (C := c_law_edits) (Γ := Γ P w) (sp := (Γ P w).f 17) F f_law_edits ek0 ⟨List.forall_mem_cons.mpr ⟨g9, List.forall_mem_cons.mpr ⟨g15, nofun⟩⟩, nofun, B, nofun, nofun, nofun, nofun, nofun, U, V, rfl⟩ k_law_edits (fun ds Q E h => by first | (obtain ⟨rfl, _⟩ := h; rfl) | (obtain ⟨_, rfl, _⟩ := h; rfl) | (obtain ⟨_, _, rfl, _⟩ := h; rfl) | (obtain ⟨_, _, _, rfl, _⟩ := h; rfl) | (obtain ⟨_, _, _, _, rfl, _⟩ := h; rfl) | (obtain ⟨_, _, _, _, _, rfl, _⟩ := h; rfl) | (obtain ⟨_, _, _, _, _, _, rfl, _⟩ := h; rfl) | (obtain ⟨_, _, _, _, _, _, _, rfl, _⟩ := h; rfl) | (obtain ⟨_, _, _, _, _, _, _, _, rfl, _⟩ := h; rfl) | (obtain ⟨_, _, _, _, _, _, _, _, _, rfl, _⟩ := h; rfl) | (obtain ⟨_, _, _, _, _, _, _, _, _, _, rfl, _⟩ := h; rfl) | (obtain ⟨_, _, _, _, _, _, _, _, _, _, _, rfl, _⟩ := h; rfl) | (obtain ⟨_, _, _, _, _, _, _, _, _, _, _, _, rfl, _⟩ := h; rfl) | (obtain ⟨_, _, _, _, _, _, _, _, _, _, _, _, _, rfl, _⟩ := h; rfl)) fun ds QD QE h => w_law_edits rfl rfl (QE := QE) h
theorem ok_law_done {f : Addr} {fd : FuncData} (F : Fun K "_law_done" "_law_done" s_law_done f fd) (B : ∀ x ∈ bltNames, mg x = none) (U : ∀ c x b, (Γ P w).sub c x = some b → ExNG K mg xa c x b) (V : ∀ c fs, (Γ P w).cls c = some fs → ExK K xa c fs) : FnOk P w K mg base (L2.CX P w) (lvT 18) f fd ["_law_text_here", "_law_edits_here"] (low K xa ((Γ P w).f 18)) :=
  def_ok (C := c_law_done) (Γ := Γ P w) (sp := (Γ P w).f 18) F f_law_done ek0 ⟨nofun, nofun, B, nofun, nofun, nofun, nofun, nofun, U, V, rfl⟩ k_law_done (fun ds Q E h => by first | (obtain ⟨rfl, _⟩ := h; rfl) | (obtain ⟨_, rfl, _⟩ := h; rfl) | (obtain ⟨_, _, rfl, _⟩ := h; rfl) | (obtain ⟨_, _, _, rfl, _⟩ := h; rfl) | (obtain ⟨_, _, _, _, rfl, _⟩ := h; rfl) | (obtain ⟨_, _, _, _, _, rfl, _⟩ := h; rfl) | (obtain ⟨_, _, _, _, _, _, rfl, _⟩ := h; rfl) | (obtain ⟨_, _, _, _, _, _, _, rfl, _⟩ := h; rfl) | (obtain ⟨_, _, _, _, _, _, _, _, rfl, _⟩ := h; rfl) | (obtain ⟨_, _, _, _, _, _, _, _, _, rfl, _⟩ := h; rfl) | (obtain ⟨_, _, _, _, _, _, _, _, _, _, rfl, _⟩ := h; rfl) | (obtain ⟨_, _, _, _, _, _, _, _, _, _, _, rfl, _⟩ := h; rfl) | (obtain ⟨_, _, _, _, _, _, _, _, _, _, _, _, rfl, _⟩ := h; rfl) | (obtain ⟨_, _, _, _, _, _, _, _, _, _, _, _, _, rfl, _⟩ := h; rfl)) fun ds QD QE h => w_law_done (QE := QE) h
theorem ok_law_names {f : Addr} {fd : FuncData} (F : Fun K "_law_names" "_law_names" s_law_names f fd) (B : ∀ x ∈ bltNames, mg x = none) (U : ∀ c x b, (Γ P w).sub c x = some b → ExNG K mg xa c x b) (V : ∀ c fs, (Γ P w).cls c = some fs → ExK K xa c fs) (g9 : Fg P w K mg base xa 9) : FnOk P w K mg base (L2.CX P w) (lvT 19) f fd ["_law_state", "_law_many"] (low K xa ((Γ P w).f 19)) :=
  def_ok (C := c_law_names) (Γ := Γ P w) (sp := (Γ P w).f 19) F f_law_names ek0 ⟨List.forall_mem_cons.mpr ⟨g9, nofun⟩, nofun, B, nofun, nofun, nofun, nofun, nofun, U, V, rfl⟩ k_law_names (fun ds Q E h => by first | (obtain ⟨rfl, _⟩ := h; rfl) | (obtain ⟨_, rfl, _⟩ := h; rfl) | (obtain ⟨_, _, rfl, _⟩ := h; rfl) | (obtain ⟨_, _, _, rfl, _⟩ := h; rfl) | (obtain ⟨_, _, _, _, rfl, _⟩ := h; rfl) | (obtain ⟨_, _, _, _, _, rfl, _⟩ := h; rfl) | (obtain ⟨_, _, _, _, _, _, rfl, _⟩ := h; rfl) | (obtain ⟨_, _, _, _, _, _, _, rfl, _⟩ := h; rfl) | (obtain ⟨_, _, _, _, _, _, _, _, rfl, _⟩ := h; rfl) | (obtain ⟨_, _, _, _, _, _, _, _, _, rfl, _⟩ := h; rfl) | (obtain ⟨_, _, _, _, _, _, _, _, _, _, rfl, _⟩ := h; rfl) | (obtain ⟨_, _, _, _, _, _, _, _, _, _, _, rfl, _⟩ := h; rfl) | (obtain ⟨_, _, _, _, _, _, _, _, _, _, _, _, rfl, _⟩ := h; rfl) | (obtain ⟨_, _, _, _, _, _, _, _, _, _, _, _, _, rfl, _⟩ := h; rfl)) fun ds QD QE h => w_law_names rfl (QE := QE) h
theorem ok_law_is_name {f : Addr} {fd : FuncData} (F : Fun K "_law_is_name" "_law_is_name" s_law_is_name f fd) (B : ∀ x ∈ bltNames, mg x = none) (U : ∀ c x b, (Γ P w).sub c x = some b → ExNG K mg xa c x b) (V : ∀ c fs, (Γ P w).cls c = some fs → ExK K xa c fs) : FnOk P w K mg base (L2.CX P w) (lvT 37) f fd ["_law_value"] (low K xa ((Γ P w).f 37)) :=
  def_ok (C := c_law_is_name) (Γ := Γ P w) (sp := (Γ P w).f 37) F f_law_is_name ek0 ⟨nofun, nofun, B, nofun, nofun, nofun, nofun, nofun, U, V, rfl⟩ k_law_is_name (fun ds Q E h => by first | (obtain ⟨rfl, _⟩ := h; rfl) | (obtain ⟨_, rfl, _⟩ := h; rfl) | (obtain ⟨_, _, rfl, _⟩ := h; rfl) | (obtain ⟨_, _, _, rfl, _⟩ := h; rfl) | (obtain ⟨_, _, _, _, rfl, _⟩ := h; rfl) | (obtain ⟨_, _, _, _, _, rfl, _⟩ := h; rfl) | (obtain ⟨_, _, _, _, _, _, rfl, _⟩ := h; rfl) | (obtain ⟨_, _, _, _, _, _, _, rfl, _⟩ := h; rfl) | (obtain ⟨_, _, _, _, _, _, _, _, rfl, _⟩ := h; rfl) | (obtain ⟨_, _, _, _, _, _, _, _, _, rfl, _⟩ := h; rfl) | (obtain ⟨_, _, _, _, _, _, _, _, _, _, rfl, _⟩ := h; rfl) | (obtain ⟨_, _, _, _, _, _, _, _, _, _, _, rfl, _⟩ := h; rfl) | (obtain ⟨_, _, _, _, _, _, _, _, _, _, _, _, rfl, _⟩ := h; rfl) | (obtain ⟨_, _, _, _, _, _, _, _, _, _, _, _, _, rfl, _⟩ := h; rfl)) fun ds QD QE h => w_law_is_name (QE := QE) h
theorem ok_law_is_paper {f : Addr} {fd : FuncData} (F : Fun K "_law_is_paper" "_law_is_paper" s_law_is_paper f fd) (B : ∀ x ∈ bltNames, mg x = none) (U : ∀ c x b, (Γ P w).sub c x = some b → ExNG K mg xa c x b) (V : ∀ c fs, (Γ P w).cls c = some fs → ExK K xa c fs) (g36 : Fg P w K mg base xa 36) (g37 : Fg P w K mg base xa 37) : FnOk P w K mg base (L2.CX P w) (lvT 38) f fd ["_law_value"] (low K xa ((Γ P w).f 38)) :=
  def_ok (C := c_law_is_paper) (Γ := Γ P w) (sp := (Γ P w).f 38) F f_law_is_paper ek0 ⟨List.forall_mem_cons.mpr ⟨g36, List.forall_mem_cons.mpr ⟨g37, nofun⟩⟩, nofun, B, nofun, nofun, nofun, nofun, nofun, U, V, rfl⟩ k_law_is_paper (fun ds Q E h => by first | (obtain ⟨rfl, _⟩ := h; rfl) | (obtain ⟨_, rfl, _⟩ := h; rfl) | (obtain ⟨_, _, rfl, _⟩ := h; rfl) | (obtain ⟨_, _, _, rfl, _⟩ := h; rfl) | (obtain ⟨_, _, _, _, rfl, _⟩ := h; rfl) | (obtain ⟨_, _, _, _, _, rfl, _⟩ := h; rfl) | (obtain ⟨_, _, _, _, _, _, rfl, _⟩ := h; rfl) | (obtain ⟨_, _, _, _, _, _, _, rfl, _⟩ := h; rfl) | (obtain ⟨_, _, _, _, _, _, _, _, rfl, _⟩ := h; rfl) | (obtain ⟨_, _, _, _, _, _, _, _, _, rfl, _⟩ := h; rfl) | (obtain ⟨_, _, _, _, _, _, _, _, _, _, rfl, _⟩ := h; rfl) | (obtain ⟨_, _, _, _, _, _, _, _, _, _, _, rfl, _⟩ := h; rfl) | (obtain ⟨_, _, _, _, _, _, _, _, _, _, _, _, rfl, _⟩ := h; rfl) | (obtain ⟨_, _, _, _, _, _, _, _, _, _, _, _, _, rfl, _⟩ := h; rfl)) fun ds QD QE h => w_law_is_paper rfl rfl (QE := QE) h
theorem ok_law_odd {f : Addr} {fd : FuncData} (F : Fun K "_law_odd" "_law_odd" s_law_odd f fd) (B : ∀ x ∈ bltNames, mg x = none) (U : ∀ c x b, (Γ P w).sub c x = some b → ExNG K mg xa c x b) (V : ∀ c fs, (Γ P w).cls c = some fs → ExK K xa c fs) (g9 : Fg P w K mg base xa 9) : FnOk P w K mg base (L2.CX P w) (lvT 39) f fd ["_law_state"] (low K xa ((Γ P w).f 39)) :=
  def_ok (C := c_law_odd) (Γ := Γ P w) (sp := (Γ P w).f 39) F f_law_odd ek0 ⟨List.forall_mem_cons.mpr ⟨g9, nofun⟩, nofun, B, nofun, nofun, nofun, nofun, nofun, U, V, rfl⟩ k_law_odd (fun ds Q E h => by first | (obtain ⟨rfl, _⟩ := h; rfl) | (obtain ⟨_, rfl, _⟩ := h; rfl) | (obtain ⟨_, _, rfl, _⟩ := h; rfl) | (obtain ⟨_, _, _, rfl, _⟩ := h; rfl) | (obtain ⟨_, _, _, _, rfl, _⟩ := h; rfl) | (obtain ⟨_, _, _, _, _, rfl, _⟩ := h; rfl) | (obtain ⟨_, _, _, _, _, _, rfl, _⟩ := h; rfl) | (obtain ⟨_, _, _, _, _, _, _, rfl, _⟩ := h; rfl) | (obtain ⟨_, _, _, _, _, _, _, _, rfl, _⟩ := h; rfl) | (obtain ⟨_, _, _, _, _, _, _, _, _, rfl, _⟩ := h; rfl) | (obtain ⟨_, _, _, _, _, _, _, _, _, _, rfl, _⟩ := h; rfl) | (obtain ⟨_, _, _, _, _, _, _, _, _, _, _, rfl, _⟩ := h; rfl) | (obtain ⟨_, _, _, _, _, _, _, _, _, _, _, _, rfl, _⟩ := h; rfl) | (obtain ⟨_, _, _, _, _, _, _, _, _, _, _, _, _, rfl, _⟩ := h; rfl)) fun ds QD QE h => w_law_odd rfl (QE := QE) h
theorem ok_law_spoilt {f : Addr} {fd : FuncData} (F : Fun K "_law_spoilt" "_law_spoilt" s_law_spoilt f fd) (B : ∀ x ∈ bltNames, mg x = none) (U : ∀ c x b, (Γ P w).sub c x = some b → ExNG K mg xa c x b) (V : ∀ c fs, (Γ P w).cls c = some fs → ExK K xa c fs) (g39 : Fg P w K mg base xa 39) (g9 : Fg P w K mg base xa 9) : FnOk P w K mg base (L2.CX P w) (lvT 40) f fd ["_law_state", "_law_row", "_law_at"] (low K xa ((Γ P w).f 40)) :=
  def_ok (C := c_law_spoilt) (Γ := Γ P w) (sp := (Γ P w).f 40) F f_law_spoilt ek0 ⟨List.forall_mem_cons.mpr ⟨g39, List.forall_mem_cons.mpr ⟨g9, nofun⟩⟩, nofun, B, nofun, nofun, nofun, nofun, nofun, U, V, rfl⟩ k_law_spoilt (fun ds Q E h => by first | (obtain ⟨rfl, _⟩ := h; rfl) | (obtain ⟨_, rfl, _⟩ := h; rfl) | (obtain ⟨_, _, rfl, _⟩ := h; rfl) | (obtain ⟨_, _, _, rfl, _⟩ := h; rfl) | (obtain ⟨_, _, _, _, rfl, _⟩ := h; rfl) | (obtain ⟨_, _, _, _, _, rfl, _⟩ := h; rfl) | (obtain ⟨_, _, _, _, _, _, rfl, _⟩ := h; rfl) | (obtain ⟨_, _, _, _, _, _, _, rfl, _⟩ := h; rfl) | (obtain ⟨_, _, _, _, _, _, _, _, rfl, _⟩ := h; rfl) | (obtain ⟨_, _, _, _, _, _, _, _, _, rfl, _⟩ := h; rfl) | (obtain ⟨_, _, _, _, _, _, _, _, _, _, rfl, _⟩ := h; rfl) | (obtain ⟨_, _, _, _, _, _, _, _, _, _, _, rfl, _⟩ := h; rfl) | (obtain ⟨_, _, _, _, _, _, _, _, _, _, _, _, rfl, _⟩ := h; rfl) | (obtain ⟨_, _, _, _, _, _, _, _, _, _, _, _, _, rfl, _⟩ := h; rfl)) fun ds QD QE h => w_law_spoilt rfl rfl (QE := QE) h
theorem ok_law_spoilt_paper {f : Addr} {fd : FuncData} (F : Fun K "_law_spoilt_paper" "_law_spoilt_paper" s_law_spoilt_paper f fd) (B : ∀ x ∈ bltNames, mg x = none) (U : ∀ c x b, (Γ P w).sub c x = some b → ExNG K mg xa c x b) (V : ∀ c fs, (Γ P w).cls c = some fs → ExK K xa c fs) (g39 : Fg P w K mg base xa 39) (g9 : Fg P w K mg base xa 9) (g40 : Fg P w K mg base xa 40) : FnOk P w K mg base (L2.CX P w) (lvT 41) f fd ["_law_state", "_law_paper"] (low K xa ((Γ P w).f 41)) :=
  def_ok (C := c_law_spoilt_paper) (Γ := Γ P w) (sp := (Γ P w).f 41) F f_law_spoilt_paper ek0 ⟨List.forall_mem_cons.mpr ⟨g39, List.forall_mem_cons.mpr ⟨g9, List.forall_mem_cons.mpr ⟨g40, nofun⟩⟩⟩, nofun, B, nofun, nofun, nofun, nofun, nofun, U, V, rfl⟩ k_law_spoilt_paper (fun ds Q E h => by first | (obtain ⟨rfl, _⟩ := h; rfl) | (obtain ⟨_, rfl, _⟩ := h; rfl) | (obtain ⟨_, _, rfl, _⟩ := h; rfl) | (obtain ⟨_, _, _, rfl, _⟩ := h; rfl) | (obtain ⟨_, _, _, _, rfl, _⟩ := h; rfl) | (obtain ⟨_, _, _, _, _, rfl, _⟩ := h; rfl) | (obtain ⟨_, _, _, _, _, _, rfl, _⟩ := h; rfl) | (obtain ⟨_, _, _, _, _, _, _, rfl, _⟩ := h; rfl) | (obtain ⟨_, _, _, _, _, _, _, _, rfl, _⟩ := h; rfl) | (obtain ⟨_, _, _, _, _, _, _, _, _, rfl, _⟩ := h; rfl) | (obtain ⟨_, _, _, _, _, _, _, _, _, _, rfl, _⟩ := h; rfl) | (obtain ⟨_, _, _, _, _, _, _, _, _, _, _, rfl, _⟩ := h; rfl) | (obtain ⟨_, _, _, _, _, _, _, _, _, _, _, _, rfl, _⟩ := h; rfl) | (obtain ⟨_, _, _, _, _, _, _, _, _, _, _, _, _, rfl, _⟩ := h; rfl)) fun ds QD QE h => w_law_spoilt_paper rfl rfl rfl (QE := QE) h
theorem ok_law_told_v2 {f : Addr} {fd : FuncData} (F : Fun K "_law_told" "_law_told" s_law_told f fd) (B : ∀ x ∈ bltNames, mg x = none) (U : ∀ c x b, (Γ P w).sub c x = some b → ExNG K mg xa c x b) (V : ∀ c fs, (Γ P w).cls c = some fs → ExK K xa c fs) (g4 : Fg P w K mg base xa 4) (n0 : ∃ u, mg "InvalidEdit" = some u) : FnOk P w K mg base (L2.CX P w) (lvT 42) f fd ["_law_text_here", "_law_edit"] (low K xa ((Γ P w).f 42)) :=
  def_ok (C := c_law_told_v2) (Γ := Γ P w) (sp := (Γ P w).f 42) F f_law_told ek0 ⟨List.forall_mem_cons.mpr ⟨g4, nofun⟩, nofun, B, nofun, nofun, nofun, nofun, List.forall_mem_cons.mpr ⟨n0, nofun⟩, U, V, rfl⟩ k_law_told_v2 (fun ds Q E h => by first | (obtain ⟨rfl, _⟩ := h; rfl) | (obtain ⟨_, rfl, _⟩ := h; rfl) | (obtain ⟨_, _, rfl, _⟩ := h; rfl) | (obtain ⟨_, _, _, rfl, _⟩ := h; rfl) | (obtain ⟨_, _, _, _, rfl, _⟩ := h; rfl) | (obtain ⟨_, _, _, _, _, rfl, _⟩ := h; rfl) | (obtain ⟨_, _, _, _, _, _, rfl, _⟩ := h; rfl) | (obtain ⟨_, _, _, _, _, _, _, rfl, _⟩ := h; rfl) | (obtain ⟨_, _, _, _, _, _, _, _, rfl, _⟩ := h; rfl) | (obtain ⟨_, _, _, _, _, _, _, _, _, rfl, _⟩ := h; rfl) | (obtain ⟨_, _, _, _, _, _, _, _, _, _, rfl, _⟩ := h; rfl) | (obtain ⟨_, _, _, _, _, _, _, _, _, _, _, rfl, _⟩ := h; rfl) | (obtain ⟨_, _, _, _, _, _, _, _, _, _, _, _, rfl, _⟩ := h; rfl) | (obtain ⟨_, _, _, _, _, _, _, _, _, _, _, _, _, rfl, _⟩ := h; rfl)) fun ds QD QE h => w_law_told25 rfl rfl (by decide +kernel : subF subT 3 "InvalidEdit" = some true) (by decide +kernel : subF subT 3 "KnotError" = some true) (by decide +kernel : subF subT 3 "ValueError" = some true) (QE := QE) h
theorem ok_law_edited {f : Addr} {fd : FuncData} (F : Fun K "_law_edited" "_law_edited" s_law_edited f fd) (B : ∀ x ∈ bltNames, mg x = none) (U : ∀ c x b, (Γ P w).sub c x = some b → ExNG K mg xa c x b) (V : ∀ c fs, (Γ P w).cls c = some fs → ExK K xa c fs) (g34 : Fg P w K mg base xa 34) (g2 : Fg P w K mg base xa 2) (g42 : Fg P w K mg base xa 42) (g18 : Fg P w K mg base xa 18) (g36 : Fg P w K mg base xa 36) (g40 : Fg P w K mg base xa 40) (g15 : Fg P w K mg base xa 15) (g9 : Fg P w K mg base xa 9) : FnOk P w K mg base (L2.CX P w) (lvT 43) f fd ["_law_state", "_law_text_here"] (low K xa ((Γ P w).f 43)) :=
  def_ok (C := c_law_edited) (Γ := Γ P w) (sp := (Γ P w).f 43) F f_law_edited ek0 ⟨List.forall_mem_cons.mpr ⟨g34, List.forall_mem_cons.mpr ⟨g2, List.forall_mem_cons.mpr ⟨g42, List.forall_mem_cons.mpr ⟨g18, List.forall_mem_cons.mpr ⟨g36, List.forall_mem_cons.mpr ⟨g40, List.forall_mem_cons.mpr ⟨g15, List.forall_mem_cons.mpr ⟨g9, nofun⟩⟩⟩⟩⟩⟩⟩⟩, nofun, B, nofun, nofun, nofun, nofun, nofun, U, V, rfl⟩ k_law_edited (fun ds Q E h => by first | (obtain ⟨rfl, _⟩ := h; rfl) | (obtain ⟨_, rfl, _⟩ := h; rfl) | (obtain ⟨_, _, rfl, _⟩ := h; rfl) | (obtain ⟨_, _, _, rfl, _⟩ := h; rfl) | (obtain ⟨_, _, _, _, rfl, _⟩ := h; rfl) | (obtain ⟨_, _, _, _, _, rfl, _⟩ := h; rfl) | (obtain ⟨_, _, _, _, _, _, rfl, _⟩ := h; rfl) | (obtain ⟨_, _, _, _, _, _, _, rfl, _⟩ := h; rfl) | (obtain ⟨_, _, _, _, _, _, _, _, rfl, _⟩ := h; rfl) | (obtain ⟨_, _, _, _, _, _, _, _, _, rfl, _⟩ := h; rfl) | (obtain ⟨_, _, _, _, _, _, _, _, _, _, rfl, _⟩ := h; rfl) | (obtain ⟨_, _, _, _, _, _, _, _, _, _, _, rfl, _⟩ := h; rfl) | (obtain ⟨_, _, _, _, _, _, _, _, _, _, _, _, rfl, _⟩ := h; rfl) | (obtain ⟨_, _, _, _, _, _, _, _, _, _, _, _, _, rfl, _⟩ := h; rfl)) fun ds QD QE h => w_law_edited rfl rfl rfl rfl rfl rfl rfl rfl (QE := QE) h
theorem ok_law_v2 {f : Addr} {fd : FuncData} (F : Fun K "law" "law" s_law f fd) (B : ∀ x ∈ bltNames, mg x = none) (U : ∀ c x b, (Γ P w).sub c x = some b → ExNG K mg xa c x b) (V : ∀ c fs, (Γ P w).cls c = some fs → ExK K xa c fs) (g43 : Fg P w K mg base xa 43) (g16 : Fg P w K mg base xa 16) (g34 : Fg P w K mg base xa 34) (g28 : Fg P w K mg base xa 28) (g9 : Fg P w K mg base xa 9) (g38 : Fg P w K mg base xa 38) (g27 : Fg P w K mg base xa 27) (g41 : Fg P w K mg base xa 41) (g18 : Fg P w K mg base xa 18) (g17 : Fg P w K mg base xa 17) (g19 : Fg P w K mg base xa 19) (g10 : Fg P w K mg base xa 10) (q0 : Fk P w K mg base xa 28 ["texts", "paper"] [0, 1]) : FnOk P w K mg base (L2.CX P w) (lvT 44) f fd ["_law_script"] (low K xa ((Γ P w).f 44)) :=
  def_ok (C := c_law_v2) (Γ := Γ P w) (sp := (Γ P w).f 44) F f_law ek0 ⟨List.forall_mem_cons.mpr ⟨g43, List.forall_mem_cons.mpr ⟨g16, List.forall_mem_cons.mpr ⟨g34, List.forall_mem_cons.mpr ⟨g28, List.forall_mem_cons.mpr ⟨g9, List.forall_mem_cons.mpr ⟨g38, List.forall_mem_cons.mpr ⟨g27, List.forall_mem_cons.mpr ⟨g41, List.forall_mem_cons.mpr ⟨g18, List.forall_mem_cons.mpr ⟨g17, List.forall_mem_cons.mpr ⟨g19, List.forall_mem_cons.mpr ⟨g10, nofun⟩⟩⟩⟩⟩⟩⟩⟩⟩⟩⟩⟩, List.forall_mem_cons.mpr ⟨q0, nofun⟩, B, nofun, nofun, nofun, nofun, nofun, U, V, rfl⟩ k_law_v2 (fun ds Q E h => by first | (obtain ⟨rfl, _⟩ := h; rfl) | (obtain ⟨_, rfl, _⟩ := h; rfl) | (obtain ⟨_, _, rfl, _⟩ := h; rfl) | (obtain ⟨_, _, _, rfl, _⟩ := h; rfl) | (obtain ⟨_, _, _, _, rfl, _⟩ := h; rfl) | (obtain ⟨_, _, _, _, _, rfl, _⟩ := h; rfl) | (obtain ⟨_, _, _, _, _, _, rfl, _⟩ := h; rfl) | (obtain ⟨_, _, _, _, _, _, _, rfl, _⟩ := h; rfl) | (obtain ⟨_, _, _, _, _, _, _, _, rfl, _⟩ := h; rfl) | (obtain ⟨_, _, _, _, _, _, _, _, _, rfl, _⟩ := h; rfl) | (obtain ⟨_, _, _, _, _, _, _, _, _, _, rfl, _⟩ := h; rfl) | (obtain ⟨_, _, _, _, _, _, _, _, _, _, _, rfl, _⟩ := h; rfl) | (obtain ⟨_, _, _, _, _, _, _, _, _, _, _, _, rfl, _⟩ := h; rfl) | (obtain ⟨_, _, _, _, _, _, _, _, _, _, _, _, _, rfl, _⟩ := h; rfl)) fun ds QD QE h => w_law25 rfl rfl rfl rfl rfl rfl rfl rfl rfl rfl rfl rfl (QE := QE) h
end
theorem all_mk {l : PySem.W.OpenLaw} {w : World} {K : PySem.W.Frag} {h : Heap} {mg : Str → Option Value} {fa : Addr} (X : K.In h) (G : h.Ns mainGlobals mg) (hfa : mg "law" = some (.ref fa))
    {f0 f1 f2 f3 f4 f5 f6 f7 f8 f9 f10 f11 f12 f13 f14 f15 f16 f17 f18 f19 f20 f21 f22 f23 f24 f25 f26 f27 f28 : Addr} {od0 an0 od1 an1 od2 an2 od3 an3 od4 an4 od5 an5 od6 an6 od7 an7 od8 an8 od9 an9 od10 an10 od11 an11 od12 an12 od13 an13 od14 an14 od15 an15 od16 an16 od17 an17 od18 an18 od19 an19 od20 an20 od21 an21 od22 an22 od23 an23 od24 an24 od25 an25 od26 an26 od27 an27 od28 an28 : Option Addr} {sl0 sl1 sl2 sl3 sl4 sl5 sl6 sl7 sl8 sl9 sl10 sl11 sl12 sl13 sl14 sl15 sl16 sl17 sl18 sl19 sl20 sl21 sl22 sl23 sl24 sl25 sl26 sl27 sl28 : Array (Option Value)} {oc0 kV0 dc0 pm0 cd0 ct0 oc1 kV1 dc1 pm1 cd1 ct1 oc2 kV2 dc2 pm2 cd2 ct2 oc3 kV3 dc3 pm3 cd3 ct3 oc4 kV4 dc4 pm4 cd4 ct4 oc5 kV5 dc5 pm5 cd5 ct5 oc6 kV6 dc6 pm6 cd6 ct6 oc7 kV7 dc7 pm7 cd7 ct7 oc8 kV8 dc8 pm8 cd8 ct8 oc9 kV9 dc9 pm9 cd9 ct9 oc10 kV10 dc10 pm10 cd10 ct10 oc11 kV11 dc11 pm11 cd11 ct11 oc12 kV12 dc12 pm12 cd12 ct12 oc13 kV13 dc13 pm13 cd13 ct13 oc14 kV14 dc14 pm14 cd14 ct14 oc15 kV15 dc15 pm15 cd15 ct15 oc16 kV16 dc16 pm16 cd16 ct16 oc17 kV17 dc17 pm17 cd17 ct17 oc18 kV18 dc18 pm18 cd18 ct18 oc19 kV19 dc19 pm19 cd19 ct19 oc20 kV20 dc20 pm20 cd20 ct20 oc21 kV21 dc21 pm21 cd21 ct21 oc22 kV22 dc22 pm22 cd22 ct22 oc23 kV23 dc23 pm23 cd23 ct23 oc24 kV24 dc24 pm24 cd24 ct24 oc25 kV25 dc25 pm25 cd25 ct25 oc26 kV26 dc26 pm26 cd26 ct26 oc27 kV27 dc27 pm27 cd27 ct27 oc28 kV28 dc28 pm28 cd28 ct28 : Value}
    {C0 C3 : Addr} {tk0 tk1 tk2 tk3 tk4 : Tok}
    {xn3 xq3 : Str} {xN3 XB3 I3 : Addr} {xb3 xu3 : List Value} {xs3 : List Str} {xv3 : Bool} {xc3 : Option Bool} {xd3 yd3 yan3 : Option Addr} {xk03 xk13 xk23 xk33 xk53 : Option Value} {ysl3 : Array (Option Value)} {yc3 ykV3 ydc3 ypm3 ycd3 yct3 : Value}
    (a0 : PySem.W.nsIn K mainGlobals "is_number" = some (some (.ref f0)))
    (l0 : K.lookup f0 = some ⟨oc0, od0, .func (PySem.W.fnOf "is_number" "is_number" (defArgs s_is_number) (defBody s_is_number) (defScope s_is_number) .none kV0 dc0 pm0 an0 cd0 ct0), sl0⟩)
    (c0 : PySem.W.codeIn K cd0 "is_number" = true)
    (k0 : PySem.W.keepIn K (.ref f0) = true)
    (a1 : PySem.W.nsIn K mainGlobals "is_row_of_signs" = some (some (.ref f1)))
    (l1 : K.lookup f1 = some ⟨oc1, od1, .func (PySem.W.fnOf "is_row_of_signs" "is_row_of_signs" (defArgs s_is_row_of_signs) (defBody s_is_row_of_signs) (defScope s_is_row_of_signs) .none kV1 dc1 pm1 an1 cd1 ct1), sl1⟩)
    (c1 : PySem.W.codeIn K cd1 "is_row_of_signs" = true)
    (k1 : PySem.W.keepIn K (.ref f1) = true)
    (a2 : PySem.W.nsIn K mainGlobals "is_name" = some (some (.ref f2)))
    (l2 : K.lookup f2 = some ⟨oc2, od2, .func (PySem.W.fnOf "is_name" "is_name" (defArgs s_is_name) (defBody s_is_name) (defScope s_is_name) .none kV2 dc2 pm2 an2 cd2 ct2), sl2⟩)
    (c2 : PySem.W.codeIn K cd2 "is_name" = true)
    (k2 : PySem.W.keepIn K (.ref f2) = true)
    (a3 : PySem.W.nsIn K mainGlobals "is_edit" = some (some (.ref f3)))
    (l3 : K.lookup f3 = some ⟨oc3, od3, .func (PySem.W.fnOf "is_edit" "is_edit" (defArgs s_is_edit) (defBody s_is_edit) (defScope s_is_edit) .none kV3 dc3 pm3 an3 cd3 ct3), sl3⟩)
    (c3 : PySem.W.codeIn K cd3 "is_edit" = true)
    (k3 : PySem.W.keepIn K (.ref f3) = true)
    (a4 : PySem.W.nsIn K mainGlobals "need_edit" = some (some (.ref f4)))
    (l4 : K.lookup f4 = some ⟨oc4, od4, .func (PySem.W.fnOf "need_edit" "need_edit" (defArgs s_need_edit) (defBody s_need_edit) (defScope s_need_edit) .none kV4 dc4 pm4 an4 cd4 ct4), sl4⟩)
    (c4 : PySem.W.codeIn K cd4 "need_edit" = true)
    (k4 : PySem.W.keepIn K (.ref f4) = true)
    (a5 : PySem.W.nsIn K mainGlobals "edited" = some (some (.ref f5)))
    (l5 : K.lookup f5 = some ⟨oc5, od5, .func (PySem.W.fnOf "edited" "edited" (defArgs s_edited) (defBody s_edited) (defScope s_edited) .none kV5 dc5 pm5 an5 cd5 ct5), sl5⟩)
    (c5 : PySem.W.codeIn K cd5 "edited" = true)
    (k5 : PySem.W.keepIn K (.ref f5) = true)
    (a6 : PySem.W.nsIn K mainGlobals "are_apart" = some (some (.ref f6)))
    (l6 : K.lookup f6 = some ⟨oc6, od6, .func (PySem.W.fnOf "are_apart" "are_apart" (defArgs s_are_apart) (defBody s_are_apart) (defScope s_are_apart) .none kV6 dc6 pm6 an6 cd6 ct6), sl6⟩)
    (c6 : PySem.W.codeIn K cd6 "are_apart" = true)
    (k6 : PySem.W.keepIn K (.ref f6) = true)
    (a7 : PySem.W.nsIn K mainGlobals "is_paper" = some (some (.ref f7)))
    (l7 : K.lookup f7 = some ⟨oc7, od7, .func (PySem.W.fnOf "is_paper" "is_paper" (defArgs s_is_paper) (defBody s_is_paper) (defScope s_is_paper) .none kV7 dc7 pm7 an7 cd7 ct7), sl7⟩)
    (c7 : PySem.W.codeIn K cd7 "is_paper" = true)
    (k7 : PySem.W.keepIn K (.ref f7) = true)
    (a8 : PySem.W.nsIn K mainGlobals "changed_by" = some (some (.ref f8)))
    (l8 : K.lookup f8 = some ⟨oc8, od8, .func (PySem.W.fnOf "changed_by" "changed_by" (defArgs s_changed_by) (defBody s_changed_by) (defScope s_changed_by) .none kV8 dc8 pm8 an8 cd8 ct8), sl8⟩)
    (c8 : PySem.W.codeIn K cd8 "changed_by" = true)
    (k8 : PySem.W.keepIn K (.ref f8) = true)
    (a9 : PySem.W.nsIn K mainGlobals "_law_mixed" = some (some (.ref f9)))
    (l9 : K.lookup f9 = some ⟨oc9, od9, .func (PySem.W.fnOf "_law_mixed" "_law_mixed" (defArgs s_law_mixed) (defBody s_law_mixed) (defScope s_law_mixed) .none kV9 dc9 pm9 an9 cd9 ct9), sl9⟩)
    (c9 : PySem.W.codeIn K cd9 "_law_mixed" = true)
    (k9 : PySem.W.keepIn K (.ref f9) = true)
    (a10 : PySem.W.nsIn K mainGlobals "_law_draw" = some (some (.ref f10)))
    (l10 : K.lookup f10 = some ⟨oc10, od10, .func (PySem.W.fnOf "_law_draw" "_law_draw" (defArgs s_law_draw) (defBody s_law_draw) (defScope s_law_draw) .none kV10 dc10 pm10 an10 cd10 ct10), sl10⟩)
    (c10 : PySem.W.codeIn K cd10 "_law_draw" = true)
    (k10 : PySem.W.keepIn K (.ref f10) = true)
    (a11 : PySem.W.nsIn K mainGlobals "_law_start" = some (some (.ref f11)))
    (l11 : K.lookup f11 = some ⟨oc11, od11, .func (PySem.W.fnOf "_law_start" "_law_start" (defArgs s_law_start) (defBody s_law_start) (defScope s_law_start) .none kV11 dc11 pm11 an11 cd11 ct11), sl11⟩)
    (c11 : PySem.W.codeIn K cd11 "_law_start" = true)
    (k11 : PySem.W.keepIn K (.ref f11) = true)
    (a12 : PySem.W.nsIn K mainGlobals "_law_same" = some (some (.ref f12)))
    (l12 : K.lookup f12 = some ⟨oc12, od12, .func (PySem.W.fnOf "_law_same" "_law_same" (defArgs s_law_same) (defBody s_law_same) (defScope s_law_same) .none kV12 dc12 pm12 an12 cd12 ct12), sl12⟩)
    (c12 : PySem.W.codeIn K cd12 "_law_same" = true)
    (k12 : PySem.W.keepIn K (.ref f12) = true)
    (a13 : PySem.W.nsIn K mainGlobals "_law_signs" = some (some (.ref f13)))
    (l13 : K.lookup f13 = some ⟨oc13, od13, .func (PySem.W.fnOf "_law_signs" "_law_signs" (defArgs s_law_signs) (defBody s_law_signs) (defScope s_law_signs) .none kV13 dc13 pm13 an13 cd13 ct13), sl13⟩)
    (c13 : PySem.W.codeIn K cd13 "_law_signs" = true)
    (k13 : PySem.W.keepIn K (.ref f13) = true)
    (a14 : PySem.W.nsIn K mainGlobals "_law_string" = some (some (.ref f14)))
    (l14 : K.lookup f14 = some ⟨oc14, od14, .func (PySem.W.fnOf "_law_string" "_law_string" (defArgs s_law_string) (defBody s_law_string) (defScope s_law_string) .none kV14 dc14 pm14 an14 cd14 ct14), sl14⟩)
    (c14 : PySem.W.codeIn K cd14 "_law_string" = true)
    (k14 : PySem.W.keepIn K (.ref f14) = true)
    (a15 : PySem.W.nsIn K mainGlobals "_law_text" = some (some (.ref f15)))
    (l15 : K.lookup f15 = some ⟨oc15, od15, .func (PySem.W.fnOf "_law_text" "_law_text" (defArgs s_law_text) (defBody s_law_text) (defScope s_law_text) .none kV15 dc15 pm15 an15 cd15 ct15), sl15⟩)
    (c15 : PySem.W.codeIn K cd15 "_law_text" = true)
    (k15 : PySem.W.keepIn K (.ref f15) = true)
    (a16 : PySem.W.nsIn K mainGlobals "_law_is_number" = some (some (.ref f16)))
    (l16 : K.lookup f16 = some ⟨oc16, od16, .func (PySem.W.fnOf "_law_is_number" "_law_is_number" (defArgs s_law_is_number) (defBody s_law_is_number) (defScope s_law_is_number) .none kV16 dc16 pm16 an16 cd16 ct16), sl16⟩)
    (c16 : PySem.W.codeIn K cd16 "_law_is_number" = true)
    (k16 : PySem.W.keepIn K (.ref f16) = true)
    (a17 : PySem.W.nsIn K mainGlobals "_law_is_edit" = some (some (.ref f17)))
    (l17 : K.lookup f17 = some ⟨oc17, od17, .func (PySem.W.fnOf "_law_is_edit" "_law_is_edit" (defArgs s_law_is_edit) (defBody s_law_is_edit) (defScope s_law_is_edit) .none kV17 dc17 pm17 an17 cd17 ct17), sl17⟩)
    (c17 : PySem.W.codeIn K cd17 "_law_is_edit" = true)
    (k17 : PySem.W.keepIn K (.ref f17) = true)
    (a18 : PySem.W.nsIn K mainGlobals "_law_edits" = some (some (.ref f18)))
    (l18 : K.lookup f18 = some ⟨oc18, od18, .func (PySem.W.fnOf "_law_edits" "_law_edits" (defArgs s_law_edits) (defBody s_law_edits) (defScope s_law_edits) .none kV18 dc18 pm18 an18 cd18 ct18), sl18⟩)
    (c18 : PySem.W.codeIn K cd18 "_law_edits" = true)
    (k18 : PySem.W.keepIn K (.ref f18) = true)
    (a19 : PySem.W.nsIn K mainGlobals "_law_done" = some (some (.ref f19)))
    (l19 : K.lookup f19 = some ⟨oc19, od19, .func (PySem.W.fnOf "_law_done" "_law_done" (defArgs s_law_done) (defBody s_law_done) (defScope s_law_done) .none kV19 dc19 pm19 an19 cd19 ct19), sl19⟩)
    (c19 : PySem.W.codeIn K cd19 "_law_done" = true)
    (k19 : PySem.W.keepIn K (.ref f19) = true)
    (a20 : PySem.W.nsIn K mainGlobals "_law_names" = some (some (.ref f20)))
    (l20 : K.lookup f20 = some ⟨oc20, od20, .func (PySem.W.fnOf "_law_names" "_law_names" (defArgs s_law_names) (defBody s_law_names) (defScope s_law_names) .none kV20 dc20 pm20 an20 cd20 ct20), sl20⟩)
    (c20 : PySem.W.codeIn K cd20 "_law_names" = true)
    (k20 : PySem.W.keepIn K (.ref f20) = true)
    (a21 : PySem.W.nsIn K mainGlobals "_law_is_name" = some (some (.ref f21)))
    (l21 : K.lookup f21 = some ⟨oc21, od21, .func (PySem.W.fnOf "_law_is_name" "_law_is_name" (defArgs s_law_is_name) (defBody s_law_is_name) (defScope s_law_is_name) .none kV21 dc21 pm21 an21 cd21 ct21), sl21⟩)
    (c21 : PySem.W.codeIn K cd21 "_law_is_name" = true)
    (k21 : PySem.W.keepIn K (.ref f21) = true)
    (a22 : PySem.W.nsIn K mainGlobals "_law_is_paper" = some (some (.ref f22)))
    (l22 : K.lookup f22 = some ⟨oc22, od22, .func (PySem.W.fnOf "_law_is_paper" "_law_is_paper" (defArgs s_law_is_paper) (defBody s_law_is_paper) (defScope s_law_is_paper) .none kV22 dc22 pm22 an22 cd22 ct22), sl22⟩)
    (c22 : PySem.W.codeIn K cd22 "_law_is_paper" = true)
    (k22 : PySem.W.keepIn K (.ref f22) = true)
    (a23 : PySem.W.nsIn K mainGlobals "_law_odd" = some (some (.ref f23)))
    (l23 : K.lookup f23 = some ⟨oc23, od23, .func (PySem.W.fnOf "_law_odd" "_law_odd" (defArgs s_law_odd) (defBody s_law_odd) (defScope s_law_odd) .none kV23 dc23 pm23 an23 cd23 ct23), sl23⟩)
    (c23 : PySem.W.codeIn K cd23 "_law_odd" = true)
    (k23 : PySem.W.keepIn K (.ref f23) = true)
    (a24 : PySem.W.nsIn K mainGlobals "_law_spoilt" = some (some (.ref f24)))
    (l24 : K.lookup f24 = some ⟨oc24, od24, .func (PySem.W.fnOf "_law_spoilt" "_law_spoilt" (defArgs s_law_spoilt) (defBody s_law_spoilt) (defScope s_law_spoilt) .none kV24 dc24 pm24 an24 cd24 ct24), sl24⟩)
    (c24 : PySem.W.codeIn K cd24 "_law_spoilt" = true)
    (k24 : PySem.W.keepIn K (.ref f24) = true)
    (a25 : PySem.W.nsIn K mainGlobals "_law_spoilt_paper" = some (some (.ref f25)))
    (l25 : K.lookup f25 = some ⟨oc25, od25, .func (PySem.W.fnOf "_law_spoilt_paper" "_law_spoilt_paper" (defArgs s_law_spoilt_paper) (defBody s_law_spoilt_paper) (defScope s_law_spoilt_paper) .none kV25 dc25 pm25 an25 cd25 ct25), sl25⟩)
    (c25 : PySem.W.codeIn K cd25 "_law_spoilt_paper" = true)
    (k25 : PySem.W.keepIn K (.ref f25) = true)
    (a26 : PySem.W.nsIn K mainGlobals "_law_told" = some (some (.ref f26)))
    (l26 : K.lookup f26 = some ⟨oc26, od26, .func (PySem.W.fnOf "_law_told" "_law_told" (defArgs s_law_told) (defBody s_law_told) (defScope s_law_told) .none kV26 dc26 pm26 an26 cd26 ct26), sl26⟩)
    (c26 : PySem.W.codeIn K cd26 "_law_told" = true)
    (k26 : PySem.W.keepIn K (.ref f26) = true)
    (a27 : PySem.W.nsIn K mainGlobals "_law_edited" = some (some (.ref f27)))
    (l27 : K.lookup f27 = some ⟨oc27, od27, .func (PySem.W.fnOf "_law_edited" "_law_edited" (defArgs s_law_edited) (defBody s_law_edited) (defScope s_law_edited) .none kV27 dc27 pm27 an27 cd27 ct27), sl27⟩)
    (c27 : PySem.W.codeIn K cd27 "_law_edited" = true)
    (k27 : PySem.W.keepIn K (.ref f27) = true)
    (a28 : PySem.W.nsIn K mainGlobals "law" = some (some (.ref f28)))
    (l28 : K.lookup f28 = some ⟨oc28, od28, .func (PySem.W.fnOf "law" "law" (defArgs s_law) (defBody s_law) (defScope s_law) .none kV28 dc28 pm28 an28 cd28 ct28), sl28⟩)
    (c28 : PySem.W.codeIn K cd28 "law" = true)
    (k28 : PySem.W.keepIn K (.ref f28) = true)
    (ca0 : PySem.W.nsIn K mainGlobals "KnotError" = some (some (.ref C0)))
    (ce0 : PySem.W.subIn K (.ref C0) (.type "BaseException") = some true)
    (ct0x : PySem.W.typeIn K (.ref C0) = some (.type "type"))
    (ch0 : PySem.W.hasDictIn K C0 = true)
    (ca3 : PySem.W.nsIn K mainGlobals "InvalidEdit" = some (some (.ref C3)))
    (ce3 : PySem.W.subIn K (.ref C3) (.type "BaseException") = some true)
    (ct3x : PySem.W.typeIn K (.ref C3) = some (.type "type"))
    (ch3 : PySem.W.hasDictIn K C3 = true)
    (cx3 : K.lookup C3 = some (excClassObj xn3 xq3 C3 xN3 xb3 [.ref XB3, .type "ValueError", .type "Exception", .type "BaseException", .type "object"] true xs3 xu3 xv3 xc3 xd3 xk03 xk13 xk23 xk33 xk53 "ValueError.__new__"))
    (cs3 : PySem.W.findIn K (.ref C3) "__setattr__" = some (some (.builtin "object.__setattr__")))
    (cg3 : PySem.W.findIn K (.ref C3) "__getattribute__" = some (some (.builtin "BaseException.__getattribute__")))
    (cn3 : PySem.W.findIn K (.ref C3) "__getattr__" = some none)
    (cf3_0 : PySem.W.findIn K (.ref C3) "value" = some none)
    (ck3 : PySem.W.keepIn K (.ref C3) = true)
    (cl3 : PySem.W.findIn K (.ref C3) "__class__" = some (some (.builtin "object.__class__")))
    (cm3 : PySem.W.mroIn K C3 (.type "object") = some true)
    (ci3 : PySem.W.findIn K (.ref C3) "__init__" = some (some (.ref I3)))
    (cj3 : PySem.W.typeIn K (.ref I3) = some (.type "function"))
    (cy3 : K.lookup I3 = some ⟨yc3, yd3, .func (PySem.W.fnOf "__init__" "InvalidEdit.__init__" (defArgs x_InvalidEdit) (defBody x_InvalidEdit) (defScope x_InvalidEdit) .none ykV3 ydc3 ypm3 yan3 ycd3 yct3), ysl3⟩)
    (cz3 : PySem.W.codeIn K ycd3 "InvalidEdit.__init__" = true)
    (cw3 : PySem.W.keepIn K (.ref I3) = true)
    (cq3 : PySem.W.subIn K (.ref C3) (.ref C3) = some true)
    (sb0 : PySem.W.subIn K (.ref C3) (.ref C3) = some true)
    (sb1 : PySem.W.subIn K (.ref C3) (.ref C0) = some true)
    (sb2 : PySem.W.subIn K (.ref C3) (.type "ValueError") = some true)
    (ve0 : PySem.W.nsIn K mainGlobals "ValueError" = some none)
    (ve1 : PySem.W.subIn K (.type "ValueError") (.type "BaseException") = some true)
    (oc0 : PySem.W.specialIn K (.builtin "object.__class__") "__get__" = some (some (.builtin "getset_descriptor.__get__")))
    (oc1 : PySem.W.takesIn K (.builtin "object.__class__") = some true)
    (gv0 : PySem.W.nsIn K mainGlobals "PERCENT" = some (some (.int 37 tk0)))
    (gv1 : PySem.W.nsIn K mainGlobals "BLANK" = some (some (.int 32 tk1)))
    (gv2 : PySem.W.nsIn K mainGlobals "TILDE" = some (some (.int 126 tk2)))
    (gv3 : PySem.W.nsIn K mainGlobals "LETTERS" = some (some (.str "abcdefghijklmnopqrstuvwxyz" tk3)))
    (gv4 : PySem.W.nsIn K mainGlobals "MOST_LETTERS" = some (some (.int 8 tk4)))
    (z0 : PySem.W.nsIn K mainGlobals "len" = some none)
    (z1 : PySem.W.nsIn K mainGlobals "int" = some none)
    (z2 : PySem.W.nsIn K mainGlobals "tuple" = some none)
    (z3 : PySem.W.nsIn K mainGlobals "list" = some none)
    (z4 : PySem.W.nsIn K mainGlobals "isinstance" = some none)
    (z5 : PySem.W.nsIn K mainGlobals "any" = some none)
    (z6 : PySem.W.nsIn K mainGlobals "all" = some none)
    (z7 : PySem.W.nsIn K mainGlobals "ord" = some none)
    (z8 : PySem.W.nsIn K mainGlobals "min" = some none)
    (z9 : PySem.W.nsIn K mainGlobals "max" = some none)
    (z10 : PySem.W.nsIn K mainGlobals "abs" = some none)
    (z11 : PySem.W.nsIn K mainGlobals "sum" = some none)
    (z12 : PySem.W.nsIn K mainGlobals "range" = some none)
    (z13 : PySem.W.nsIn K mainGlobals "enumerate" = some none)
    (z14 : PySem.W.nsIn K mainGlobals "zip" = some none)
    (z15 : PySem.W.nsIn K mainGlobals "str" = some none)
    (z16 : PySem.W.nsIn K mainGlobals "bool" = some none)
    (z17 : PySem.W.nsIn K mainGlobals "dict" = some none)
    (z18 : PySem.W.nsIn K mainGlobals "set" = some none)
    (z19 : PySem.W.nsIn K mainGlobals "sorted" = some none)
    (z20 : PySem.W.nsIn K mainGlobals "reversed" = some none)
    (z21 : PySem.W.nsIn K mainGlobals "repr" = some none) :
    ∃ (xa : Nat → Addr) (fd : FuncData), (∀ (s : Shared) (v : Value), BindsTo s fd ⟨[v], []⟩ [("_law_script", v)]) ∧ ∀ base : Heap, K.In base → base.Ns mainGlobals mg → FnOk l.prog w K mg base (L2.CX l.prog w) (lvT 44) fa fd ["_law_script"] (low K xa ((Γ l.prog w).f 44)) := by
  have e := hfa.symm.trans (PySem.W.mg_of X G a28)
  cases e
  have B : ∀ x ∈ bltNames, mg x = none := List.forall_mem_cons.mpr ⟨PySem.W.mg_none_of X G z0, List.forall_mem_cons.mpr ⟨PySem.W.mg_none_of X G z1, List.forall_mem_cons.mpr ⟨PySem.W.mg_none_of X G z2, List.forall_mem_cons.mpr ⟨PySem.W.mg_none_of X G z3, List.forall_mem_cons.mpr ⟨PySem.W.mg_none_of X G z4, List.forall_mem_cons.mpr ⟨PySem.W.mg_none_of X G z5, List.forall_mem_cons.mpr ⟨PySem.W.mg_none_of X G z6, List.forall_mem_cons.mpr ⟨PySem.W.mg_none_of X G z7, List.forall_mem_cons.mpr ⟨PySem.W.mg_none_of X G z8, List.forall_mem_cons.mpr ⟨PySem.W.mg_none_of X G z9, List.forall_mem_cons.mpr ⟨PySem.W.mg_none_of X G z10, List.forall_mem_cons.mpr ⟨PySem.W.mg_none_of X G z11, List.forall_mem_cons.mpr ⟨PySem.W.mg_none_of X G z12, List.forall_mem_cons.mpr ⟨PySem.W.mg_none_of X G z13, List.forall_mem_cons.mpr ⟨PySem.W.mg_none_of X G z14, List.forall_mem_cons.mpr ⟨PySem.W.mg_none_of X G z15, List.forall_mem_cons.mpr ⟨PySem.W.mg_none_of X G z16, List.forall_mem_cons.mpr ⟨PySem.W.mg_none_of X G z17, List.forall_mem_cons.mpr ⟨PySem.W.mg_none_of X G z18, List.forall_mem_cons.mpr ⟨PySem.W.mg_none_of X G z19, List.forall_mem_cons.mpr ⟨PySem.W.mg_none_of X G z20, List.forall_mem_cons.mpr ⟨PySem.W.mg_none_of X G z21, nofun⟩⟩⟩⟩⟩⟩⟩⟩⟩⟩⟩⟩⟩⟩⟩⟩⟩⟩⟩⟩⟩⟩
  have v3 : ExK K (xaF [(0, C0), (3, C3)]) 3 ["value"] := { oex := oex_of cx3 cs3 ce3 ct3x ck3, nf := List.forall_mem_cons.mpr ⟨cf3_0, nofun⟩, xf := { ga := cg3, gg := cn3, exC := ce3, hdC := ch3 }, ha := cl3, hn := oc0, ht := oc1, hm := cm3 }
  have V : ∀ c fs, (Γ l.prog w).cls c = some fs → ExK K (xaF [(0, C0), (3, C3)]) c fs := cls_of (l := clsT) (List.forall_mem_cons.mpr ⟨v3, nofun⟩)
  have U : ∀ c x b, (Γ l.prog w).sub c x = some b → ExNG K mg (xaF [(0, C0), (3, C3)]) c x b := sub_of (l := subT) (List.forall_mem_cons.mpr ⟨exn_ref (PySem.W.mg_of X G ca3) ce3 ch3 ct3x sb0 cq3, List.forall_mem_cons.mpr ⟨exn_ref (PySem.W.mg_of X G ca0) ce0 ch0 ct0x sb1 cq3, List.forall_mem_cons.mpr ⟨exn_VE (PySem.W.mg_none_of X G ve0) ve1 sb2, nofun⟩⟩⟩)
  have F0 := fun_mk (st := s_is_number) l0 c0 k0
  have b0 := F0.binds (ps := ["value"]) fun _ _ _ _ _ _ us hl => match us, hl with | [_], _ => rfl
  have m0 := PySem.W.mg_of X G a0
  have F1 := fun_mk (st := s_is_row_of_signs) l1 c1 k1
  have b1 := F1.binds (ps := ["value"]) fun _ _ _ _ _ _ us hl => match us, hl with | [_], _ => rfl
  have m1 := PySem.W.mg_of X G a1
  have F2 := fun_mk (st := s_is_name) l2 c2 k2
  have b2 := F2.binds (ps := ["value"]) fun _ _ _ _ _ _ us hl => match us, hl with | [_], _ => rfl
  have m2 := PySem.W.mg_of X G a2
  have F3 := fun_mk (st := s_is_edit) l3 c3 k3
  have b3 := F3.binds (ps := ["value"]) fun _ _ _ _ _ _ us hl => match us, hl with | [_], _ => rfl
  have m3 := PySem.W.mg_of X G a3
  have F4 := fun_mk (st := s_need_edit) l4 c4 k4
  have b4 := F4.binds (ps := ["text", "edit"]) fun _ _ _ _ _ _ us hl => match us, hl with | [_, _], _ => rfl
  have m4 := PySem.W.mg_of X G a4
  have F5 := fun_mk (st := s_edited) l5 c5 k5
  have b5 := F5.binds (ps := ["text", "edit"]) fun _ _ _ _ _ _ us hl => match us, hl with | [_, _], _ => rfl
  have m5 := PySem.W.mg_of X G a5
  have F6 := fun_mk (st := s_are_apart) l6 c6 k6
  have b6 := F6.binds (ps := ["one", "following"]) fun _ _ _ _ _ _ us hl => match us, hl with | [_, _], _ => rfl
  have m6 := PySem.W.mg_of X G a6
  have F7 := fun_mk (st := s_is_paper) l7 c7 k7
  have b7 := F7.binds (ps := ["value"]) fun _ _ _ _ _ _ us hl => match us, hl with | [_], _ => rfl
  have m7 := PySem.W.mg_of X G a7
  have F8 := fun_mk (st := s_changed_by) l8 c8 k8
  have b8 := F8.binds (ps := ["texts", "paper"]) fun _ _ _ _ _ _ us hl => match us, hl with | [_, _], _ => rfl
  have m8 := PySem.W.mg_of X G a8
  have F9 := fun_mk (st := s_law_mixed) l9 c9 k9
  have b9 := F9.binds (ps := ["_law_cell", "_law_turn"]) fun _ _ _ _ _ _ us hl => match us, hl with | [_, _], _ => rfl
  have m9 := PySem.W.mg_of X G a9
  have F10 := fun_mk (st := s_law_draw) l10 c10 k10
  have b10 := F10.binds (ps := ["_law_state", "_law_limit"]) fun _ _ _ _ _ _ us hl => match us, hl with | [_, _], _ => rfl
  have m10 := PySem.W.mg_of X G a10
  have F11 := fun_mk (st := s_law_start) l11 c11 k11
  have b11 := F11.binds (ps := ["_law_script"]) fun _ _ _ _ _ _ us hl => match us, hl with | [_], _ => rfl
  have m11 := PySem.W.mg_of X G a11
  have F12 := fun_mk (st := s_law_same) l12 c12 k12
  have b12 := F12.binds (ps := ["_law_actual", "_law_due"]) fun _ _ _ _ _ _ us hl => match us, hl with | [_, _], _ => rfl
  have m12 := PySem.W.mg_of X G a12
  have F13 := fun_mk (st := s_law_signs) l13 c13 k13
  have b13 := F13.binds (ps := []) fun _ _ _ _ _ _ us hl => match us, hl with | [], _ => rfl
  have m13 := PySem.W.mg_of X G a13
  have F14 := fun_mk (st := s_law_string) l14 c14 k14
  have b14 := F14.binds (ps := ["_law_state", "_law_most"]) fun _ _ _ _ _ _ us hl => match us, hl with | [_, _], _ => rfl
  have m14 := PySem.W.mg_of X G a14
  have F15 := fun_mk (st := s_law_text) l15 c15 k15
  have b15 := F15.binds (ps := ["_law_state"]) fun _ _ _ _ _ _ us hl => match us, hl with | [_], _ => rfl
  have m15 := PySem.W.mg_of X G a15
  have F16 := fun_mk (st := s_law_is_number) l16 c16 k16
  have b16 := F16.binds (ps := ["_law_value"]) fun _ _ _ _ _ _ us hl => match us, hl with | [_], _ => rfl
  have m16 := PySem.W.mg_of X G a16
  have F17 := fun_mk (st := s_law_is_edit) l17 c17 k17
  have b17 := F17.binds (ps := ["_law_value"]) fun _ _ _ _ _ _ us hl => match us, hl with | [_], _ => rfl
  have m17 := PySem.W.mg_of X G a17
  have F18 := fun_mk (st := s_law_edits) l18 c18 k18
  have b18 := F18.binds (ps := ["_law_state", "_law_size"]) fun _ _ _ _ _ _ us hl => match us, hl with | [_, _], _ => rfl
  have m18 := PySem.W.mg_of X G a18
  have F19 := fun_mk (st := s_law_done) l19 c19 k19
  have b19 := F19.binds (ps := ["_law_text_here", "_law_edits_here"]) fun _ _ _ _ _ _ us hl => match us, hl with | [_, _], _ => rfl
  have m19 := PySem.W.mg_of X G a19
  have F20 := fun_mk (st := s_law_names) l20 c20 k20
  have b20 := F20.binds (ps := ["_law_state", "_law_many"]) fun _ _ _ _ _ _ us hl => match us, hl with | [_, _], _ => rfl
  have m20 := PySem.W.mg_of X G a20
  have F21 := fun_mk (st := s_law_is_name) l21 c21 k21
  have b21 := F21.binds (ps := ["_law_value"]) fun _ _ _ _ _ _ us hl => match us, hl with | [_], _ => rfl
  have m21 := PySem.W.mg_of X G a21
  have F22 := fun_mk (st := s_law_is_paper) l22 c22 k22
  have b22 := F22.binds (ps := ["_law_value"]) fun _ _ _ _ _ _ us hl => match us, hl with | [_], _ => rfl
  have m22 := PySem.W.mg_of X G a22
  have F23 := fun_mk (st := s_law_odd) l23 c23 k23
  have b23 := F23.binds (ps := ["_law_state"]) fun _ _ _ _ _ _ us hl => match us, hl with | [_], _ => rfl
  have m23 := PySem.W.mg_of X G a23
  have F24 := fun_mk (st := s_law_spoilt) l24 c24 k24
  have b24 := F24.binds (ps := ["_law_state", "_law_row", "_law_at"]) fun _ _ _ _ _ _ us hl => match us, hl with | [_, _, _], _ => rfl
  have m24 := PySem.W.mg_of X G a24
  have F25 := fun_mk (st := s_law_spoilt_paper) l25 c25 k25
  have b25 := F25.binds (ps := ["_law_state", "_law_paper"]) fun _ _ _ _ _ _ us hl => match us, hl with | [_, _], _ => rfl
  have m25 := PySem.W.mg_of X G a25
  have F26 := fun_mk (st := s_law_told) l26 c26 k26
  have b26 := F26.binds (ps := ["_law_text_here", "_law_edit"]) fun _ _ _ _ _ _ us hl => match us, hl with | [_, _], _ => rfl
  have m26 := PySem.W.mg_of X G a26
  have F27 := fun_mk (st := s_law_edited) l27 c27 k27
  have b27 := F27.binds (ps := ["_law_state", "_law_text_here"]) fun _ _ _ _ _ _ us hl => match us, hl with | [_, _], _ => rfl
  have m27 := PySem.W.mg_of X G a27
  have F28 := fun_mk (st := s_law) l28 c28 k28
  have b28 := F28.binds (ps := ["_law_script"]) fun _ _ _ _ _ _ us hl => match us, hl with | [_], _ => rfl
  have m28 := PySem.W.mg_of X G a28
  have Fi3 := fun_mk (st := x_InvalidEdit) cy3 cz3 cw3
  have bi3 := Fi3.binds (ps := ["self", "value"]) fun _ _ _ _ _ _ us hl => match us, hl with | [_, _], _ => rfl
  refine ⟨xaF [(0, C0), (3, C3)], PySem.W.fnOf "law" "law" (defArgs s_law) (defBody s_law) (defScope s_law) .none kV28 dc28 pm28 an28 cd28 ct28, fun s v => .of_eq rfl, fun base _ _ => ?_⟩
  have r3 : ExRG l.prog w K mg base (xaF [(0, C0), (3, C3)]) (Γ l.prog w) 3 "InvalidEdit" := ⟨["value"], I3, _, _, rfl, by decide, PySem.W.mg_of X G ca3, ci3, cj3, bi3, ini_ok Fi3 fx_InvalidEdit rfl kx_InvalidEdit⟩
  have g29 : Fg l.prog w K mg base (xaF [(0, C0), (3, C3)]) 29 := ⟨_, _, _, m12, F12.kp, b12, ok_none29⟩
  have g30 : Fg l.prog w K mg base (xaF [(0, C0), (3, C3)]) 30 := ⟨_, _, _, m12, F12.kp, b12, ok_law_same0_v2 F12 B U V g29⟩
  have g31 : Fg l.prog w K mg base (xaF [(0, C0), (3, C3)]) 31 := ⟨_, _, _, m12, F12.kp, b12, ok_law_same1_v2 F12 B U V g30⟩
  have g32 : Fg l.prog w K mg base (xaF [(0, C0), (3, C3)]) 32 := ⟨_, _, _, m12, F12.kp, b12, ok_law_same2 F12 B U V g31⟩
  have g33 : Fg l.prog w K mg base (xaF [(0, C0), (3, C3)]) 33 := ⟨_, _, _, m12, F12.kp, b12, ok_law_same3 F12 B U V g32⟩
  have g34 : Fg l.prog w K mg base (xaF [(0, C0), (3, C3)]) 34 := ⟨_, _, _, m12, F12.kp, b12, ok_law_same4 F12 B U V g33⟩
  have g1 : Fg l.prog w K mg base (xaF [(0, C0), (3, C3)]) 1 := ⟨_, _, _, m1, F1.kp, b1, ok_is_row_of_signs F1 B U V ⟨_, PySem.W.mg_of X G gv0⟩ ⟨_, PySem.W.mg_of X G gv1⟩ ⟨_, PySem.W.mg_of X G gv2⟩⟩
  have g0 : Fg l.prog w K mg base (xaF [(0, C0), (3, C3)]) 0 := ⟨_, _, _, m0, F0.kp, b0, ok_is_number F0 B U V⟩
  have g2 : Fg l.prog w K mg base (xaF [(0, C0), (3, C3)]) 2 := ⟨_, _, _, m3, F3.kp, b3, ok_is_edit F3 B U V g1 g0⟩
  have g3 : Fg l.prog w K mg base (xaF [(0, C0), (3, C3)]) 3 := ⟨_, _, _, m4, F4.kp, b4, ok_need_edit F4 B U V g2 r3⟩
  have g4 : Fg l.prog w K mg base (xaF [(0, C0), (3, C3)]) 4 := ⟨_, _, _, m5, F5.kp, b5, ok_edited F5 B U V g3⟩
  have g42 : Fg l.prog w K mg base (xaF [(0, C0), (3, C3)]) 42 := ⟨_, _, _, m26, F26.kp, b26, ok_law_told_v2 F26 B U V g4 ⟨_, PySem.W.mg_of X G ca3⟩⟩
  have g18 : Fg l.prog w K mg base (xaF [(0, C0), (3, C3)]) 18 := ⟨_, _, _, m19, F19.kp, b19, ok_law_done F19 B U V⟩
  have g14 : Fg l.prog w K mg base (xaF [(0, C0), (3, C3)]) 14 := ⟨_, _, _, m13, F13.kp, b13, ok_law_signs F13 B U V⟩
  have g35 : Fg l.prog w K mg base (xaF [(0, C0), (3, C3)]) 35 := ⟨_, _, _, m16, F16.kp, b16, ok_law_is_number F16 B U V⟩
  have g36 : Fg l.prog w K mg base (xaF [(0, C0), (3, C3)]) 36 := ⟨_, _, _, m17, F17.kp, b17, ok_law_is_edit F17 B U V g14 g35⟩
  have g8 : Fg l.prog w K mg base (xaF [(0, C0), (3, C3)]) 8 := ⟨_, _, _, m9, F9.kp, b9, ok_law_mixed F9 B U V⟩
  have h9 : Fo l.prog w K mg base 9 := ⟨_, _, _, m10, F10.kp, b10, okO_law_draw F10 B U V g8⟩
  have g9 : Fg l.prog w K mg base (xaF [(0, C0), (3, C3)]) 9 := ⟨_, _, _, m10, F10.kp, b10, ok_law_draw F10 B U V g8⟩
  have g39 : Fg l.prog w K mg base (xaF [(0, C0), (3, C3)]) 39 := ⟨_, _, _, m23, F23.kp, b23, ok_law_odd F23 B U V g9⟩
  have g40 : Fg l.prog w K mg base (xaF [(0, C0), (3, C3)]) 40 := ⟨_, _, _, m24, F24.kp, b24, ok_law_spoilt F24 B U V g39 g9⟩
  have g15 : Fg l.prog w K mg base (xaF [(0, C0), (3, C3)]) 15 := ⟨_, _, _, m14, F14.kp, b14, ok_law_string F14 B U V g9 g14⟩
  have g43 : Fg l.prog w K mg base (xaF [(0, C0), (3, C3)]) 43 := ⟨_, _, _, m27, F27.kp, b27, ok_law_edited F27 B U V g34 g2 g42 g18 g36 g40 g15 g9⟩
  have g16 : Fg l.prog w K mg base (xaF [(0, C0), (3, C3)]) 16 := ⟨_, _, _, m15, F15.kp, b15, ok_law_text F15 B U V g15⟩
  have g28 : Fg l.prog w K mg base (xaF [(0, C0), (3, C3)]) 28 := ⟨_, _, _, m8, F8.kp, b8, ok_changed_by F8 B U V⟩
  have g37 : Fg l.prog w K mg base (xaF [(0, C0), (3, C3)]) 37 := ⟨_, _, _, m21, F21.kp, b21, ok_law_is_name F21 B U V⟩
  have g38 : Fg l.prog w K mg base (xaF [(0, C0), (3, C3)]) 38 := ⟨_, _, _, m22, F22.kp, b22, ok_law_is_paper F22 B U V g36 g37⟩
  have g26 : Fg l.prog w K mg base (xaF [(0, C0), (3, C3)]) 26 := ⟨_, _, _, m6, F6.kp, b6, ok_are_apart F6 B U V⟩
  have g25 : Fg l.prog w K mg base (xaF [(0, C0), (3, C3)]) 25 := ⟨_, _, _, m2, F2.kp, b2, ok_is_name F2 B U V ⟨_, PySem.W.mg_of X G gv3⟩ ⟨_, PySem.W.mg_of X G gv4⟩⟩
  have g27 : Fg l.prog w K mg base (xaF [(0, C0), (3, C3)]) 27 := ⟨_, _, _, m7, F7.kp, b7, ok_is_paper F7 B U V g26 g2 g25⟩
  have g41 : Fg l.prog w K mg base (xaF [(0, C0), (3, C3)]) 41 := ⟨_, _, _, m25, F25.kp, b25, ok_law_spoilt_paper F25 B U V g39 g9 g40⟩
  have g17 : Fg l.prog w K mg base (xaF [(0, C0), (3, C3)]) 17 := ⟨_, _, _, m18, F18.kp, b18, ok_law_edits F18 B U V g9 g15⟩
  have g19 : Fg l.prog w K mg base (xaF [(0, C0), (3, C3)]) 19 := ⟨_, _, _, m20, F20.kp, b20, ok_law_names F20 B U V g9⟩
  have g10 : Fg l.prog w K mg base (xaF [(0, C0), (3, C3)]) 10 := ⟨_, _, _, m11, F11.kp, b11, ok_law_start F11 B U V h9⟩
  exact ok_law_v2 F28 B U V g43 g16 g34 g28 g9 g38 g27 g41 g18 g17 g19 g10 ((⟨_, _, ["texts", "paper"], m8, F8.kp, fun s ws _ hl => match ws, hl with | [_, _], _ => .of_eq rfl, ok_changed_by F8 B U V⟩ : Fk l.prog w K mg base (xaF [(0, C0), (3, C3)]) 28 ["texts", "paper"] [0, 1]))
theorem law_low {K : PySem.W.Frag} {P : Program} {w : World} {H : Hp} {a : Addr} {ns : List Int} {xa : Nat → Addr} (hS : SqL K H a (ns.map V.int)) (hl : ns.length ≤ 63) : low K xa ((Γ P w).f 44) [.ref a] H (fun v _ => v = .bl true) fun _ _ _ => False :=
  ⟨[.lst (ns.map .int)], fun d => d = .bl true, fun _ => False, H, Same.refl _, .cons (.lst hS Reps.of_ints) .nil, ⟨ns, rfl, hl, rfl⟩, fun d v Hf H1 _ _ _ _ r q => by subst q; cases r; rfl, fun _ _ _ _ _ _ _ _ _ _ _ _ _ q => q.elim⟩
theorem walk {l : PySem.W.OpenLaw} {q : Program} {loose : List Str} {XP : (Str → Option Value) → Heap → Prop} {YP : World → Heap → Prop} {d : DefRec} {K : Params → PySem.W.Frag} (hn : l.most = some 63) (hdf : d.params.defaults = [])
    (hY : ∀ (w : World) (h : Heap), YP w h → (K w.params).In h)
    (F : ∀ (w : World) (mg : Str → Option Value) (fa : Addr) (h : Heap), (K w.params).In h → h.Ns mainGlobals mg → mg d.name = some (.ref fa) →
      ∃ (xa : Nat → Addr) (fd : FuncData), (∀ (s : Shared) (u : Value), BindsTo s fd ⟨[u], []⟩ [("_law_script", u)]) ∧ ∀ base : Heap, (K w.params).In base → base.Ns mainGlobals mg → FnOk l.prog w (K w.params) mg base (L2.CX l.prog w) (lvT 44) fa fd ["_law_script"] (low (K w.params) xa ((Γ l.prog w).f 44))) :
    PySem.W.WalkO q loose XP YP l.row.toRowW d [] (fun f vs => PySem.call f vs) :=
  L2.walk_of (n := 63) (k := lvT 44) (x := "_law_script") (CX := fun w => L2.CX l.prog w) (sp := fun w => low (K w.params) (fun _ => 0) ((Γ l.prog w).f 44)) hn (by decide) hdf ⟨rfl, by decide, by decide⟩ hY (fun w mg fa h a b c => by
    obtain ⟨xa, fd, e, f⟩ := F w mg fa h a b c
    exact ⟨fd, e, fun base x y => fn_any (fun ds Q E E' h => h) (f base x y)⟩) (fun w H a ns hl _ hS => law_low hS hl) fun w H s e s' ⟨_, _, _, _, _, _, _, _, _, _, _, _, z⟩ => z
end DL.K25
open PySem PySem.W PyProof.Rows
set_option maxRecDepth 100000 in
set_option maxHeartbeats 0 in
theorem PySem.Challenge.cw_proseknot_k25_edits_and_papers_holds : PySem.Challenge.rw_proseknot_k25_edits_and_papers.Holds := by
  w_on; o_law; k_head; (case hw => w_witness2)
  k_fill
  refine DL.K25.walk (l := PySem.Challenge.rw_proseknot_k25_edits_and_papers) rfl rfl (fun w h Y => PySem.W.kIn_of Y) ?F
  case F =>
    intro w mg fa h KX G hmg
    refine' DL.K25.all_mk KX G hmg ?a0 ?l0 ?c0 ?k0 ?a1 ?l1 ?c1 ?k1 ?a2 ?l2 ?c2 ?k2 ?a3 ?l3 ?c3 ?k3 ?a4 ?l4 ?c4 ?k4 ?a5 ?l5 ?c5 ?k5 ?a6 ?l6 ?c6 ?k6 ?a7 ?l7 ?c7 ?k7 ?a8 ?l8 ?c8 ?k8 ?a9 ?l9 ?c9 ?k9 ?a10 ?l10 ?c10 ?k10 ?a11 ?l11 ?c11 ?k11 ?a12 ?l12 ?c12 ?k12 ?a13 ?l13 ?c13 ?k13 ?a14 ?l14 ?c14 ?k14 ?a15 ?l15 ?c15 ?k15 ?a16 ?l16 ?c16 ?k16 ?a17 ?l17 ?c17 ?k17 ?a18 ?l18 ?c18 ?k18 ?a19 ?l19 ?c19 ?k19 ?a20 ?l20 ?c20 ?k20 ?a21 ?l21 ?c21 ?k21 ?a22 ?l22 ?c22 ?k22 ?a23 ?l23 ?c23 ?k23 ?a24 ?l24 ?c24 ?k24 ?a25 ?l25 ?c25 ?k25 ?a26 ?l26 ?c26 ?k26 ?a27 ?l27 ?c27 ?k27 ?a28 ?l28 ?c28 ?k28 ?ca0 ?ce0 ?ct0x ?ch0 ?ca3 ?ce3 ?ct3x ?ch3 ?cx3 ?cs3 ?cg3 ?cn3 ?cf3_0 ?ck3 ?cl3 ?cm3 ?ci3 ?cj3 ?cy3 ?cz3 ?cw3 ?cq3 ?sb0 ?sb1 ?sb2 ?ve0 ?ve1 ?oc0 ?oc1 ?gv0 ?gv1 ?gv2 ?gv3 ?gv4 ?z0 ?z1 ?z2 ?z3 ?z4 ?z5 ?z6 ?z7 ?z8 ?z9 ?z10 ?z11 ?z12 ?z13 ?z14 ?z15 ?z16 ?z17 ?z18 ?z19 ?z20 ?z21
    (case a0 => k_is)
    (case l0 => k_is)
    (case c0 => k_is)
    (case k0 => k_is)
    (case a1 => k_is)
    (case l1 => k_is)
    (case c1 => k_is)
    (case k1 => k_is)
    (case a2 => k_is)
    (case l2 => k_is)
    (case c2 => k_is)
    (case k2 => k_is)
    (case a3 => k_is)
    (case l3 => k_is)
    (case c3 => k_is)
    (case k3 => k_is)
    (case a4 => k_is)
    (case l4 => k_is)
    (case c4 => k_is)
    (case k4 => k_is)
    (case a5 => k_is)
    (case l5 => k_is)
    (case c5 => k_is)
    (case k5 => k_is)
    (case a6 => k_is)
    (case l6 => k_is)
    (case c6 => k_is)
    (case k6 => k_is)
    (case a7 => k_is)
    (case l7 => k_is)
    (case c7 => k_is)
    (case k7 => k_is)
    (case a8 => k_is)
    (case l8 => k_is)
    (case c8 => k_is)
    (case k8 => k_is)
    (case a9 => k_is)
    (case l9 => k_is)
    (case c9 => k_is)
    (case k9 => k_is)
    (case a10 => k_is)
    (case l10 => k_is)
    (case c10 => k_is)
    (case k10 => k_is)
    (case a11 => k_is)
    (case l11 => k_is)
    (case c11 => k_is)
    (case k11 => k_is)
    (case a12 => k_is)
    (case l12 => k_is)
    (case c12 => k_is)
    (case k12 => k_is)
    (case a13 => k_is)
    (case l13 => k_is)
    (case c13 => k_is)
    (case k13 => k_is)
    (case a14 => k_is)
    (case l14 => k_is)
    (case c14 => k_is)
    (case k14 => k_is)
    (case a15 => k_is)
    (case l15 => k_is)
    (case c15 => k_is)
    (case k15 => k_is)
    (case a16 => k_is)
    (case l16 => k_is)
    (case c16 => k_is)
    (case k16 => k_is)
    (case a17 => k_is)
    (case l17 => k_is)
    (case c17 => k_is)
    (case k17 => k_is)
    (case a18 => k_is)
    (case l18 => k_is)
    (case c18 => k_is)
    (case k18 => k_is)
    (case a19 => k_is)
    (case l19 => k_is)
    (case c19 => k_is)
    (case k19 => k_is)
    (case a20 => k_is)
    (case l20 => k_is)
    (case c20 => k_is)
    (case k20 => k_is)
    (case a21 => k_is)
    (case l21 => k_is)
    (case c21 => k_is)
    (case k21 => k_is)
    (case a22 => k_is)
    (case l22 => k_is)
    (case c22 => k_is)
    (case k22 => k_is)
    (case a23 => k_is)
    (case l23 => k_is)
    (case c23 => k_is)
    (case k23 => k_is)
    (case a24 => k_is)
    (case l24 => k_is)
    (case c24 => k_is)
    (case k24 => k_is)
    (case a25 => k_is)
    (case l25 => k_is)
    (case c25 => k_is)
    (case k25 => k_is)
    (case a26 => k_is)
    (case l26 => k_is)
    (case c26 => k_is)
    (case k26 => k_is)
    (case a27 => k_is)
    (case l27 => k_is)
    (case c27 => k_is)
    (case k27 => k_is)
    (case a28 => k_is)
    (case l28 => k_is)
    (case c28 => k_is)
    (case k28 => k_is)
    (case ca0 => k_is)
    (case ce0 => k_is)
    (case ct0x => k_is)
    (case ch0 => k_is)
    (case ca3 => k_is)
    (case ce3 => k_is)
    (case ct3x => k_is)
    (case ch3 => k_is)
    (case cx3 => k_is)
    (case cs3 => k_is)
    (case cg3 => k_is)
    (case cn3 => k_is)
    (case cf3_0 => k_is)
    (case ck3 => k_is)
    (case cl3 => k_is)
    (case cm3 => k_is)
    (case ci3 => k_is)
    (case cj3 => k_is)
    (case cy3 => k_is)
    (case cz3 => k_is)
    (case cw3 => k_is)
    (case cq3 => k_is)
    (case sb0 => k_is)
    (case sb1 => k_is)
    (case sb2 => k_is)
    (case ve0 => k_is)
    (case ve1 => k_is)
    (case oc0 => k_is)
    (case oc1 => k_is)
    (case gv0 => k_is)
    (case gv1 => k_is)
    (case gv2 => k_is)
    (case gv3 => k_is)
    (case gv4 => k_is)
    (case z0 => k_is)
    (case z1 => k_is)
    (case z2 => k_is)
    (case z3 => k_is)
    (case z4 => k_is)
    (case z5 => k_is)
    (case z6 => k_is)
    (case z7 => k_is)
    (case z8 => k_is)
    (case z9 => k_is)
    (case z10 => k_is)
    (case z11 => k_is)
    (case z12 => k_is)
    (case z13 => k_is)
    (case z14 => k_is)
    (case z15 => k_is)
    (case z16 => k_is)
    (case z17 => k_is)
    (case z18 => k_is)
    (case z19 => k_is)
    (case z20 => k_is)
    (case z21 => k_is)
