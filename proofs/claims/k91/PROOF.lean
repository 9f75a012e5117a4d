import PyProof.Rows.All
import Wide.All
import OpenK.AllK
import Wide.FinOn
import HandS.ForMost
import HandS.ForExc
import HandS.TupAny
import HandS.TupMul
import HandS.Deep
import KE.DataCmp
import KE.SortData
import HandS.IsInst
import HandS.TupLen
import HandS.Conv
import HandS.Style
import HandS.Zip
import KE.GoesEnum
import HandS.Small
import HandS.EndBits
import HandS.TupSets
import HandS.SetFor
import PySem.Challenge.RW_pealworks_k91_any_value_as_a_mark
set_option Elab.async false
set_option linter.all false
set_option maxRecDepth 100000
set_option maxHeartbeats 2000000
/-! Pw: data by value over the layer's abstract heap; slots that hold data, or lists and dicts of their own. -/
namespace Pw
open PySem PySem.Spec PyProof.Rows L2

abbrev D := PyData
/-- keys as data -/
def kD : Key → D
  | .inl i => .int i
  | .inr x => .str x

mutual
/-- v stands for the data d, in the abstract heap H: lists within are frozen, tuples are tracked -/
inductive RD (H : Hp) : V → D → Prop
  | non : RD H .non .none
  | bl (b : Bool) : RD H (.bl b) (.bool b)
  | int (i : Int) : RD H (.int i) (.int i)
  | str (x : Str) : RD H (.str x) (.str x)
  | lst {a : Addr} {o : Obj} {vs : List V} {ds : List D} : H a = some (.frz o (.lst vs)) → RDs H vs ds → RD H (.ref a) (.list ds)
  | tup {a : Addr} {vs : List V} {ds : List D} : H a = some (.tup vs) → RDs H vs ds → RD H (.ref a) (.tuple ds)
  | dK {a : Addr} {o : Obj} {kvs : List (Key × V)} {ds : List (D × D)} : H a = some (.frz o (.dK kvs)) → RDk H kvs ds → RD H (.ref a) (.dict ds)
  | dT {a : Addr} {o : Obj} {kvs : List (List Key × V)} {ds : List (D × D)} : H a = some (.frz o (.dT kvs)) → RDt H kvs ds → RD H (.ref a) (.dict ds)
inductive RDs (H : Hp) : List V → List D → Prop
  | nil : RDs H [] []
  | cons {v : V} {vs : List V} {d : D} {ds : List D} : RD H v d → RDs H vs ds → RDs H (v :: vs) (d :: ds)
inductive RDk (H : Hp) : List (Key × V) → List (D × D) → Prop
  | nil : RDk H [] []
  | cons {k : Key} {v : V} {vs : List (Key × V)} {d : D} {ds : List (D × D)} : RD H v d → RDk H vs ds → RDk H ((k, v) :: vs) ((kD k, d) :: ds)
inductive RDt (H : Hp) : List (List Key × V) → List (D × D) → Prop
  | nil : RDt H [] []
  | cons {k : List Key} {v : V} {vs : List (List Key × V)} {d : D} {ds : List (D × D)} : RD H v d → RDt H vs ds → RDt H ((k, v) :: vs) ((.tuple (k.map kD), d) :: ds)
end

/-- what RD leans on is kept -/
def Kp (H H' : Hp) : Prop := (∀ a vs, H a = some (.tup vs) → H' a = some (.tup vs)) ∧ (∀ a o u, H a = some (.frz o u) → H' a = some (.frz o u))
theorem Kp.refl (H : Hp) : Kp H H := ⟨fun _ _ h => h, fun _ _ _ h => h⟩
theorem Kp.trans {H H1 H2 : Hp} (a : Kp H H1) (b : Kp H1 H2) : Kp H H2 := ⟨fun x vs h => b.1 x vs (a.1 x vs h), fun x o u h => b.2 x o u (a.2 x o u h)⟩
theorem Kp.of_same {H H' : Hp} (s : Same H H') : Kp H H' := ⟨fun a vs h => s a _ h, fun a o u h => s a _ h⟩
/-- an own list, a dict: it may be written -/
def Wr : HO → Prop
  | .lst _ => True
  | .dK _ => True
  | .dT _ => True
  | _ => False
theorem Kp.write {H : Hp} {a : Addr} {o u : HO} (h : H a = some o) (w : Wr o) : Kp H (upd H a u) := by
  refine ⟨fun b vs e => ?_, fun b p q e => ?_⟩
  · by_cases hb : b = a
    · subst hb; rw [h] at e; cases e; exact w.elim
    · rw [upd_ne hb]; exact e
  · by_cases hb : b = a
    · subst hb; rw [h] at e; cases e; exact w.elim
    · rw [upd_ne hb]; exact e
theorem Kp.new {H : Hp} {a : Addr} {u : HO} (h : H a = none) : Kp H (upd H a u) :=
  Kp.of_same fun b o e => by rw [upd_ne (ne_of_none e h)]; exact e

mutual
theorem RD.kp {H H' : Hp} (k : Kp H H') : ∀ {v : V} {d : D}, RD H v d → RD H' v d
  | _, _, .non => .non
  | _, _, .bl b => .bl b
  | _, _, .int i => .int i
  | _, _, .str x => .str x
  | _, _, .lst h r => .lst (k.2 _ _ _ h) (RDs.kp k r)
  | _, _, .tup h r => .tup (k.1 _ _ h) (RDs.kp k r)
  | _, _, .dK h r => .dK (k.2 _ _ _ h) (RDk.kp k r)
  | _, _, .dT h r => .dT (k.2 _ _ _ h) (RDt.kp k r)
theorem RDs.kp {H H' : Hp} (k : Kp H H') : ∀ {vs : List V} {ds : List D}, RDs H vs ds → RDs H' vs ds
  | _, _, .nil => .nil
  | _, _, .cons r t => .cons (RD.kp k r) (RDs.kp k t)
theorem RDk.kp {H H' : Hp} (k : Kp H H') : ∀ {vs : List (Key × V)} {ds : List (D × D)}, RDk H vs ds → RDk H' vs ds
  | _, _, .nil => .nil
  | _, _, .cons r t => .cons (RD.kp k r) (RDk.kp k t)
theorem RDt.kp {H H' : Hp} (k : Kp H H') : ∀ {vs : List (List Key × V)} {ds : List (D × D)}, RDt H vs ds → RDt H' vs ds
  | _, _, .nil => .nil
  | _, _, .cons r t => .cons (RD.kp k r) (RDt.kp k t)
end

section
variable {H : Hp}
theorem RDs.length : ∀ {vs : List V} {ds : List D}, RDs H vs ds → vs.length = ds.length
  | _, _, .nil => rfl
  | _, _, .cons _ t => by rw [List.length_cons, List.length_cons, RDs.length t]
theorem RDs.append : ∀ {vs ws : List V} {ds es : List D}, RDs H vs ds → RDs H ws es → RDs H (vs ++ ws) (ds ++ es)
  | _, _, _, _, .nil, s => s
  | _, _, _, _, .cons r t, s => .cons r (RDs.append t s)
theorem RDs.get : ∀ {vs : List V} {ds : List D} {i : Nat} {d : D}, RDs H vs ds → ds[i]? = some d → ∃ v, vs[i]? = some v ∧ RD H v d
  | _, _, _, _, .nil, e => by simp at e
  | _, _, 0, _, .cons r _, e => by simp at e; subst e; exact ⟨_, rfl, r⟩
  | _, _, i + 1, _, .cons _ t, e => by
    obtain ⟨v, h1, h2⟩ := RDs.get (i := i) t (by simpa using e)
    exact ⟨v, by simpa using h1, h2⟩
theorem RDs.set {v : V} {d : D} (r : RD H v d) : ∀ {vs : List V} {ds : List D} (i : Nat), RDs H vs ds → RDs H (vs.set i v) (ds.set i d)
  | _, _, _, .nil => .nil
  | _, _, 0, .cons _ t => .cons r t
  | _, _, i + 1, .cons q t => .cons q (RDs.set r i t)
theorem RDs.take : ∀ {vs : List V} {ds : List D} (n : Nat), RDs H vs ds → RDs H (vs.take n) (ds.take n)
  | _, _, 0, _ => .nil
  | _, _, _ + 1, .nil => .nil
  | _, _, n + 1, .cons r t => .cons r (RDs.take n t)
theorem RDs.drop : ∀ {vs : List V} {ds : List D} (n : Nat), RDs H vs ds → RDs H (vs.drop n) (ds.drop n)
  | _, _, 0, r => r
  | _, _, _ + 1, .nil => .nil
  | _, _, n + 1, .cons _ t => RDs.drop n t
theorem RDs.eraseIdx : ∀ {vs : List V} {ds : List D} (n : Nat), RDs H vs ds → RDs H (vs.eraseIdx n) (ds.eraseIdx n)
  | _, _, _, .nil => .nil
  | _, _, 0, .cons _ t => t
  | _, _, n + 1, .cons r t => .cons r (RDs.eraseIdx n t)
theorem RDs.rev : ∀ {vs : List V} {ds : List D}, RDs H vs ds → RDs H vs.reverse ds.reverse
  | _, _, .nil => .nil
  | _, _, .cons r t => by
    rw [List.reverse_cons, List.reverse_cons]
    exact (RDs.rev t).append (.cons r .nil)
theorem RDs.rep {vs : List V} {ds : List D} (r : RDs H vs ds) : ∀ n : Nat, RDs H (List.replicate n vs).flatten (List.replicate n ds).flatten
  | 0 => .nil
  | n + 1 => by
    rw [List.replicate_succ, List.replicate_succ, List.flatten_cons, List.flatten_cons]
    exact r.append (RDs.rep r n)
theorem RDs.ints : ∀ {vs : List V} {ns : List Int}, RDs H vs (ns.map PyData.int) → vs = ns.map V.int
  | _, [], .nil => rfl
  | _, n :: ns, .cons r t => by
    cases r
    rw [List.map_cons, RDs.ints t]
theorem RDs.of_ints : ∀ ns : List Int, RDs H (ns.map V.int) (ns.map PyData.int)
  | [] => .nil
  | n :: ns => .cons (.int n) (RDs.of_ints ns)
theorem RDs.bls : ∀ {vs : List V} {bs : List Bool}, RDs H vs (bs.map PyData.bool) → vs = bs.map V.bl
  | _, [], .nil => rfl
  | _, n :: ns, .cons r t => by
    cases r
    rw [List.map_cons, RDs.bls t]
end

/-! ### what a slot, an expression holds -/
/-- data; an own list; a parameter's list that may change; an own dict (int and text keys; tuples of such); the own thing of a slot, for a look; a list that is read alone (the script) -/
inductive R where
  | d (x : D)
  | ol (xs : List D)
  | pl (xs : List D)
  | oK (kvs : List (Key × D))
  | oT (kvs : List (List Key × D))
  | vr (i : Nat)
  | kl (xs : List D)
def R.own : R → Bool
  | .ol _ => true
  | .pl _ => true
  | .oK _ => true
  | .oT _ => true
  | _ => false
abbrev En := List (Option R)

def RDK (H : Hp) : List (Key × V) → List (Key × D) → Prop := Paired fun p q => p.1 = q.1 ∧ RD H p.2 q.2
def RDT (H : Hp) : List (List Key × V) → List (List Key × D) → Prop := Paired fun p q => p.1 = q.1 ∧ RD H p.2 q.2
theorem RDK.kp {H H' : Hp} (k : Kp H H') {l : List (Key × V)} {m : List (Key × D)} (r : RDK H l m) : RDK H' l m := L2.Paired.mapP r fun _ _ z => ⟨z.1, z.2.kp k⟩
theorem RDT.kp {H H' : Hp} (k : Kp H H') {l : List (List Key × V)} {m : List (List Key × D)} (r : RDT H l m) : RDT H' l m := L2.Paired.mapP r fun _ _ z => ⟨z.1, z.2.kp k⟩

/-- a list that is read alone: frozen, or of the written part -/
def KL (K : PySem.W.Frag) (H : Hp) (a : Addr) (vs : List V) : Prop :=
  (∃ o, H a = some (.frz o (.lst vs))) ∨
    ∃ (o : Obj) (its : Array Value) (n : Nat), K.lookup a = some o ∧ o.cls = .type "list" ∧ o.dict = none ∧ o.data = .seq its n ∧ its.size ≤ sizeLine ∧ Vals vs its.toList
theorem KL.kp {K : PySem.W.Frag} {H H' : Hp} (k : Kp H H') {a : Addr} {vs : List V} (h : KL K H a vs) : KL K H' a vs := by
  rcases h with ⟨o, h⟩ | h
  · exact .inl ⟨o, k.2 _ _ _ h⟩
  · exact .inr h
theorem KL.sq {K : PySem.W.Frag} {H : Hp} {a : Addr} {vs : List V} (h : KL K H a vs) : SqL K H a vs := by
  rcases h with ⟨o, h⟩ | h
  · exact .inl (.inr ⟨o, h⟩)
  · exact .inr h
def RR (K : PySem.W.Frag) (H : Hp) (v : V) : R → Prop
  | .d x => RD H v x
  | .ol ds => ∃ a vs, v = .ref a ∧ H a = some (.lst vs) ∧ RDs H vs ds
  | .pl ds => ∃ a vs, v = .ref a ∧ H a = some (.lst vs) ∧ RDs H vs ds
  | .oK kvs => ∃ a ws, v = .ref a ∧ H a = some (.dK ws) ∧ RDK H ws kvs
  | .oT kvs => ∃ a ws, v = .ref a ∧ H a = some (.dT ws) ∧ RDT H ws kvs
  | .vr _ => False
  | .kl ds => ∃ a vs, v = .ref a ∧ KL K H a vs ∧ RDs H vs ds
/-- of a thing that waits beside the slots -/
def RP (K : PySem.W.Frag) (env : En) (σ : L2.St) (H : Hp) (v : V) : R → Prop
  | .vr i => σ[i]? = some (some v) ∧ ∃ r, env[i]? = some (some r)
  | r => RR K H v r
section
variable {K : PySem.W.Frag} {H H' : Hp} {v : V} {r : R}
theorem RP.of {env : En} {σ : L2.St} (h : RR K H v r) : RP K env σ H v r := by
  cases r <;> first | exact h | exact False.elim h
theorem RP.rr {env : En} {σ : L2.St} (h : RP K env σ H v r) (n : ∀ i, r ≠ .vr i) : RR K H v r := by
  cases r <;> first | exact h | exact absurd rfl (n _)
/-- an own thing's address -/
theorem RR.ownAt (h : RR K H v r) (o : r.own = true) : ∃ a u, v = .ref a ∧ H a = some u ∧ Wr u := by
  cases r with
  | ol ds => obtain ⟨a, vs, e, e2, _⟩ := h; exact ⟨a, _, e, e2, trivial⟩
  | pl ds => obtain ⟨a, vs, e, e2, _⟩ := h; exact ⟨a, _, e, e2, trivial⟩
  | oK kvs => obtain ⟨a, vs, e, e2, _⟩ := h; exact ⟨a, _, e, e2, trivial⟩
  | oT kvs => obtain ⟨a, vs, e, e2, _⟩ := h; exact ⟨a, _, e, e2, trivial⟩
  | d x => exact absurd o Bool.false_ne_true
  | vr i => exact absurd o Bool.false_ne_true
  | kl x => exact absurd o Bool.false_ne_true
/-- kept, where an own thing's own object is -/
theorem RR.keep (h : RR K H v r) (k : Kp H H') (own : r.own = true → ∀ a u, v = .ref a → H a = some u → H' a = some u) : RR K H' v r := by
  cases r with
  | d x => exact RD.kp k h
  | ol ds => obtain ⟨a, vs, e, e2, r⟩ := h; exact ⟨a, vs, e, own rfl a _ e e2, r.kp k⟩
  | pl ds => obtain ⟨a, vs, e, e2, r⟩ := h; exact ⟨a, vs, e, own rfl a _ e e2, r.kp k⟩
  | oK kvs => obtain ⟨a, vs, e, e2, r⟩ := h; exact ⟨a, vs, e, own rfl a _ e e2, r.kp k⟩
  | oT kvs => obtain ⟨a, vs, e, e2, r⟩ := h; exact ⟨a, vs, e, own rfl a _ e e2, r.kp k⟩
  | vr i => exact False.elim h
  | kl ds => obtain ⟨a, vs, e, e2, r⟩ := h; exact ⟨a, vs, e, e2.kp k, r.kp k⟩
end

abbrev Pe := List (V × R)
/-- the slots as env tells them: H0 the heap at the def's entry, P its own parameters' addresses, L what waits -/
structure Rel (K : PySem.W.Frag) (OW : Nat → Bool) (H0 : Hp) (P : List (Option Addr)) (env : En) (σ : L2.St) (H : Hp) (L : Pe) : Prop where
  len : env.length = σ.length
  slot : ∀ (i : Nat) (r : R), env[i]? = some (some r) → ∃ v, σ[i]? = some (some v) ∧ RR K H v r
  pend : ∀ p ∈ L, RP K env σ H p.1 p.2
  sepS : ∀ (i j : Nat) (r r' : R) (v : V), env[i]? = some (some r) → env[j]? = some (some r') → r.own = true → r'.own = true → σ[i]? = some (some v) → σ[j]? = some (some v) → i = j
  sepP : ∀ (i : Nat) (r : R) (v : V) (p : V × R), env[i]? = some (some r) → r.own = true → σ[i]? = some (some v) → p ∈ L → p.2.own = true → p.1 ≠ v
  sepL : L.Pairwise fun p q => p.2.own = true → q.2.own = true → p.1 ≠ q.1
  keep : ∀ a o, H0 a = some o → some a ∉ P → H a = some o
  newS : ∀ (i : Nat) (r : R) (a : Addr), env[i]? = some (some r) → r.own = true → σ[i]? = some (some (.ref a)) → (H0 a = none ∧ some a ∉ P) ∨ P[i]? = some (some a)
  newL : ∀ p ∈ L, p.2.own = true → ∀ a, p.1 = .ref a → H0 a = none ∧ some a ∉ P
  par : ∀ (i : Nat) (a : Addr), P[i]? = some (some a) → σ[i]? = some (some (.ref a)) ∧ ∃ ds, env[i]? = some (some (.pl ds))
  ow : ∀ (i : Nat) (r : R), env[i]? = some (some r) → r.own = true → OW i = true
  vo : ∀ p ∈ L, ∀ i, p.2 = .vr i → OW i = true

section
variable {K : PySem.W.Frag} {OW : Nat → Bool} {H0 H H' : Hp} {P : List (Option Addr)} {env : En} {σ : L2.St} {L L' : Pe} {v : V} {r : R} {a : Addr}
theorem Rel.perm (R1 : Rel K OW H0 P env σ H L) (p : L'.Perm L) : Rel K OW H0 P env σ H L' :=
  ⟨R1.len, R1.slot, fun q h => R1.pend q (p.mem_iff.mp h), R1.sepS, fun i r v q a b c d => R1.sepP i r v q a b c (p.mem_iff.mp d),
    R1.sepL.perm p.symm (fun h a b e => h b a e.symm), R1.keep, R1.newS, fun q h => R1.newL q (p.mem_iff.mp h), R1.par, R1.ow, fun q h => R1.vo q (p.mem_iff.mp h)⟩
theorem Rel.sub (R1 : Rel K OW H0 P env σ H L) (s : L'.Sublist L) : Rel K OW H0 P env σ H L' :=
  ⟨R1.len, R1.slot, fun q h => R1.pend q (s.mem h), R1.sepS, fun i r v q a b c d => R1.sepP i r v q a b c (s.mem d),
    R1.sepL.sublist s, R1.keep, R1.newS, fun q h => R1.newL q (s.mem h), R1.par, R1.ow, fun q h => R1.vo q (s.mem h)⟩
theorem Rel.drop (R1 : Rel K OW H0 P env σ H ((v, r) :: L)) : Rel K OW H0 P env σ H L := R1.sub (List.sublist_cons_self _ _)
/-- the heap grows -/
theorem Rel.grow (R1 : Rel K OW H0 P env σ H L) (s : Same H H') : Rel K OW H0 P env σ H' L := by
  have k := Kp.of_same s
  have kr : ∀ {v : V} {r : R}, RR K H v r → RR K H' v r := fun h => h.keep k fun _ a u _ e => s a u e
  refine ⟨R1.len, fun i r e => ?_, fun p h => ?_, R1.sepS, R1.sepP, R1.sepL, fun a o e n => s a o (R1.keep a o e n), R1.newS, R1.newL, R1.par, R1.ow, R1.vo⟩
  · obtain ⟨v, e1, e2⟩ := R1.slot i r e
    exact ⟨v, e1, kr e2⟩
  · have q := R1.pend p h
    obtain ⟨v, r⟩ := p
    cases r with
    | vr i => exact q
    | _ => exact RP.of (kr (q.rr fun i z => nomatch z))
/-- data wait, too -/
theorem Rel.put (R1 : Rel K OW H0 P env σ H L) (h : RP K env σ H v r) (n : r.own = false) (nv : ∀ i, r = .vr i → OW i = true := by intro _ z; cases z) : Rel K OW H0 P env σ H ((v, r) :: L) := by
  refine ⟨R1.len, R1.slot, fun p m => ?_, R1.sepS, fun i r' w p a b c d e => ?_, List.pairwise_cons.mpr ⟨fun q _ z => ?_, R1.sepL⟩, R1.keep, R1.newS, fun p m o => ?_, R1.par, R1.ow, fun p m i z => ?_⟩
  · rcases List.mem_cons.mp m with rfl | m
    · exact h
    · exact R1.pend p m
  · rcases List.mem_cons.mp d with rfl | d
    · have e' : r.own = true := e
      rw [n] at e'; cases e'
    · exact R1.sepP i r' w p a b c d e
  · have e' : r.own = true := z
    rw [n] at e'; cases e'
  · rcases List.mem_cons.mp m with rfl | m
    · have e' : r.own = true := o
      rw [n] at e'; cases e'
    · exact R1.newL p m o
  · rcases List.mem_cons.mp m with rfl | m
    · exact nv i z
    · exact R1.vo p m i z
theorem Rel.none0 (R1 : Rel K OW H0 P env σ H L) (h : H a = none) : some a ∉ P → H0 a = none := fun n => by
  cases q : H0 a with
  | none => rfl
  | some o => rw [R1.keep a o q n] at h; cases h
theorem Rel.noPar (R1 : Rel K OW H0 P env σ H L) (h : H a = none) : some a ∉ P := fun m => by
  obtain ⟨i, hi⟩ := List.mem_iff_getElem?.mp m
  obtain ⟨e, r, e2⟩ := R1.par i a hi
  obtain ⟨v, e3, e4⟩ := R1.slot i _ e2
  rw [e] at e3; cases e3
  obtain ⟨b, u, e5, e6, _⟩ := e4.ownAt rfl
  cases e5
  rw [h] at e6; cases e6
theorem RP.ownAt {v : V} {r : R} (h : RP K env σ H v r) (o : r.own = true) : ∃ a u, v = .ref a ∧ H a = some u ∧ Wr u :=
  (h.rr fun i z => by subst z; cases o).ownAt o
/-- a new own thing waits -/
theorem Rel.newOwn (R1 : Rel K OW H0 P env σ H L) {u : HO} (h : H a = none) (rr : RR K (upd H a u) (.ref a) r) : Rel K OW H0 P env σ (upd H a u) ((.ref a, r) :: L) := by
  have g : Same H (upd H a u) := fun b o e => by rw [upd_ne (ne_of_none e h)]; exact e
  have R2 := R1.grow g
  have nP := R1.noPar h
  refine ⟨R2.len, R2.slot, fun p m => ?_, R2.sepS, fun i r' w p x b c d e => ?_, List.pairwise_cons.mpr ⟨fun q m _ z e => ?_, R2.sepL⟩, R2.keep, R2.newS, fun p m o b e => ?_, R2.par, R2.ow, fun p m i z => ?_⟩
  · rcases List.mem_cons.mp m with rfl | m
    · exact RP.of rr
    · exact R2.pend p m
  · rcases List.mem_cons.mp d with rfl | d
    · obtain ⟨w', e1, e2⟩ := R1.slot i r' x
      rw [c] at e1; cases e1
      obtain ⟨b', u', e3, e4, _⟩ := e2.ownAt b
      subst e3
      intro z
      cases z
      rw [h] at e4; cases e4
    · exact R2.sepP i r' w p x b c d e
  · obtain ⟨b', u', e3, e4, _⟩ := (R1.pend q m).ownAt z
    have e' : V.ref a = q.1 := e
    rw [e3] at e'; cases e'
    rw [h] at e4; cases e4
  · rcases List.mem_cons.mp m with rfl | m
    · cases e
      exact ⟨R1.none0 h nP, nP⟩
    · exact R2.newL p m o b e
  · rcases List.mem_cons.mp m with rfl | m
    · have z' : r = .vr i := z
      subst z'
      exact False.elim rr
    · exact R2.vo p m i z
/-- a new thing of data waits -/
theorem Rel.newData (R1 : Rel K OW H0 P env σ H L) {u : HO} {d : D} (h : H a = none) (rr : RD (upd H a u) v d) : Rel K OW H0 P env σ (upd H a u) ((v, .d d) :: L) :=
  (R1.grow fun b o e => by rw [upd_ne (ne_of_none e h)]; exact e).put (r := .d d) rr rfl

theorem get_set {α : Type} {l : List α} {i j : Nat} {x y : α} (h : (l.set i x)[j]? = some y) : (j = i ∧ y = x) ∨ (j ≠ i ∧ l[j]? = some y) := by
  by_cases e : j = i
  · subst e
    by_cases hl : j < l.length
    · rw [List.getElem?_set_self hl] at h
      exact .inl ⟨rfl, (Option.some.inj h).symm⟩
    · rw [List.getElem?_eq_none (by simpa using hl)] at h; cases h
  · rw [List.getElem?_set_ne (Ne.symm e)] at h
    exact .inr ⟨e, h⟩
/-- no slot holds a parameter's list there -/
def notPl : Option (Option R) → Bool
  | some (some (.pl _)) => false
  | _ => true
/-- name = value -/
theorem Rel.store {i : Nat} (R1 : Rel K OW H0 P env σ H ((v, r) :: L)) (hi : i < env.length) (hp : notPl env[i]? = true) (nv : ∀ j, r ≠ .vr j) (np : ∀ ds, r ≠ .pl ds) (hL : ∀ p ∈ L, p.2 ≠ .vr i) (ho : r.own = true → OW i = true) :
    Rel K OW H0 P (env.set i (some r)) (σ.set i (some v)) H L := by
  have nP : ∀ a, P[i]? ≠ some (some a) := fun a e => by
    obtain ⟨_, ds, e2⟩ := R1.par i a e
    rw [e2] at hp; cases hp
  have hσ : i < σ.length := by rw [← R1.len]; exact hi
  have hv := (R1.pend (v, r) List.mem_cons_self).rr nv
  refine ⟨by rw [List.length_set, List.length_set]; exact R1.len, fun j r' e => ?_, fun p m => ?_, fun j k r1 r2 w a b c d e f => ?_, fun j r' w p a b c d e => ?_, (List.pairwise_cons.mp R1.sepL).2, R1.keep, fun j r' a e o f => ?_, fun p m => R1.newL p (List.mem_cons_of_mem _ m), fun j a e => ?_, fun j r' e o => ?_, fun p m => R1.vo p (List.mem_cons_of_mem _ m)⟩
  · rcases get_set e with ⟨rfl, e'⟩ | ⟨ne, e'⟩
    · cases e'
      exact ⟨v, by rw [List.getElem?_set_self hσ], hv⟩
    · obtain ⟨w, e1, e2⟩ := R1.slot j r' e'
      exact ⟨w, by rw [List.getElem?_set_ne (Ne.symm ne)]; exact e1, e2⟩
  · have q := R1.pend p (List.mem_cons_of_mem _ m)
    have hq := hL p m
    obtain ⟨pv, pr⟩ := p
    cases pr with
    | vr j =>
      have nj : i ≠ j := fun z => hq (by rw [z])
      obtain ⟨q1, r1, q2⟩ := q
      exact ⟨by rw [List.getElem?_set_ne nj]; exact q1, r1, by rw [List.getElem?_set_ne nj]; exact q2⟩
    | _ => exact q
  · rcases get_set a with ⟨rfl, a'⟩ | ⟨na, a'⟩ <;> rcases get_set b with ⟨rfl, b'⟩ | ⟨nb, b'⟩
    · rfl
    · cases a'
      rw [List.getElem?_set_self hσ] at e
      rw [List.getElem?_set_ne (Ne.symm nb)] at f
      cases e
      exact absurd rfl (R1.sepP k r2 v (v, r) b' d f List.mem_cons_self c)
    · cases b'
      rw [List.getElem?_set_self hσ] at f
      rw [List.getElem?_set_ne (Ne.symm na)] at e
      cases f
      exact absurd rfl (R1.sepP j r1 v (v, r) a' c e List.mem_cons_self d)
    · rw [List.getElem?_set_ne (Ne.symm na)] at e
      rw [List.getElem?_set_ne (Ne.symm nb)] at f
      exact R1.sepS j k r1 r2 w a' b' c d e f
  · rcases get_set a with ⟨rfl, a'⟩ | ⟨na, a'⟩
    · cases a'
      rw [List.getElem?_set_self hσ] at c
      cases c
      exact fun z => (List.pairwise_cons.mp R1.sepL).1 p d b e z.symm
    · rw [List.getElem?_set_ne (Ne.symm na)] at c
      exact R1.sepP j r' w p a' b c (List.mem_cons_of_mem _ d) e
  · rcases get_set e with ⟨rfl, e'⟩ | ⟨ne, e'⟩
    · cases e'
      rw [List.getElem?_set_self hσ] at f
      cases f
      exact .inl (R1.newL (.ref a, r) List.mem_cons_self o a rfl)
    · rw [List.getElem?_set_ne (Ne.symm ne)] at f
      exact R1.newS j r' a e' o f
  · have ne : j ≠ i := fun z => by subst z; exact nP a e
    obtain ⟨e1, ds, e2⟩ := R1.par j a e
    exact ⟨by rw [List.getElem?_set_ne (Ne.symm ne)]; exact e1, ds, by rw [List.getElem?_set_ne (Ne.symm ne)]; exact e2⟩
  · rcases get_set e with ⟨rfl, e'⟩ | ⟨ne, e'⟩
    · cases e'
      exact ho o
    · exact R1.ow j r' e' o
/-- what may stand in a slot's own place when its thing has changed -/
def R.like : R → R → Bool
  | .ol _, .ol _ => true
  | .pl _, .pl _ => true
  | .oK _, .oK _ => true
  | .oT _, .oT _ => true
  | _, _ => false
theorem R.like_own {r r' : R} (h : r.like r' = true) : r.own = true ∧ r'.own = true := by
  cases r <;> cases r' <;> first | exact ⟨rfl, rfl⟩ | cases h
theorem vr_own {i : Nat} {r : R} (h : r = .vr i) : r.own = false := by subst h; rfl
/-- a slot's own thing has changed -/
theorem Rel.change {i : Nat} {r' : R} {u : HO} (R1 : Rel K OW H0 P env σ H L) (e : env[i]? = some (some r)) (hv : σ[i]? = some (some (.ref a))) (lk : r.like r' = true) (rr : RR K (upd H a u) (.ref a) r') :
    Rel K OW H0 P (env.set i (some r')) σ (upd H a u) L := by
  obtain ⟨o1, o2⟩ := R.like_own lk
  have hi : i < env.length := (List.getElem?_eq_some_iff.mp e).1
  obtain ⟨v0, e0, rr0⟩ := R1.slot i r e
  rw [hv] at e0; cases e0
  obtain ⟨a', u', ea, eh, w⟩ := rr0.ownAt o1
  cases ea
  have k : Kp H (upd H a u) := Kp.write eh w
  have ne : ∀ b o, H0 b = some o → some b ∉ P → b ≠ a := fun b o q n z => by
    subst z
    rcases R1.newS i r b e o1 hv with ⟨q', _⟩ | q'
    · rw [q] at q'; cases q'
    · exact n (List.mem_iff_getElem?.mpr ⟨i, q'⟩)
  refine ⟨by rw [List.length_set]; exact R1.len, fun j r1 ej => ?_, fun p m => ?_, fun j k r1 r2 w a1 b1 c1 d1 e1 f1 => ?_, fun j r1 w p a1 b1 c1 d1 e1 => ?_, R1.sepL, fun b o q n => ?_, fun j r1 b e1 o f => ?_, R1.newL, fun j b e1 => ?_, fun j r1 e1 o => ?_, R1.vo⟩
  · rcases get_set ej with ⟨rfl, e'⟩ | ⟨nj, e'⟩
    · cases e'
      exact ⟨_, hv, rr⟩
    · obtain ⟨w1, e1, e2⟩ := R1.slot j r1 e'
      refine ⟨w1, e1, e2.keep k fun oj b ub eb hb => ?_⟩
      subst eb
      have nb : b ≠ a := fun z => by
        subst z
        exact nj (R1.sepS j i r1 r (.ref b) e' e oj o1 e1 hv)
      rw [upd_ne nb]; exact hb
  · have q := R1.pend p m
    obtain ⟨pv, pr⟩ := p
    by_cases hvr : ∃ j, pr = .vr j
    · obtain ⟨j, rfl⟩ := hvr
      obtain ⟨q1, r1, q2⟩ := q
      by_cases nj : j = i
      · subst nj
        exact ⟨q1, r', by rw [List.getElem?_set_self hi]⟩
      · exact ⟨q1, r1, by rw [List.getElem?_set_ne (Ne.symm nj)]; exact q2⟩
    · refine RP.of ((q.rr fun j z => hvr ⟨j, z⟩).keep k fun oj b ub eb hb => ?_)
      have eb' : pv = .ref b := eb
      subst eb'
      have nb : b ≠ a := fun z => by
        subst z
        exact R1.sepP i r (.ref b) (.ref b, pr) e o1 hv m oj rfl
      rw [upd_ne nb]; exact hb
  · rcases get_set a1 with ⟨rfl, a'⟩ | ⟨na, a'⟩ <;> rcases get_set b1 with ⟨rfl, b'⟩ | ⟨nb, b'⟩
    · rfl
    · exact R1.sepS _ _ r r2 w e b' o1 d1 e1 f1
    · exact R1.sepS _ _ r1 r w a' e c1 o1 e1 f1
    · exact R1.sepS _ _ r1 r2 w a' b' c1 d1 e1 f1
  · rcases get_set a1 with ⟨rfl, a'⟩ | ⟨na, a'⟩
    · exact R1.sepP _ r w p e o1 c1 d1 e1
    · exact R1.sepP _ r1 w p a' b1 c1 d1 e1
  · rw [upd_ne (ne b o q n)]; exact R1.keep b o q n
  · rcases get_set e1 with ⟨rfl, a'⟩ | ⟨na, a'⟩
    · exact R1.newS _ r b e o1 f
    · exact R1.newS _ r1 b a' o f
  · obtain ⟨q1, ds, q2⟩ := R1.par j b e1
    by_cases nj : j = i
    · subst nj
      rw [e] at q2; cases q2
      cases r' <;> first | exact ⟨q1, _, by rw [List.getElem?_set_self hi]⟩ | cases lk
    · exact ⟨q1, ds, by rw [List.getElem?_set_ne (Ne.symm nj)]; exact q2⟩
  · rcases get_set e1 with ⟨rfl, a'⟩ | ⟨na, a'⟩
    · exact R1.ow _ r e o1
    · exact R1.ow j r1 a' o
/-- an own thing that waits has changed (or is told as data from now on) -/
theorem Rel.changeP {r' : R} {u : HO} (R1 : Rel K OW H0 P env σ H ((.ref a, r) :: L)) (o : r.own = true) (rr : RR K (upd H a u) (.ref a) r') :
    Rel K OW H0 P env σ (upd H a u) ((.ref a, r') :: L) := by
  obtain ⟨a', u', ea, eh, w⟩ := (R1.pend _ List.mem_cons_self).ownAt o
  cases ea
  have k : Kp H (upd H a u) := Kp.write eh w
  obtain ⟨hn, hP⟩ := R1.newL _ List.mem_cons_self o a rfl
  have sl := List.pairwise_cons.mp R1.sepL
  have ne : ∀ b o, H0 b = some o → b ≠ a := fun b o q z => by subst z; rw [hn] at q; cases q
  refine ⟨R1.len, fun j r1 ej => ?_, fun p m => ?_, R1.sepS, fun j r1 w p a1 b1 c1 d1 e1 => ?_, List.pairwise_cons.mpr ⟨fun q m o1 o2 => sl.1 q m o o2, sl.2⟩, fun b o q n => ?_, R1.newS, fun p m o1 => ?_, R1.par, R1.ow, fun p m i z => ?_⟩
  · obtain ⟨w1, e1, e2⟩ := R1.slot j r1 ej
    refine ⟨w1, e1, e2.keep k fun oj b ub eb hb => ?_⟩
    subst eb
    have nb : b ≠ a := fun z => by
      subst z
      exact R1.sepP j r1 (.ref b) (.ref b, r) ej oj e1 List.mem_cons_self o rfl
    rw [upd_ne nb]; exact hb
  · rcases List.mem_cons.mp m with rfl | m1
    · exact RP.of rr
    · have q := R1.pend p (List.mem_cons_of_mem _ m1)
      obtain ⟨pv, pr⟩ := p
      by_cases hvr : ∃ j, pr = .vr j
      · obtain ⟨j, rfl⟩ := hvr
        exact q
      · refine RP.of ((q.rr fun j z => hvr ⟨j, z⟩).keep k fun oj b ub eb hb => ?_)
        have eb' : pv = .ref b := eb
        subst eb'
        have nb : b ≠ a := fun z => by
          subst z
          exact sl.1 _ m1 o oj rfl
        rw [upd_ne nb]; exact hb
  · rcases List.mem_cons.mp d1 with rfl | d1
    · exact R1.sepP j r1 w (.ref a, r) a1 b1 c1 List.mem_cons_self o
    · exact R1.sepP j r1 w p a1 b1 c1 (List.mem_cons_of_mem _ d1) e1
  · rw [upd_ne (ne b o q)]; exact R1.keep b o q n
  · rcases List.mem_cons.mp m with rfl | m
    · exact R1.newL (.ref a, r) List.mem_cons_self o
    · exact R1.newL p (List.mem_cons_of_mem _ m) o1
  · rcases List.mem_cons.mp m with rfl | m
    · have z' : r' = .vr i := z
      subst z'
      exact False.elim rr
    · exact R1.vo p (List.mem_cons_of_mem _ m) i z
/-- a slot is forgotten -/
theorem Rel.forget {i : Nat} (R1 : Rel K OW H0 P env σ H L) (hp : notPl env[i]? = true) (hL : ∀ p ∈ L, p.2 ≠ .vr i) : Rel K OW H0 P (env.set i none) σ H L := by
  have g : ∀ {j : Nat} {r : R}, (env.set i none)[j]? = some (some r) → j ≠ i ∧ env[j]? = some (some r) := fun {j r} e => by
    rcases get_set e with ⟨_, z⟩ | z
    · cases z
    · exact z
  refine ⟨by rw [List.length_set]; exact R1.len, fun j r e => R1.slot j r (g e).2, fun p m => ?_, fun j k r1 r2 w a b => R1.sepS j k r1 r2 w (g a).2 (g b).2, fun j r1 w p a => R1.sepP j r1 w p (g a).2, R1.sepL, R1.keep, fun j r1 b e => R1.newS j r1 b (g e).2, R1.newL, fun j b e => ?_, fun j r1 e => R1.ow j r1 (g e).2, R1.vo⟩
  · have q := R1.pend p m
    obtain ⟨pv, pr⟩ := p
    cases pr with
    | vr j =>
      obtain ⟨q1, r1, q2⟩ := q
      have nj : j ≠ i := fun z => hL _ m (by rw [z])
      exact ⟨q1, r1, by rw [List.getElem?_set_ne (Ne.symm nj)]; exact q2⟩
    | _ => exact q
  · obtain ⟨q1, ds, q2⟩ := R1.par j b e
    have nj : j ≠ i := fun z => by subst z; rw [q2] at hp; cases hp
    exact ⟨q1, ds, by rw [List.getElem?_set_ne (Ne.symm nj)]; exact q2⟩
/-- a slot's own thing goes out of it -/
theorem Rel.takeOut {i : Nat} (R1 : Rel K OW H0 P env σ H L) (e : env[i]? = some (some r)) (o : r.own = true) (hv : σ[i]? = some (some v)) (hp : notPl env[i]? = true) (hL : ∀ p ∈ L, p.2 ≠ .vr i) :
    Rel K OW H0 P (env.set i none) σ H ((v, r) :: L) := by
  have R2 := R1.forget hp hL
  obtain ⟨w, e1, rr⟩ := R1.slot i r e
  rw [hv] at e1; cases e1
  refine ⟨R2.len, R2.slot, fun p m => ?_, R2.sepS, fun j r1 w p a b c d f => ?_, List.pairwise_cons.mpr ⟨fun q m _ o2 z => ?_, R2.sepL⟩, R2.keep, R2.newS, fun p m o1 b eb => ?_, R2.par, R2.ow, fun p m j z => ?_⟩
  · rcases List.mem_cons.mp m with rfl | m
    · exact RP.of rr
    · exact R2.pend p m
  · rcases List.mem_cons.mp d with rfl | d
    · rcases get_set a with ⟨_, z⟩ | ⟨nj, a'⟩
      · cases z
      · intro z
        have z' : v = w := z
        subst z'
        exact nj (R1.sepS j i r1 r _ a' e b o c hv)
    · exact R2.sepP j r1 w p a b c d f
  · exact R1.sepP i r v q e o hv m o2 z.symm
  · rcases List.mem_cons.mp m with rfl | m
    · have eb' : v = .ref b := eb
      subst eb'
      rcases R1.newS i r b e o hv with z | z
      · exact z
      · obtain ⟨_, ds, q2⟩ := R1.par i b z
        rw [q2] at hp; cases hp
    · exact R2.newL p m o1 b eb
  · rcases List.mem_cons.mp m with rfl | m
    · have z' : r = .vr j := z
      subst z'
      cases o
    · exact R2.vo p m j z
end
/-! ### slots that don't matter; another entry -/
section
variable {K : PySem.W.Frag} {OW : Nat → Bool} {H0 G0 H H' : Hp} {P : List (Option Addr)} {env : En} {σ σ' : L2.St} {L : Pe} {v : V} {r : R}
/-- values of slots that are told of -/
theorem Rel.agree (R1 : Rel K OW H0 P env σ H L) (hl : σ'.length = σ.length) (h : ∀ (i : Nat) (r : R), env[i]? = some (some r) → σ'[i]? = σ[i]?) : Rel K OW H0 P env σ' H L := by
  refine ⟨by rw [hl]; exact R1.len, fun i r e => ?_, fun p m => ?_, fun i j r r' v a b c d e f => ?_, fun i r v p a b c => ?_, R1.sepL, R1.keep, fun i r a e o f => ?_, R1.newL, fun i a e => ?_, R1.ow, R1.vo⟩
  · rw [h i r e]; exact R1.slot i r e
  · have q := R1.pend p m
    obtain ⟨pv, pr⟩ := p
    cases pr with
    | vr j =>
      obtain ⟨q1, r1, q2⟩ := q
      exact ⟨by rw [h j r1 q2]; exact q1, r1, q2⟩
    | _ => exact q
  · rw [h i r a] at e
    rw [h j r' b] at f
    exact R1.sepS i j r r' v a b c d e f
  · rw [h i r a] at c
    exact R1.sepP i r v p a b c
  · rw [h i r e] at f
    exact R1.newS i r a e o f
  · obtain ⟨q1, ds, q2⟩ := R1.par i a e
    exact ⟨by rw [h i _ q2]; exact q1, ds, q2⟩
/-- an entry of which less is known -/
theorem Rel.lessBase (R1 : Rel K OW G0 P env σ H L) (h1 : ∀ a o, H0 a = some o → some a ∉ P → G0 a = some o) (h2 : ∀ a, G0 a = none → H0 a = none) : Rel K OW H0 P env σ H L :=
  ⟨R1.len, R1.slot, R1.pend, R1.sepS, R1.sepP, R1.sepL, fun a o q n => R1.keep a o (h1 a o q n) n, fun i r a e o f => (R1.newS i r a e o f).imp (fun z => ⟨h2 a z.1, z.2⟩) id, fun p m o a e => ⟨h2 a (R1.newL p m o a e).1, (R1.newL p m o a e).2⟩, R1.par, R1.ow, R1.vo⟩
open Classical in
/-- the entry, with what is frozen, what is a tuple by now -/
noncomputable def baseOf (H0 H : Hp) : Hp := fun a => if (∃ xs, H a = some (.tup xs)) ∨ (∃ o u, H a = some (.frz o u)) then H a else H0 a
theorem baseOf_at {a : Addr} (h : (∃ xs, H a = some (.tup xs)) ∨ (∃ o u, H a = some (.frz o u))) : baseOf H0 H a = H a := if_pos h
theorem baseOf_not {a : Addr} (h : ¬ ((∃ xs, H a = some (.tup xs)) ∨ (∃ o u, H a = some (.frz o u)))) : baseOf H0 H a = H0 a := if_neg h
theorem wr_not {a : Addr} {u : HO} (h : H a = some u) (w : Wr u) : ¬ ((∃ xs, H a = some (.tup xs)) ∨ (∃ o u, H a = some (.frz o u))) := by
  rintro (⟨xs, e⟩ | ⟨o, x, e⟩) <;> (rw [h] at e; cases e; exact w)
theorem Rel.moreBase (R1 : Rel K OW H0 P env σ H L) : Rel K OW (baseOf H0 H) P env σ H L := by
  refine ⟨R1.len, R1.slot, R1.pend, R1.sepS, R1.sepP, R1.sepL, fun a o q n => ?_, fun i r a e o f => ?_, fun p m o a e => ?_, R1.par, R1.ow, R1.vo⟩
  · by_cases c : (∃ xs, H a = some (.tup xs)) ∨ (∃ o u, H a = some (.frz o u))
    · rw [baseOf_at c] at q; exact q
    · rw [baseOf_not c] at q; exact R1.keep a o q n
  · obtain ⟨w, e1, rr⟩ := R1.slot i r e
    rw [f] at e1; cases e1
    obtain ⟨b, u, eb, hb, wr⟩ := rr.ownAt o
    cases eb
    rw [baseOf_not (wr_not hb wr)]
    exact R1.newS i r a e o f
  · obtain ⟨b, u, eb, hb, wr⟩ := (R1.pend p m).ownAt o
    rw [e] at eb; cases eb
    rw [baseOf_not (wr_not hb wr)]
    exact R1.newL p m o a e
theorem Rel.backBase (R0 : Rel K OW H0 P env σ H L) {env' : En} {σ' : L2.St} {L' : Pe} (R1 : Rel K OW (baseOf H0 H) P env' σ' H' L') : Rel K OW H0 P env' σ' H' L' := by
  refine R1.lessBase (fun a o q n => ?_) fun a q => ?_
  · by_cases c : (∃ xs, H a = some (.tup xs)) ∨ (∃ o u, H a = some (.frz o u))
    · rw [baseOf_at c]; exact R0.keep a o q n
    · rw [baseOf_not c]; exact q
  · by_cases c : (∃ xs, H a = some (.tup xs)) ∨ (∃ o u, H a = some (.frz o u))
    · rw [baseOf_at c] at q
      rcases c with ⟨xs, e⟩ | ⟨o, u, e⟩ <;> (rw [q] at e; cases e)
    · rw [baseOf_not c] at q; exact q
/-- what was frozen, what was a tuple at the entry, is so still -/
theorem Rel.kpBase (R1 : Rel K OW (baseOf H0 H) P env σ H' L) (hP : ∀ a, some a ∈ P → ¬ ((∃ xs, H a = some (.tup xs)) ∨ (∃ o u, H a = some (.frz o u)))) : Kp H H' :=
  ⟨fun a xs e => R1.keep a _ ((baseOf_at (.inl ⟨xs, e⟩)).trans e) fun m => hP a m (.inl ⟨xs, e⟩), fun a o u e => R1.keep a _ ((baseOf_at (.inr ⟨o, u, e⟩)).trans e) fun m => hP a m (.inr ⟨o, u, e⟩)⟩
theorem Rel.parNot (R1 : Rel K OW H0 P env σ H L) : ∀ a, some a ∈ P → ¬ ((∃ xs, H a = some (.tup xs)) ∨ (∃ o u, H a = some (.frz o u))) := fun a m => by
  obtain ⟨i, e⟩ := List.mem_iff_getElem?.mp m
  obtain ⟨q1, ds, q2⟩ := R1.par i a e
  obtain ⟨w, e1, b, vs, e2, e3, _⟩ := R1.slot i _ q2
  rw [q1] at e1; cases e1
  cases e2
  exact wr_not e3 trivial
end
end Pw

set_option Elab.async false
set_option linter.all false
set_option maxRecDepth 100000
set_option maxHeartbeats 2000000
/-! Pw: programs over slots, and what it means that a piece of Python does as such a program. -/
namespace Pw
open PySem PySem.Spec PyProof.Rows L2

/-- an own exception: its class's name, its attributes -/
structure Ex where
  cls : Str
  fs : List (Str × D)
/-- what a program over slots ends with -/
inductive Res (α : Type) where
  | st
  | ok (a : α) (e : En)
  | ex (x : Ex) (e : En)
abbrev ME := En → Res R
abbrev MT := En → Res Bool
abbrev MA := En → Res (List R)
def Res.bind {α β : Type} (r : Res α) (f : α → En → Res β) : Res β := match r with
  | .st => .st
  | .ok a e => f a e
  | .ex x e => .ex x e

def RX (mg : Str → Option Value) (H : Hp) (x : Ex) (c : Value) (d : Option Addr) : Prop :=
  mg x.cls = some c ∧ ∃ dd fs, d = some dd ∧ H dd = some (.xd fs) ∧ Paired (fun (p : Str × V) (q : Str × D) => p.1 = q.1 ∧ RD H p.2 q.2) fs x.fs
/-- what stands still in a body: the written part, the module's names, what is wanted of exceptions, the slots that may hold own things -/
structure Cy where
  K : PySem.W.Frag
  mg : Str → Option Value
  W : WX
  OW : Nat → Bool
section
variable (C : Cy)
/-- an end that is wanted: a value (f tells of it), or an exception -/
def Sat {α : Type} (H0 : Hp) (P : List (Option Addr)) (σ : L2.St) (L : Pe) (o : Res α) (f : α → En → Prop) : Prop := match o with
  | .st => False
  | .ok a e => f a e
  | .ex x e => ∀ c d H', Rel C.K C.OW H0 P e σ H' L → RX C.mg H' x c d → C.W c d σ H'
def okE (H0 : Hp) (P : List (Option Addr)) (σ : L2.St) (L : Pe) (Q : VK) : R → En → Prop := fun r e => ∀ v H', Rel C.K C.OW H0 P e σ H' ((v, r) :: L) → Q v H'
def okT (H0 : Hp) (P : List (Option Addr)) (σ : L2.St) (L : Pe) (Q : Bool → Hp → Prop) : Bool → En → Prop := fun b e => ∀ H', Rel C.K C.OW H0 P e σ H' L → Q b H'
def okA (H0 : Hp) (P : List (Option Addr)) (σ : L2.St) (L : Pe) (Q : List V → Hp → Prop) : List R → En → Prop := fun rs e => ∀ vs H', vs.length = rs.length → Rel C.K C.OW H0 P e σ H' (vs.zip rs ++ L) → Q vs H'
def tD (m : ME) : TE := fun σ H Q => ∃ H0 P env L, Rel C.K C.OW H0 P env σ H L ∧ Sat C H0 P σ L (m env) (okE C H0 P σ L Q)
def tT (m : MT) : TT := fun σ H Q => ∃ H0 P env L, Rel C.K C.OW H0 P env σ H L ∧ Sat C H0 P σ L (m env) (okT C H0 P σ L Q)
def tA (m : MA) : TA := fun σ H Q => ∃ H0 P env L, Rel C.K C.OW H0 P env σ H L ∧ Sat C H0 P σ L (m env) (okA C H0 P σ L Q)
end
section
variable {C : Cy} {H0 : Hp} {P : List (Option Addr)} {σ : L2.St} {L L' : Pe} {α β : Type}
theorem Sat.mono {o : Res α} {f g : α → En → Prop} (h : Sat C H0 P σ L o f) (k : ∀ a e, o = .ok a e → f a e → g a e) : Sat C H0 P σ L o g := by
  cases o with
  | st => exact h
  | ok a e => exact k a e rfl h
  | ex x e => exact h
theorem Sat.bind {o : Res α} {h : α → En → Res β} {f : β → En → Prop} (s : Sat C H0 P σ L (o.bind h) f) : Sat C H0 P σ L o fun a e => Sat C H0 P σ L (h a e) f := by
  cases o with
  | st => exact s
  | ok a e => exact s
  | ex x e => exact s
/-- fewer things wait -/
theorem Sat.wait {o : Res α} {f : α → En → Prop} (s : Sat C H0 P σ L o f) (k : ∀ e H, Rel C.K C.OW H0 P e σ H L' → Rel C.K C.OW H0 P e σ H L) : Sat C H0 P σ L' o f := by
  cases o with
  | st => exact s
  | ok a e => exact s
  | ex x e => exact fun c d H' r => s c d H' (k e H' r)
end
abbrev cy (X : Cx) (W : WX) (OW : Nat → Bool) : Cy := ⟨X.K, X.mg, W, OW⟩
section
variable {X : Cx} {W : WX} {OW : Nat → Bool} {e a b c : Expr} {te : TE} {tt : TT} {ta : TA} {m ma mb mc : ME} {pos : Pos}
abbrev DE (X : Cx) (W : WX) (OW : Nat → Bool) (e : Expr) (m : ME) : Prop := PE X e (tD (cy X W OW) m)
abbrev DT (X : Cx) (W : WX) (OW : Nat → Bool) (e : Expr) (m : MT) : Prop := PT X e (tT (cy X W OW) m)
abbrev DW (X : Cx) (W : WX) (OW : Nat → Bool) (e : Expr) (m : MT) : Prop := PW X e (tT (cy X W OW) m)
abbrev DA (X : Cx) (W : WX) (OW : Nat → Bool) (es : List Expr) (m : MA) : Prop := PA X es (tA (cy X W OW) m)
theorem pe_le (h : PE X e te) (k : ∀ σ H Q, tD (cy X W OW) m σ H Q → te σ H Q) : DE X W OW e m := ⟨fun pins s σ H Q I q => h.run pins s σ H Q I (k σ H Q q)⟩
theorem pt_le {m : MT} (h : PT X e tt) (k : ∀ σ H Q, tT (cy X W OW) m σ H Q → tt σ H Q) : DT X W OW e m := ⟨fun pins s σ H Q I q => h.run pins s σ H Q I (k σ H Q q)⟩
theorem pw_le {m : MT} (h : PW X e tt) (k : ∀ σ H Q, tT (cy X W OW) m σ H Q → tt σ H Q) : DW X W OW e m := ⟨fun wh pins s σ H Q I q => h.run wh pins s σ H Q I (k σ H Q q)⟩
theorem pa_le {es : List Expr} {m : MA} (h : PA X es ta) (k : ∀ σ H Q, tA (cy X W OW) m σ H Q → ta σ H Q) : DA X W OW es m := ⟨fun pos pins s σ H Q I q => h.run pos pins s σ H Q I (k σ H Q q)⟩

/-! ### a heap's own list becomes data -/
theorem wr_obj {P : Program} {w : World} {H : Hp} {h : Heap} {a : Addr} {u : HO} (k : ObjOk P w H h a u) (wr : Wr u) : ∃ o, h.get? a = some o := by
  cases u with
  | lst xs => obtain ⟨_, _, _, _, e⟩ := k; exact ⟨_, e⟩
  | dK kvs => obtain ⟨_, _, _, _, o, _, _, e, _⟩ := k; exact ⟨o, e⟩
  | dT kvs => obtain ⟨_, _, _, _, o, _, _, e, _⟩ := k; exact ⟨o, e⟩
  | _ => exact wr.elim
theorem wr_ne {H : Hp} {a b : Addr} {u o : HO} (h : H a = some u) (wr : Wr u) (h' : H b = some o) (n : ¬ Wr o) : b ≠ a := fun z => by
  subst z
  rw [h] at h'
  cases h'
  exact n wr
theorem inv_freeze {pins : List (Addr × Obj)} {σ : L2.St} {H : Hp} {s : Shared} {a : Addr} {u : HO} (I : Inv X pins σ H s) (h : H a = some u) (wr : Wr u) :
    ∃ o, Inv X pins σ (upd H a (.frz o u)) s := by
  obtain ⟨o, e⟩ := wr_obj (I.hok a u h) wr
  have nn : ∀ {b : Addr}, H b = none → b ≠ a := fun q => ne_of_none h q |>.symm
  have kn : ∀ {b : Addr}, H b = none → (upd H a (.frz o u)) b = none := fun q => by rw [upd_ne (nn q)]; exact q
  have kb : ∀ {b : Addr} {x : HO}, H b = some x → ¬ Wr x → (upd H a (.frz o u)) b = some x := fun q n => by rw [upd_ne (wr_ne h wr q n)]; exact q
  have stay : ∀ {b : Addr} {x : HO}, ObjOk X.prog X.w H s.heap b x → ObjOk X.prog X.w (upd H a (.frz o u)) s.heap b x := fun q =>
    q.stay (fun _ _ _ z => z) (fun b z => kb z (fun w => w)) (fun b xs z => kb z (fun w => w))
  refine ⟨o, ⟨I.ok, I.os, I.bare, ⟨I.base.keep, I.base.slot, fun b ob q n x => kn (I.base.free b ob q n x), I.base.there, fun b xs q => kb (I.base.tups b xs q) (fun w => w), fun b ob x q => kb (I.base.frzs b ob x q) (fun w => w), fun b ps q => ?_⟩,
    I.loc, I.cell, kn I.free, fun x c q => kn (I.freeC x c q), fun p hp => ?_, fun b x q => ?_, I.len⟩⟩
  · obtain ⟨more, z⟩ := I.base.tbls b ps q
    exact ⟨more, kb z (fun w => w)⟩
  · obtain ⟨z1, z2, z3⟩ := I.pin p hp
    exact ⟨z1, kn z2, z3⟩
  · by_cases hb : b = a
    · subst hb
      rw [upd_same] at q
      cases q
      exact ⟨e, stay (I.hok b u h)⟩
    · rw [upd_ne hb] at q
      exact stay (I.hok b x q)

/-! ### names, constants -/
def mVar (i : Nat) : ME := fun env => match env[i]? with
  | some (some r) => if r.own = true then .ok (.vr i) env else .ok r env
  | _ => .st
theorem de_var (i : Nat) {x : Str} (hN : X.N[i]? = some x := by rfl) (hv : Vis X.env.scope x := by first | exact Or.inl rfl | exact Or.inr (Or.inl rfl) | exact Or.inr (Or.inr rfl)) (hd : (x == ("__debug__" : Str)) = false := by decide)
    (hcd : (x == ("__classdict__" : Str)) = false := by decide) : DE X W OW (.Name x pos) (mVar i) := by
  refine pe_le (pe_var hN hv hd hcd) fun σ H Q ⟨H0, P, env, L, Rl, S⟩ => ?_
  unfold mVar at S
  cases q : env[i]? with
  | none => rw [q] at S; exact S.elim
  | some o =>
    cases o with
    | none => rw [q] at S; exact S.elim
    | some r =>
      rw [q] at S
      obtain ⟨v, e1, rr⟩ := Rl.slot i r q
      dsimp only at S
      by_cases ho : r.own = true
      · rw [if_pos ho] at S
        exact ⟨v, e1, S v H (Rl.put (r := .vr i) ⟨e1, r, q⟩ rfl fun j z => by cases z; exact Rl.ow i r q ho)⟩
      · rw [if_neg ho] at S
        exact ⟨v, e1, S v H (Rl.put (RP.of rr) (by simpa using ho) fun j z => by subst z; exact False.elim rr)⟩
def mC (d : D) : ME := fun env => .ok (.d d) env
theorem de_c {v : V} {d : D} (h : PE X e (tC v)) (r : ∀ H, RD H v d) : DE X W OW e (mC d) := pe_le h fun σ H Q ⟨H0, P, env, L, Rl, S⟩ => S v H (Rl.put (r := .d d) (r H) rfl)
theorem de_int {i : Int} {j} : DE X W OW (.Constant (.int i) j pos) (mC (.int i)) := de_c pe_int fun _ => .int i
theorem de_str {x : Str} {j} : DE X W OW (.Constant (.str x) j pos) (mC (.str x)) := de_c pe_str fun _ => .str x
theorem de_bl {b : Bool} {j} : DE X W OW (.Constant (.bool b) j pos) (mC (.bool b)) := de_c pe_bl fun _ => .bl b
theorem de_non {j} : DE X W OW (.Constant .none j pos) (mC .none) := de_c pe_non fun _ => .non
/-- a module's constant -/
theorem de_gI {x : Str} {i : Int} {t : Tok} (hm : X.mg x = some (.int i t)) (hg : Gl X x := by rfl) (hd : (x == ("__debug__" : Str)) = false := by decide) : DE X W OW (.Name x pos) (mC (.int i)) := de_c (v := .int i) (pe_glob hg hm ⟨t, rfl⟩ hd) fun _ => .int i
theorem de_gS {x y : Str} {t : Tok} (hm : X.mg x = some (.str y t)) (hg : Gl X x := by rfl) (hd : (x == ("__debug__" : Str)) = false := by decide) : DE X W OW (.Name x pos) (mC (.str y)) := de_c (v := .str y) (pe_glob hg hm ⟨t, rfl⟩ hd) fun _ => .str y

/-! ### own things told as data: frozen -/
def keyD (k : List Key) : D := .tuple (k.map kD)
/-- what an own thing is told as -/
def R.froz : R → Option D
  | .ol xs => some (.list xs)
  | .oK kvs => some (.dict (kvs.map fun p => (kD p.1, p.2)))
  | .oT kvs => some (.dict (kvs.map fun p => (keyD p.1, p.2)))
  | _ => none
def mFrz (m : ME) : ME := fun env => (m env).bind fun r e => match r with
  | .vr i => match e[i]? with
    | some (some r') => match r'.froz with
      | some d => .ok (.d d) (e.set i (some (.d d)))
      | none => .st
    | _ => .st
  | .d x => .ok (.d x) e
  | .kl _ => .st
  | .pl _ => .st
  | r => match r.froz with
    | some d => .ok (.d d) e
    | none => .st
theorem RDK.rdk {H : Hp} : ∀ {l : List (Key × V)} {m : List (Key × D)}, RDK H l m → RDk H l (m.map fun p => (kD p.1, p.2))
  | _, _, .nil => .nil
  | (k, v) :: l, (k', d) :: m, .cons r t => by
    obtain ⟨e, r⟩ := r
    have e' : k = k' := e
    subst e'
    exact .cons r (RDK.rdk t)
theorem RDT.rdt {H : Hp} : ∀ {l : List (List Key × V)} {m : List (List Key × D)}, RDT H l m → RDt H l (m.map fun p => (keyD p.1, p.2))
  | _, _, .nil => .nil
  | (k, v) :: l, (k', d) :: m, .cons r t => by
    obtain ⟨e, r⟩ := r
    have e' : k = k' := e
    subst e'
    exact .cons r (RDT.rdt t)
theorem RR.froz {K : PySem.W.Frag} {H : Hp} {v : V} {r : R} {d : D} (h : RR K H v r) (e : r.froz = some d) : ∃ a u, v = .ref a ∧ H a = some u ∧ Wr u ∧ r.own = true ∧ ∀ o, RD (upd H a (.frz o u)) (.ref a) d := by
  cases r with
  | ol xs =>
    obtain ⟨a, vs, e1, e2, rr⟩ := h
    cases e
    exact ⟨a, _, e1, e2, trivial, rfl, fun o => .lst upd_same (rr.kp (Kp.write e2 trivial))⟩
  | oK kvs =>
    obtain ⟨a, vs, e1, e2, rr⟩ := h
    cases e
    exact ⟨a, _, e1, e2, trivial, rfl, fun o => .dK upd_same (RDK.rdk (rr.kp (Kp.write e2 trivial)))⟩
  | oT kvs =>
    obtain ⟨a, vs, e1, e2, rr⟩ := h
    cases e
    exact ⟨a, _, e1, e2, trivial, rfl, fun o => .dT upd_same (RDT.rdt (rr.kp (Kp.write e2 trivial)))⟩
  | _ => cases e
/-- a slot's own thing is frozen where it stands -/
theorem Rel.freeze {K : PySem.W.Frag} {OW : Nat → Bool} {H0 H : Hp} {P : List (Option Addr)} {env : En} {σ : L2.St} {L : Pe} {i : Nat} {v : V} {r : R} {d : D} (R1 : Rel K OW H0 P env σ H L) (e : env[i]? = some (some r)) (hv : σ[i]? = some (some v)) (hf : r.froz = some d) :
    ∃ a u, v = .ref a ∧ H a = some u ∧ Wr u ∧ ∀ o, Rel K OW H0 P (env.set i (some (.d d))) σ (upd H a (.frz o u)) ((v, .d d) :: L) := by
  obtain ⟨v', e1, rr⟩ := R1.slot i r e
  rw [hv] at e1; cases e1
  obtain ⟨a, u, rfl, eh, wr, ow, rd⟩ := rr.froz hf
  have np : notPl env[i]? = true := by
    rw [e]
    cases r <;> first | rfl | cases hf
  refine ⟨a, u, rfl, eh, wr, fun o => ?_⟩
  have k : Kp H (upd H a (.frz o u)) := Kp.write eh wr
  have rd' : RR K (upd H a (.frz o u)) (.ref a) (.d d) := rd o
  have hi : i < env.length := (List.getElem?_eq_some_iff.mp e).1
  have g : ∀ {j : Nat} {r1 : R}, (env.set i (some (R.d d)))[j]? = some (some r1) → (j = i ∧ r1 = .d d) ∨ (j ≠ i ∧ env[j]? = some (some r1)) := fun {j r1} q => by
    rcases get_set q with ⟨z, y⟩ | ⟨z, y⟩
    · exact .inl ⟨z, Option.some.inj y⟩
    · exact .inr ⟨z, y⟩
  have ne : ∀ b o, H0 b = some o → some b ∉ P → b ≠ a := fun b o q n z => by
    subst z
    rcases R1.newS i r b e ow hv with ⟨q', _⟩ | q'
    · rw [q] at q'; cases q'
    · exact n (List.mem_iff_getElem?.mpr ⟨i, q'⟩)
  have nd : (R.d d).own = false := rfl
  refine ⟨by rw [List.length_set]; exact R1.len, fun j r1 q => ?_, fun p m => ?_, fun j l r1 r2 w q1 q2 o1 o2 => ?_, fun j r1 w p q1 o1 c1 d1 e1 => ?_, List.pairwise_cons.mpr ⟨fun q _ z => ?_, R1.sepL⟩, fun b o q n => ?_, fun j r1 b q1 o1 => ?_, fun p m o1 => ?_, fun j b q1 => ?_, fun j r1 q1 o1 => ?_, fun p m j z => ?_⟩
  · rcases g q with ⟨rfl, rfl⟩ | ⟨nj, q⟩
    · exact ⟨_, hv, rd'⟩
    · obtain ⟨w1, e1, e2⟩ := R1.slot j r1 q
      refine ⟨w1, e1, e2.keep k fun oj b ub eb hb => ?_⟩
      subst eb
      have nb : b ≠ a := fun z => by
        subst z
        exact nj (R1.sepS j i r1 r (.ref b) q e oj ow e1 hv)
      rw [upd_ne nb]; exact hb
  · rcases List.mem_cons.mp m with rfl | m1
    · exact RP.of rd'
    · have q := R1.pend p m1
      obtain ⟨pv, pr⟩ := p
      by_cases hvr : ∃ j, pr = .vr j
      · obtain ⟨j, rfl⟩ := hvr
        obtain ⟨q1, r1, q2⟩ := q
        by_cases nj : j = i
        · subst nj
          exact ⟨q1, .d d, by rw [List.getElem?_set_self hi]⟩
        · exact ⟨q1, r1, by rw [List.getElem?_set_ne (Ne.symm nj)]; exact q2⟩
      · refine RP.of ((q.rr fun j z => hvr ⟨j, z⟩).keep k fun oj b ub eb hb => ?_)
        have eb' : pv = .ref b := eb
        subst eb'
        have nb : b ≠ a := fun z => by
          subst z
          exact R1.sepP i r (.ref b) (.ref b, pr) e ow hv m1 oj rfl
        rw [upd_ne nb]; exact hb
  · rcases g q1 with ⟨rfl, rfl⟩ | ⟨_, q1⟩
    · cases o1
    · rcases g q2 with ⟨rfl, rfl⟩ | ⟨_, q2⟩
      · cases o2
      · exact R1.sepS j l r1 r2 w q1 q2 o1 o2
  · rcases List.mem_cons.mp d1 with rfl | d1
    · cases e1
    · rcases g q1 with ⟨rfl, rfl⟩ | ⟨_, q1⟩
      · cases o1
      · exact R1.sepP j r1 w p q1 o1 c1 d1 e1
  · cases z
  · rw [upd_ne (ne b o q n)]; exact R1.keep b o q n
  · rcases g q1 with ⟨rfl, rfl⟩ | ⟨_, q1⟩
    · cases o1
    · exact R1.newS j r1 b q1 o1
  · rcases List.mem_cons.mp m with rfl | m
    · cases o1
    · exact R1.newL p m o1
  · obtain ⟨z1, ds, z2⟩ := R1.par j b q1
    have nj : j ≠ i := fun z => by
      subst z
      rw [z2] at np; cases np
    exact ⟨z1, ds, by rw [List.getElem?_set_ne (Ne.symm nj)]; exact z2⟩
  · rcases g q1 with ⟨rfl, rfl⟩ | ⟨_, q1⟩
    · cases o1
    · exact R1.ow j r1 q1 o1
  · rcases List.mem_cons.mp m with rfl | m
    · cases z
    · exact R1.vo p m j z
theorem de_frz (h : DE X W OW e m) : DE X W OW e (mFrz m) := by
  refine ⟨fun pins s σ H Q I ⟨H0, P, env, L, Rl, S⟩ => ?_⟩
  refine thn (h.run pins s σ H (fun v H1 => ∃ r e1, Rel X.K OW H0 P e1 σ H1 ((v, r) :: L) ∧ _) I ⟨H0, P, env, L, Rl, S.bind.mono fun r e1 _ S1 v H1 R1 => ⟨r, e1, R1, S1⟩⟩) fun u s1 ⟨v, H1, I1, rv, r, e1, R1, S1⟩ => ?_
  have fin : ∀ {x : R}, Sat (cy X W OW) H0 P σ L (.ok x e1) (okE (cy X W OW) H0 P σ L Q) → (r = x) → EP X pins σ Q u s1 := fun {x} q z => by
    subst z
    exact ⟨v, H1, I1, rv, q v H1 R1⟩
  cases r with
  | d x => exact fin S1 rfl
  | kl x => exact S1.elim
  | pl x => exact S1.elim
  | vr i =>
    obtain ⟨hv, r', hr⟩ := R1.pend _ List.mem_cons_self
    simp only [hr] at S1
    cases hf : r'.froz with
    | none => rw [hf] at S1; exact S1.elim
    | some d =>
      rw [hf] at S1
      obtain ⟨a, u', ea, eh, wr, go⟩ := R1.drop.freeze hr hv hf
      obtain ⟨o, I2⟩ := inv_freeze I1 eh wr
      exact ⟨v, _, I2, rv, S1 v _ (go o)⟩
  | ol x =>
    have rr : RR X.K H1 v (.ol x) := R1.pend (v, .ol x) List.mem_cons_self
    obtain ⟨a, u', ea, eh, wr, ow, go⟩ := rr.froz (d := .list x) rfl
    subst ea
    obtain ⟨o, I2⟩ := inv_freeze I1 eh wr
    exact ⟨.ref a, _, I2, rv, S1 _ _ (R1.changeP (r' := .d (.list x)) ow (go o))⟩
  | oK x =>
    have rr : RR X.K H1 v (.oK x) := R1.pend (v, .oK x) List.mem_cons_self
    obtain ⟨a, u', ea, eh, wr, ow, go⟩ := rr.froz (d := .dict (x.map fun p => (kD p.1, p.2))) rfl
    subst ea
    obtain ⟨o, I2⟩ := inv_freeze I1 eh wr
    exact ⟨.ref a, _, I2, rv, S1 _ _ (R1.changeP (r' := .d (.dict (x.map fun (p : Key × D) => (kD p.1, p.2)))) (u := .frz o u') ow (go o))⟩
  | oT x =>
    have rr : RR X.K H1 v (.oT x) := R1.pend (v, .oT x) List.mem_cons_self
    obtain ⟨a, u', ea, eh, wr, ow, go⟩ := rr.froz (d := .dict (x.map fun p => (keyD p.1, p.2))) rfl
    subst ea
    obtain ⟨o, I2⟩ := inv_freeze I1 eh wr
    exact ⟨.ref a, _, I2, rv, S1 _ _ (R1.changeP (r' := .d (.dict (x.map fun (p : List Key × D) => (keyD p.1, p.2)))) (u := .frz o u') ow (go o))⟩
end
end Pw

set_option Elab.async false
set_option linter.all false
set_option maxRecDepth 100000
set_option maxHeartbeats 2000000
/-! Pw: things looked at as data; argument lists, displays; operations by values. -/
namespace Pw
open PySem PySem.Spec PyProof.Rows L2

/-- what a slot's thing is as data (kl: lists that are read alone, too) -/
def R.dat0 (kl : Bool) : R → Option D
  | .d x => some x
  | .ol xs => some (.list xs)
  | .pl xs => some (.list xs)
  | .kl xs => if kl = true then some (.list xs) else none
  | .oK kvs => some (.dict (kvs.map fun p => (kD p.1, p.2)))
  | .oT kvs => some (.dict (kvs.map fun p => (keyD p.1, p.2)))
  | .vr _ => none
def R.dat (kl : Bool) (env : En) : R → Option D
  | .vr i => match env[i]? with
    | some (some r) => r.dat0 kl
    | _ => none
  | r => r.dat0 kl
def DV (K : PySem.W.Frag) (kl : Bool) (H : Hp) (v : V) : D → Prop
  | .none => v = .non
  | .bool b => v = .bl b
  | .int i => v = .int i
  | .str x => v = .str x
  | .list ds => ∃ a vs, v = .ref a ∧ (Rd H a (.lst vs) ∨ (kl = true ∧ KL K H a vs)) ∧ RDs H vs ds
  | .tuple ds => ∃ a vs, v = .ref a ∧ H a = some (.tup vs) ∧ RDs H vs ds
  | .dict ds => ∃ a, v = .ref a ∧ ((∃ ws m, Rd H a (.dK ws) ∧ RDK H ws m ∧ ds = m.map fun (p : Key × D) => (kD p.1, p.2)) ∨ ∃ ws m, Rd H a (.dT ws) ∧ RDT H ws m ∧ ds = m.map fun (p : List Key × D) => (keyD p.1, p.2))
def DVs (K : PySem.W.Frag) (kl : Bool) (H : Hp) : List V → List D → Prop := Paired (DV K kl H)
theorem RDk.ex {H : Hp} : ∀ {l : List (Key × V)} {ds : List (D × D)}, RDk H l ds → ∃ m, RDK H l m ∧ ds = m.map fun (p : Key × D) => (kD p.1, p.2)
  | _, _, .nil => ⟨[], .nil, rfl⟩
  | _, _, .cons (k := k) (d := d) r t => by
    obtain ⟨m, h, e⟩ := RDk.ex t
    exact ⟨(k, d) :: m, .cons ⟨rfl, r⟩ h, by rw [e] <;> rfl⟩
theorem RDt.ex {H : Hp} : ∀ {l : List (List Key × V)} {ds : List (D × D)}, RDt H l ds → ∃ m, RDT H l m ∧ ds = m.map fun (p : List Key × D) => (keyD p.1, p.2)
  | _, _, .nil => ⟨[], .nil, rfl⟩
  | _, _, .cons (k := k) (d := d) r t => by
    obtain ⟨m, h, e⟩ := RDt.ex t
    exact ⟨(k, d) :: m, .cons ⟨rfl, r⟩ h, by rw [e] <;> rfl⟩
section
variable {K : PySem.W.Frag} {OW : Nat → Bool} {kl : Bool} {H0 H H' : Hp} {P : List (Option Addr)} {env : En} {σ : L2.St} {L : Pe} {v : V} {r : R} {d : D}
theorem RD.dv (h : RD H v d) : DV K kl H v d := by
  cases h with
  | non => exact rfl
  | bl b => exact rfl
  | int i => exact rfl
  | str x => exact rfl
  | lst e r => exact ⟨_, _, rfl, .inl (.inr ⟨_, e⟩), r⟩
  | tup e r => exact ⟨_, _, rfl, e, r⟩
  | dK e r =>
    obtain ⟨m, h1, h2⟩ := r.ex
    exact ⟨_, rfl, .inl ⟨_, m, .inr ⟨_, e⟩, h1, h2⟩⟩
  | dT e r =>
    obtain ⟨m, h1, h2⟩ := r.ex
    exact ⟨_, rfl, .inr ⟨_, m, .inr ⟨_, e⟩, h1, h2⟩⟩
theorem RR.dv (h : RR K H v r) (e : r.dat0 kl = some d) : DV K kl H v d := by
  cases r with
  | d x => cases e; exact RD.dv h
  | ol x => cases e; obtain ⟨a, vs, e1, e2, e3⟩ := h; exact ⟨a, vs, e1, .inl (.inl e2), e3⟩
  | pl x => cases e; obtain ⟨a, vs, e1, e2, e3⟩ := h; exact ⟨a, vs, e1, .inl (.inl e2), e3⟩
  | oK x => cases e; obtain ⟨a, vs, e1, e2, e3⟩ := h; exact ⟨a, e1, .inl ⟨vs, x, .inl e2, e3, rfl⟩⟩
  | oT x => cases e; obtain ⟨a, vs, e1, e2, e3⟩ := h; exact ⟨a, e1, .inr ⟨vs, x, .inl e2, e3, rfl⟩⟩
  | vr i => cases e
  | kl x =>
    obtain ⟨a, vs, e1, e2, e3⟩ := h
    cases kl with
    | false => cases e
    | true => cases e; exact ⟨a, vs, e1, .inr ⟨rfl, e2⟩, e3⟩
theorem Rel.dv (R1 : Rel K OW H0 P env σ H L) (m : (v, r) ∈ L) (e : r.dat kl env = some d) : DV K kl H v d := by
  have q := R1.pend _ m
  by_cases hv : ∃ i, r = .vr i
  · obtain ⟨i, rfl⟩ := hv
    obtain ⟨q1, r', q2⟩ := q
    have e' : (match env[i]? with | some (some r) => r.dat0 kl | _ => none) = some d := e
    rw [q2] at e'
    obtain ⟨w, w1, w2⟩ := R1.slot i r' q2
    rw [q1] at w1; cases w1
    exact w2.dv e'
  · have q' := RP.rr q fun i z => hv ⟨i, z⟩
    have e' : r.dat0 kl = some d := by cases r <;> first | exact e | exact absurd ⟨_, rfl⟩ hv
    exact q'.dv e'
theorem DV.sq {ds : List D} (h : DV K kl H v (.list ds)) : ∃ a vs, v = .ref a ∧ SqL K H a vs ∧ RDs H vs ds := by
  obtain ⟨a, vs, e1, e2, e3⟩ := h
  refine ⟨a, vs, e1, ?_, e3⟩
  rcases e2 with e2 | ⟨_, e2⟩
  · exact .inl e2
  · exact e2.sq
theorem DV.rd {ds : List D} (h : DV K false H v (.list ds)) : ∃ a vs, v = .ref a ∧ Rd H a (.lst vs) ∧ RDs H vs ds := by
  obtain ⟨a, vs, e1, e2, e3⟩ := h
  refine ⟨a, vs, e1, ?_, e3⟩
  rcases e2 with e2 | ⟨z, _⟩
  · exact e2
  · cases z
/-- data that an own thing doesn't need (no list, no dict) -/
theorem Rd.same {H H' : Hp} {a : Addr} {u : HO} (s : Same H H') (h : Rd H a u) : Rd H' a u := by
  rcases h with h | ⟨o, h⟩
  · exact .inl (s _ _ h)
  · exact .inr ⟨o, s _ _ h⟩

/-! ### a value that has come -/
def Post (K : PySem.W.Frag) (H H' : Hp) (v : V) (r : R) : Prop := Same H H' ∧ RR K H' v r ∧ (r.own = true → ∃ a, v = .ref a ∧ H a = none) ∧ ∀ ds, r ≠ .pl ds
theorem Post.dat (h : RD H v d) : Post K H H v (.d d) := ⟨Same.refl H, h, fun z => (by cases z), fun _ z => by cases z⟩
theorem Post.dNew {a : Addr} {u : HO} (n : H a = none) (h : RD (upd H a u) v d) : Post K H (upd H a u) v (.d d) := ⟨fun b o e => by rw [upd_ne (ne_of_none e n)]; exact e, h, fun z => (by cases z), fun _ z => by cases z⟩
theorem Post.dSame (s : Same H H') (h : RD H' v d) : Post K H H' v (.d d) := ⟨s, h, fun z => (by cases z), fun _ z => by cases z⟩
theorem Post.olNew {a : Addr} {vs : List V} {ds : List D} (n : H a = none) (h : RDs H vs ds) : Post K H (upd H a (.lst vs)) (.ref a) (.ol ds) :=
  ⟨fun b o e => by rw [upd_ne (ne_of_none e n)]; exact e, ⟨a, vs, rfl, upd_same, h.kp (Kp.new n)⟩, fun _ => ⟨a, rfl, n⟩, fun _ z => by cases z⟩
theorem Post.tupNew {a : Addr} {vs : List V} {ds : List D} (n : H a = none) (h : RDs H vs ds) : Post K H (upd H a (.tup vs)) (.ref a) (.d (.tuple ds)) :=
  Post.dNew n (.tup upd_same (h.kp (Kp.new n)))
theorem Rel.post (R1 : Rel K OW H0 P env σ H L) (p : Post K H H' v r) : Rel K OW H0 P env σ H' ((v, r) :: L) := by
  obtain ⟨g, rr, hn, hp⟩ := p
  have R2 := R1.grow g
  by_cases ho : r.own = true
  · obtain ⟨a, ev, h⟩ := hn ho
    subst ev
    have nP := R1.noPar h
    refine ⟨R2.len, R2.slot, fun p m => ?_, R2.sepS, fun i r' w p x b c d e => ?_, List.pairwise_cons.mpr ⟨fun q m _ z e => ?_, R2.sepL⟩, R2.keep, R2.newS, fun p m o b e => ?_, R2.par, R2.ow, fun p m i z => ?_⟩
    · rcases List.mem_cons.mp m with rfl | m
      · exact RP.of rr
      · exact R2.pend p m
    · rcases List.mem_cons.mp d with rfl | d
      · obtain ⟨w', e1, e2⟩ := R1.slot i r' x
        rw [c] at e1; cases e1
        obtain ⟨b', u', e3, e4, _⟩ := e2.ownAt b
        subst e3
        intro z
        cases z
        rw [h] at e4; cases e4
      · exact R2.sepP i r' w p x b c d e
    · obtain ⟨b', u', e3, e4, _⟩ := (R1.pend q m).ownAt z
      have e' : V.ref a = q.1 := e
      rw [e3] at e'; cases e'
      rw [h] at e4; cases e4
    · rcases List.mem_cons.mp m with rfl | m
      · cases e
        exact ⟨R1.none0 h nP, nP⟩
      · exact R2.newL p m o b e
    · rcases List.mem_cons.mp m with rfl | m
      · have z' : r = .vr i := z
        subst z'
        exact False.elim rr
      · exact R2.vo p m i z
  · exact R2.put (RP.of rr) (by simpa using ho) fun i z => by subst z; exact False.elim rr
end

/-! ### argument lists -/
def mANil : MA := fun e => .ok [] e
def mACons (m : ME) (ma : MA) : MA := fun env => (m env).bind fun r e1 => (ma e1).bind fun rs e2 => .ok (r :: rs) e2
def allD : List R → Option (List D)
  | [] => some []
  | .d x :: rs => (allD rs).map fun ds => x :: ds
  | _ :: _ => none
def datL (kl : Bool) (env : En) : List R → Option (List D)
  | [] => some []
  | r :: rs => match r.dat kl env, datL kl env rs with
    | some d, some ds => some (d :: ds)
    | _, _ => none
section
variable {X : Cx} {W : WX} {OW : Nat → Bool} {e : Expr} {es : List Expr} {m : ME} {ma : MA} {pos : Pos}
theorem da_nil : DA X W OW [] mANil := pa_le pa_nil fun σ H Q ⟨H0, P, env, L, Rl, S⟩ => S [] H rfl Rl
theorem da_cons (h : DE X W OW e m) (ha : DA X W OW es ma) (hs : starEach (e :: es) X.env = (false, eval e X.env) :: starEach es X.env := by rfl) : DA X W OW (e :: es) (mACons m ma) := by
  refine pa_le (pa_cons h ha hs) fun σ H Q ⟨H0, P, env, L, Rl, S⟩ => ?_
  refine ⟨H0, P, env, L, Rl, (Sat.bind S).mono fun r e1 _ S1 v H1 R1 => ⟨H0, P, e1, (v, r) :: L, R1, ?_⟩⟩
  refine ((Sat.bind S1).wait fun _ _ q => q.drop).mono fun rs e2 _ S2 vs H2 hl R2 => ?_
  refine S2 (v :: vs) H2 (by rw [List.length_cons, List.length_cons, hl]) (R2.perm ?_)
  show (v, r) :: (vs.zip rs ++ L) |>.Perm (vs.zip rs ++ (v, r) :: L)
  exact List.perm_middle.symm
end
section
variable {K : PySem.W.Frag} {OW : Nat → Bool} {kl : Bool} {H0 H H' : Hp} {P : List (Option Addr)} {env : En} {σ : L2.St} {L : Pe}
theorem Rel.allD (R1 : Rel K OW H0 P env σ H L) : ∀ {vs : List V} {rs : List R} {ds : List D}, vs.length = rs.length → (∀ p ∈ vs.zip rs, p ∈ L) → Pw.allD rs = some ds → RDs H vs ds
  | [], [], _, _, _, e => by cases e; exact .nil
  | v :: vs, r :: rs, ds, hl, hm, e => by
    cases r with
    | d x =>
      have e' : (Pw.allD rs).map (fun ds => x :: ds) = some ds := e
      obtain ⟨es, h1, h2⟩ := Option.map_eq_some_iff.mp e'
      subst h2
      have rr : RD H v x := R1.pend (v, .d x) (hm _ List.mem_cons_self)
      exact .cons rr (R1.allD (by simpa using hl) (fun p q => hm p (List.mem_cons_of_mem _ q)) h1)
    | _ => cases e
  | [], _ :: _, _, hl, _, _ => by cases hl
  | _ :: _, [], _, hl, _, _ => by cases hl
theorem Rel.datL (R1 : Rel K OW H0 P env σ H L) : ∀ {vs : List V} {rs : List R} {ds : List D}, vs.length = rs.length → (∀ p ∈ vs.zip rs, p ∈ L) → Pw.datL kl env rs = some ds → DVs K kl H vs ds
  | [], [], _, _, _, e => by cases e; exact .nil
  | v :: vs, r :: rs, ds, hl, hm, e => by
    unfold Pw.datL at e
    cases h1 : r.dat kl env with
    | none => rw [h1] at e; cases e
    | some d =>
      cases h2 : Pw.datL kl env rs with
      | none => rw [h1, h2] at e; cases e
      | some es =>
        rw [h1, h2] at e
        cases e
        exact .cons (R1.dv (hm _ List.mem_cons_self) h1) (R1.datL (by simpa using hl) (fun p q => hm p (List.mem_cons_of_mem _ q)) h2)
  | [], _ :: _, _, hl, _, _ => by cases hl
  | _ :: _, [], _, hl, _, _ => by cases hl
theorem Rel.dropZ {vs : List V} {rs : List R} (R1 : Rel K OW H0 P env σ H (vs.zip rs ++ L)) : Rel K OW H0 P env σ H L := R1.sub (List.sublist_append_right _ _)
end

/-! ### displays -/
def mTup (ma : MA) : ME := fun env => (ma env).bind fun rs e => match allD rs with
  | some ds => if ds.length ≤ 16777216 then .ok (.d (.tuple ds)) e else .st
  | none => .st
def mLst (ma : MA) : ME := fun env => (ma env).bind fun rs e => match allD rs with
  | some ds => if ds.length ≤ 16777216 then .ok (.ol ds) e else .st
  | none => .st
theorem line_eq : (16777216 : Nat) = sizeLine := sizeLine_eq.symm
section
variable {X : Cx} {W : WX} {OW : Nat → Bool} {es : List Expr} {ma : MA} {pos : Pos}
theorem de_tup {x1} (h : DA X W OW es ma) : DE X W OW (.Tuple es x1 pos) (mTup ma) := by
  refine pe_le (pe_tup h) fun σ H Q ⟨H0, P, env, L, Rl, S⟩ => ?_
  refine ⟨H0, P, env, L, Rl, (Sat.bind S).mono fun rs e _ S1 vs H1 hl R1 => ?_⟩
  cases hd : allD rs with
  | none => simp only [hd] at S1; exact S1.elim
  | some ds =>
    simp only [hd] at S1
    by_cases hz : ds.length ≤ 16777216
    · rw [if_pos hz] at S1
      have rr := R1.allD hl (fun p m => List.mem_append_left _ m) hd
      refine ⟨by rw [rr.length, ← line_eq]; exact hz, fun p hp => S1 _ _ (R1.dropZ.post (Post.tupNew hp rr))⟩
    · rw [if_neg hz] at S1; exact S1.elim
theorem de_lst (h : DA X W OW es ma) : DE X W OW (.List es pos) (mLst ma) := by
  refine pe_le (pe_lst h) fun σ H Q ⟨H0, P, env, L, Rl, S⟩ => ?_
  refine ⟨H0, P, env, L, Rl, (Sat.bind S).mono fun rs e _ S1 vs H1 hl R1 => ?_⟩
  cases hd : allD rs with
  | none => simp only [hd] at S1; exact S1.elim
  | some ds =>
    simp only [hd] at S1
    by_cases hz : ds.length ≤ 16777216
    · rw [if_pos hz] at S1
      have rr := R1.allD hl (fun p m => List.mem_append_left _ m) hd
      refine ⟨by rw [rr.length, ← line_eq]; exact hz, fun p hp => S1 _ _ (R1.dropZ.post (Post.olNew hp rr))⟩
    · rw [if_neg hz] at S1; exact S1.elim
end

/-! ### operations by values -/
/-- two things looked at as data, and what comes -/
def m2 (kl : Bool) (g : D → D → Option R) (ma mb : ME) : ME := fun env => (ma env).bind fun r1 e1 => (mb e1).bind fun r2 e2 => match r1.dat kl e2, r2.dat kl e2 with
  | some x, some y => match g x y with
    | some r => .ok r e2
    | none => .st
  | _, _ => .st
def m1 (kl : Bool) (g : D → Option R) (ma : ME) : ME := fun env => (ma env).bind fun r1 e1 => match r1.dat kl e1 with
  | some x => match g x with
    | some r => .ok r e1
    | none => .st
  | none => .st
def mN (kl : Bool) (g : List D → Option R) (ma : MA) : ME := fun env => (ma env).bind fun rs e1 => match datL kl e1 rs with
  | some xs => match g xs with
    | some r => .ok r e1
    | none => .st
  | none => .st
def Op2 (K : PySem.W.Frag) (kl : Bool) (r : R2) (g : D → D → Option R) : Prop := ∀ (H : Hp) (v1 v2 : V) (x y : D) (res : R) (Q : VK), DV K kl H v1 x → DV K kl H v2 y → g x y = some res → (∀ v H', Post K H H' v res → Q v H') → r v1 v2 H Q
def Op1 (K : PySem.W.Frag) (kl : Bool) (r : V → Hp → VK → Prop) (g : D → Option R) : Prop := ∀ (H : Hp) (v1 : V) (x : D) (res : R) (Q : VK), DV K kl H v1 x → g x = some res → (∀ v H', Post K H H' v res → Q v H') → r v1 H Q
def OpN (K : PySem.W.Frag) (kl : Bool) (r : List V → Hp → VK → Prop) (g : List D → Option R) : Prop := ∀ (H : Hp) (vs : List V) (xs : List D) (res : R) (Q : VK), DVs K kl H vs xs → g xs = some res → (∀ v H', Post K H H' v res → Q v H') → r vs H Q
section
variable {X : Cx} {W : WX} {OW : Nat → Bool} {kl : Bool} {a b c : Expr} {es : List Expr} {m ma mb : ME} {mas : MA} {pos : Pos} {g : D → D → Option R} {g1 : D → Option R} {gN : List D → Option R} {r : R2} {r1 : V → Hp → VK → Prop} {rN : List V → Hp → VK → Prop}
theorem op2_le (hg : Op2 X.K kl r g) {σ : L2.St} {H : Hp} {Q : VK} (h : tD (cy X W OW) (m2 kl g ma mb) σ H Q) : tOp r (tD (cy X W OW) ma) (tD (cy X W OW) mb) σ H Q := by
  obtain ⟨H0, P, env, L, Rl, S⟩ := h
  refine ⟨H0, P, env, L, Rl, (Sat.bind S).mono fun r1 e1 _ S1 v H1 R1 => ⟨H0, P, e1, (v, r1) :: L, R1, ?_⟩⟩
  refine ((Sat.bind S1).wait fun _ _ q => q.drop).mono fun r2 e2 _ S2 u H2 R2 => ?_
  cases h1 : r1.dat kl e2 with
  | none => simp only [h1] at S2; exact S2.elim
  | some x =>
    cases h2 : r2.dat kl e2 with
    | none => simp only [h1, h2] at S2; exact S2.elim
    | some y =>
      simp only [h1, h2] at S2
      cases h3 : g x y with
      | none => simp only [h3] at S2; exact S2.elim
      | some res =>
        simp only [h3] at S2
        exact hg H2 v u x y res Q (R2.dv (List.mem_cons_of_mem _ List.mem_cons_self) h1) (R2.dv List.mem_cons_self h2) h3 fun w H' p => S2 w H' (R2.drop.drop.post p)
theorem op1_le (hg : Op1 X.K kl r1 g1) {σ : L2.St} {H : Hp} {Q : VK} (h : tD (cy X W OW) (m1 kl g1 ma) σ H Q) : tUn r1 (tD (cy X W OW) ma) σ H Q := by
  obtain ⟨H0, P, env, L, Rl, S⟩ := h
  refine ⟨H0, P, env, L, Rl, (Sat.bind S).mono fun r1 e1 _ S1 v H1 R1 => ?_⟩
  cases h1 : r1.dat kl e1 with
  | none => simp only [h1] at S1; exact S1.elim
  | some x =>
    simp only [h1] at S1
    cases h3 : g1 x with
    | none => simp only [h3] at S1; exact S1.elim
    | some res =>
      simp only [h3] at S1
      exact hg H1 v x res Q (R1.dv List.mem_cons_self h1) h3 fun w H' p => S1 w H' (R1.drop.post p)
theorem opN_le (hg : OpN X.K kl rN gN) {σ : L2.St} {H : Hp} {Q : VK} (h : tD (cy X W OW) (mN kl gN mas) σ H Q) : tCB rN (tA (cy X W OW) mas) σ H Q := by
  obtain ⟨H0, P, env, L, Rl, S⟩ := h
  refine ⟨H0, P, env, L, Rl, (Sat.bind S).mono fun rs e1 _ S1 vs H1 hl R1 => ?_⟩
  cases h1 : datL kl e1 rs with
  | none => simp only [h1] at S1; exact S1.elim
  | some xs =>
    simp only [h1] at S1
    cases h3 : gN xs with
    | none => simp only [h3] at S1; exact S1.elim
    | some res =>
      simp only [h3] at S1
      exact hg H1 vs xs res Q (R1.datL hl (fun p m => List.mem_append_left _ m) h1) h3 fun w H' p => S1 w H' (R1.dropZ.post p)
theorem de_op2 {op : Operator} (ho : OpR X (binaryOp op) r) (hg : Op2 X.K kl r g) (ha : DE X W OW a ma) (hb : DE X W OW b mb) : DE X W OW (.BinOp a op b pos) (m2 kl g ma mb) := pe_le (pe_op ho ha hb) fun _ _ _ h => op2_le hg h
theorem de_un {op : UnaryOp} (ho : UnR X (unaryOp op) r1) (hg : Op1 X.K kl r1 g1) (ha : DE X W OW a ma) : DE X W OW (.UnaryOp op a pos) (m1 kl g1 ma) := pe_le (pe_un ho ha) fun _ _ _ h => op1_le hg h
theorem de_cmpR {op : CmpOp} (ho : OpR X (compareOp op) r) (hg : Op2 X.K kl r g) (ha : DE X W OW a ma) (hb : DE X W OW b mb) (hm : behindInMarks op b = false) : DE X W OW (.Compare a [op] [b] pos) (m2 kl g ma mb) := pe_le (pe_cmpR ho ha hb hm) fun _ _ _ h => op2_le hg h
theorem de_ixR (ho : IxR X r) (hg : Op2 X.K kl r g) (ha : DE X W OW a ma) (hb : DE X W OW b mb) (hs : PlainIx b) : DE X W OW (.Subscript a b pos) (m2 kl g ma mb) := pe_le (pe_ix ho ha hb hs) fun _ _ _ h => op2_le hg h
end
end Pw

set_option Elab.async false
set_option linter.all false
set_option maxRecDepth 100000
set_option maxHeartbeats 2000000
/-! Pw: arithmetic, comparisons, places, cuts: what they give on data. -/
namespace Pw
open PySem PySem.Spec PyProof.Rows L2

/-! ### data without dicts, so deep at most -/
mutual
def okD : Nat → D → Bool
  | _, .none => true
  | _, .bool _ => true
  | _, .int _ => true
  | _, .str x => PyData.strOk x
  | 0, .list _ => false
  | 0, .tuple _ => false
  | n + 1, .list xs => okDs n xs
  | n + 1, .tuple xs => okDs n xs
  | _, .dict _ => false
def okDs : Nat → List D → Bool
  | _, [] => true
  | n, x :: xs => okD n x && okDs n xs
end
mutual
theorem okD_lay : ∀ (n : Nat) (d : D), okD n d = true → d.canLay0 = true ∧ d.depth ≤ n
  | _, .none, _ => ⟨by simp [PyData.canLay0], by simp [PyData.depth]⟩
  | _, .bool _, _ => ⟨by simp [PyData.canLay0], by simp [PyData.depth]⟩
  | _, .int _, _ => ⟨by simp [PyData.canLay0], by simp [PyData.depth]⟩
  | _, .str x, h => ⟨by simpa [okD, PyData.canLay0] using h, by simp [PyData.depth]⟩
  | 0, .list _, h => by simp [okD] at h
  | 0, .tuple _, h => by simp [okD] at h
  | n + 1, .list xs, h => by
    obtain ⟨h1, h2⟩ := okDs_lay n xs (by simpa [okD] using h)
    exact ⟨by simpa [PyData.canLay0] using h1, by simp only [PyData.depth]; omega⟩
  | n + 1, .tuple xs, h => by
    obtain ⟨h1, h2⟩ := okDs_lay n xs (by simpa [okD] using h)
    exact ⟨by simpa [PyData.canLay0] using h1, by simp only [PyData.depth]; omega⟩
  | 0, .dict _, h => by simp [okD] at h
  | _ + 1, .dict _, h => by simp [okD] at h
theorem okDs_lay : ∀ (n : Nat) (ds : List D), okDs n ds = true → PyData.canLayAll0 ds = true ∧ PyData.depthAll ds ≤ n
  | _, [], _ => ⟨by simp [PyData.canLayAll0], by simp [PyData.depthAll]⟩
  | n, x :: xs, h => by
    have h' : okD n x = true ∧ okDs n xs = true := by simpa [okDs] using h
    obtain ⟨a1, a2⟩ := okD_lay n x h'.1
    obtain ⟨b1, b2⟩ := okDs_lay n xs h'.2
    refine ⟨by simp only [PyData.canLayAll0, a1, b1, Bool.and_self], ?_⟩
    simp only [PyData.depthAll]
    omega
end
theorem okD_shaped {d : D} (h : okD 40 d = true) : SeqAt.shaped d = true := by
  obtain ⟨h1, h2⟩ := okD_lay 40 d h
  unfold SeqAt.shaped
  rw [h1, Bool.true_and]
  exact decide_eq_true (by omega)
mutual
theorem okD_mono : ∀ {n m : Nat} {d : D}, n ≤ m → okD n d = true → okD m d = true
  | _, _, .none, _, _ => by simp [okD]
  | _, _, .bool _, _, _ => by simp [okD]
  | _, _, .int _, _, _ => by simp [okD]
  | _, _, .str x, _, h => by simpa [okD] using h
  | 0, _, .list _, _, h => by simp [okD] at h
  | 0, _, .tuple _, _, h => by simp [okD] at h
  | n + 1, 0, .list xs, l, _ => by omega
  | n + 1, 0, .tuple xs, l, _ => by omega
  | n + 1, m + 1, .list xs, l, h => by
    have := okDs_mono (n := n) (m := m) (ds := xs) (by omega) (by simpa [okD] using h)
    simpa [okD] using this
  | n + 1, m + 1, .tuple xs, l, h => by
    have := okDs_mono (n := n) (m := m) (ds := xs) (by omega) (by simpa [okD] using h)
    simpa [okD] using this
  | 0, _, .dict _, _, h => by simp [okD] at h
  | _ + 1, _, .dict _, _, h => by simp [okD] at h
theorem okDs_mono : ∀ {n m : Nat} {ds : List D}, n ≤ m → okDs n ds = true → okDs m ds = true
  | _, _, [], _, _ => by simp [okDs]
  | n, m, x :: xs, l, h => by
    have h' : okD n x = true ∧ okDs n xs = true := by simpa [okDs] using h
    simp [okDs, okD_mono l h'.1, okDs_mono l h'.2]
end
theorem okDs_all {n : Nat} : ∀ {ds : List D}, okDs n ds = true ↔ ∀ d ∈ ds, okD n d = true
  | [] => by simp [okDs]
  | x :: xs => by simp [okDs, okDs_all (ds := xs)]

mutual
theorem RD.dp {K : PySem.W.Frag} {H : Hp} : ∀ (n : Nat) {v : V} {d : D}, RD H v d → okD n d = true → Dp K H v d
  | _, _, _, .non, _ => .non
  | _, _, _, .bl b, _ => .bl b
  | _, _, _, .int i, _ => .int i
  | _, _, _, .str x, _ => .str x
  | 0, _, _, .lst h r, e => by simp [okD] at e
  | 0, _, _, .tup h r, e => by simp [okD] at e
  | n + 1, _, _, .lst h r, e => .lst (.inl (.inr ⟨_, h⟩)) (RDs.dp n r (by simpa [okD] using e))
  | n + 1, _, _, .tup h r, e => .tup (.inl (.inl h)) (RDs.dp n r (by simpa [okD] using e))
  | 0, _, _, .dK h r, e => by simp [okD] at e
  | _ + 1, _, _, .dK h r, e => by simp [okD] at e
  | 0, _, _, .dT h r, e => by simp [okD] at e
  | _ + 1, _, _, .dT h r, e => by simp [okD] at e
theorem RDs.dp {K : PySem.W.Frag} {H : Hp} : ∀ (n : Nat) {vs : List V} {ds : List D}, RDs H vs ds → okDs n ds = true → DpAll K H vs ds
  | _, _, _, .nil, _ => .nil
  | n, _, _, .cons (d := d) (ds := ds) r t, e => by
    have e' : okD n d = true ∧ okDs n ds = true := by simpa [okDs] using e
    exact .cons (RD.dp n r e'.1) (RDs.dp n t e'.2)
end
theorem DV.dp {K : PySem.W.Frag} {kl : Bool} {H : Hp} {v : V} {d : D} {n : Nat} (h : DV K kl H v d) (e : okD n d = true) : Dp K H v d := by
  cases d with
  | none => cases h; exact .non
  | bool b => cases h; exact .bl b
  | int i => cases h; exact .int i
  | str x => cases h; exact .str x
  | list ds =>
    obtain ⟨a, vs, rfl, sq, r⟩ := DV.sq h
    cases n with
    | zero => simp [okD] at e
    | succ n => exact .lst sq (r.dp n (by simpa [okD] using e))
  | tuple ds =>
    obtain ⟨a, vs, rfl, sq, r⟩ := h
    cases n with
    | zero => simp [okD] at e
    | succ n => exact .tup (.inl (.inl sq)) (r.dp n (by simpa [okD] using e))
  | dict ds => cases n <;> simp [okD] at e

/-! ### ints, sequences: + - * % // ** -/
def small64 (i : Int) : Bool := decide (-18446744073709551616 < i) && decide (i < 18446744073709551616)
def pAdd : D → D → Option R
  | .int i, .int j => some (.d (.int (i + j)))
  | .tuple xs, .tuple ys => if xs.length + ys.length ≤ 16777216 then some (.d (.tuple (xs ++ ys))) else none
  | .list xs, .list ys => if xs.length + ys.length ≤ 16777216 then some (.ol (xs ++ ys)) else none
  | _, _ => none
def pSub : D → D → Option R
  | .int i, .int j => some (.d (.int (i - j)))
  | _, _ => none
def pMul : D → D → Option R
  | .int i, .int j => if small64 i || small64 j then some (.d (.int (i * j))) else none
  | .list xs, .int k => if decide (-(2 ^ 63) ≤ k) && decide (k < 2 ^ 63) && decide (xs.length * k.toNat ≤ 16777216) then some (.ol (List.replicate k.toNat xs).flatten) else none
  | .tuple xs, .int k => if decide (2 ≤ k) && decide (k ≤ 1000) && decide (xs.length ≤ 1000) && !xs.isEmpty then some (.d (.tuple (List.replicate k.toNat xs).flatten)) else none
  | _, _ => none
def pMod : D → D → Option R
  | .int i, .int j => if 0 < j then some (.d (.int (i % j))) else none
  | _, _ => none
def pDiv : D → D → Option R
  | .int i, .int j => if decide (0 < j) && decide (j < 1073741824) then some (.d (.int (i / j))) else none
  | _, _ => none
def pPow : D → D → Option R
  | .int i, .int j => if decide (0 ≤ j) && decide (j ≤ 1000000) && decide (i.natAbs < 18446744073709551616) then some (.d (.int (i ^ j.toNat))) else none
  | _, _ => none
section
variable {X : Cx} {K : PySem.W.Frag} {kl : Bool}
theorem Inv.rdl {pins : List (Addr × Obj)} {σ : L2.St} {H : Hp} {s : Shared} {a : Addr} {xs : List V} (I : Inv X pins σ H s) (h : Rd H a (.lst xs)) :
    xs.length ≤ sizeLine ∧ ∃ (us : List Value) (k : Nat), Vals xs us ∧ us.length = xs.length ∧ s.heap.get? a = some { cls := .type "list", data := .seq us.toArray k } := by
  obtain ⟨z, us, k, r, e⟩ := h.ok I.hok
  exact ⟨z, us, k, r, r.length.symm, e⟩
def rCatR : R2 := fun x y H Q => ∃ l b xs zs, x = .ref l ∧ y = .ref b ∧ Rd H l (.lst xs) ∧ Rd H b (.lst zs) ∧ xs.length + zs.length ≤ sizeLine ∧ ∀ p, H p = none → Q (.ref p) (upd H p (.lst (xs ++ zs)))
theorem op_catR : OpR X (binaryOp .Add) rCatR := by
  intro pins s σ H x y v u Q I rx ry h
  obtain ⟨l, b, xs, zs, rfl, rfl, hl, hb, hz, q⟩ := h
  cases rx
  cases ry
  obtain ⟨z1, us, k1, r1, n1, e1⟩ := Inv.rdl I hl
  obtain ⟨z2, ws, k2, r2, n2, e2⟩ := Inv.rdl I hb
  refine PySem.P.add_list e1 e2 ?_ (by simp only [List.size_toArray, n1, n2]; exact hz)
  rw [show us.toArray ++ ws.toArray = (us ++ ws).toArray by simp]
  refine ⟨.ref _, _, I.lnew (t' := s.toks) (r1.append r2) (by simp only [List.length_append]; exact hz), rfl, q _ I.fresh⟩
def rAdd (K : PySem.W.Frag) : R2 := fun x y H Q => (∃ i j, x = .int i ∧ y = .int j ∧ Q (.int (i + j)) H) ∨ rCatA K x y H Q ∨ rCatR x y H Q
theorem o_add : OpR X (binaryOp .Add) (rAdd X.K) := OpR.or op_add (OpR.or op_catA op_catR)
theorem g_add : Op2 K false (rAdd K) pAdd := by
  intro H v1 v2 x y res Q h1 h2 e q
  cases x <;> cases y <;> first | (exfalso; cases e; done) | skip
  · cases h1; cases h2; cases e
    exact .inl ⟨_, _, rfl, rfl, q _ _ (Post.dat (.int _))⟩
  · rename_i xs ys
    simp only [pAdd] at e
    split at e
    · rename_i hz
      cases e
      obtain ⟨a, vs, rfl, ha, ra⟩ := DV.rd h1
      obtain ⟨b, ws, rfl, hb, rb⟩ := DV.rd h2
      exact .inr (.inr ⟨a, b, vs, ws, rfl, rfl, ha, hb, by rw [ra.length, rb.length, ← line_eq]; exact hz, fun p hp => q _ _ (Post.olNew hp (ra.append rb))⟩)
    · cases e
  · rename_i xs ys
    simp only [pAdd] at e
    split at e
    · rename_i hz
      cases e
      obtain ⟨a, vs, rfl, ha, ra⟩ := h1
      obtain ⟨b, ws, rfl, hb, rb⟩ := h2
      refine .inr (.inl ⟨a, b, vs, ws, rfl, rfl, .inl (.inl ha), .inl (.inl hb), by rw [ra.length, rb.length, ← line_eq]; exact hz, fun z => ?_, fun _ z => ?_, fun _ _ p hp => q _ _ (Post.tupNew hp (ra.append rb))⟩)
      · subst z
        cases ra
        exact q _ _ (Post.dat (.tup hb rb))
      · subst z
        cases rb
        rw [List.append_nil] at q
        exact q _ _ (Post.dat (.tup ha ra))
    · cases e
theorem g_sub : Op2 K kl (rI0 fun i j => .int (i - j)) pSub := by
  intro H v1 v2 x y res Q h1 h2 e q
  cases x <;> cases y <;> first | (exfalso; cases e; done) | skip
  cases h1; cases h2; cases e
  exact ⟨_, _, rfl, rfl, q _ _ (Post.dat (.int _))⟩
theorem small64_iff {i : Int} : small64 i = true → -(2 ^ 64) < i ∧ i < 2 ^ 64 := by
  intro h
  unfold small64 at h
  simp only [Bool.and_eq_true, decide_eq_true_eq] at h
  omega
def rRepR : R2 := fun x y H Q => ∃ l k xs, x = .ref l ∧ y = .int k ∧ Rd H l (.lst xs) ∧ -(2 ^ 63) ≤ k ∧ k < 2 ^ 63 ∧ xs.length * k.toNat ≤ sizeLine ∧ ∀ p, H p = none → Q (.ref p) (upd H p (.lst (List.replicate k.toNat xs).flatten))
theorem op_repR : OpR X (binaryOp .Mult) rRepR := by
  intro pins s σ H x y v u Q I rx ry h
  obtain ⟨l, k, xs, rfl, rfl, hl, lo, hi, hz, q⟩ := h
  cases rx
  obtain ⟨tk, rfl⟩ := ry
  obtain ⟨z1, us, n, r1, n1, e1⟩ := Inv.rdl I hl
  have sz : us.toArray.size * k.toNat ≤ sizeLine := by rw [List.size_toArray, n1]; exact hz
  have big : (sizeLine : Nat) ≤ (2 ^ 63 - 1) / 8 := by decide
  have f0 : ∀ j : Nat, List.foldl (fun x1 x2 => x1 ++ x2) #[] (List.replicate j us.toArray) = (List.replicate j us).flatten.toArray := fun j => by
    have z := foldl_rep us j []
    rwa [List.nil_append] at z
  have new : List.foldl (fun x1 x2 => x1 ++ x2) #[] (List.replicate (if us.toArray.isEmpty = true then 0 else k.toNat) us.toArray) = (List.replicate k.toNat us).flatten.toArray := by
    rw [f0]
    cases us with
    | nil => simp
    | cons a r' => rw [if_neg (by simp)]
  have fit : ¬ (!Builtin.List.listFitsIndex k) = true := by rw [fitsIndex_both lo hi]; exact Bool.false_ne_true
  have long : ¬ Builtin.List.listTooLong (us.toArray.size * k.toNat) = true := by rw [notLongL sz]; exact Bool.false_ne_true
  refine wpAny_binaryOp_repeat_ref (T := "list") (U := "int") (by decide) ⟨_, e1, rfl⟩ (fun s' => typeIs_int s' k tk) noFill_list_mul F.fills_int_mul F.slot_int_rmul repeat_list F.slot_int_index.lookup ?_
  refine call_meets F.slot_int_rmul (typeIs_int s k tk) F.entry_int_rmul (F.args_int_rmul_2 _ _) (int___rmul___int_list k tk l us.toArray n) ⟨e1, rfl, ⟨_, e1, rfl⟩, ?_⟩
  refine call_meets F.slot_list_mul ⟨_, e1, rfl⟩ F.entry_list_mul (F.args_list_mul_2 _ _) (AutoListH.list___mul___list_int_3 l us.toArray n k tk fit (by omega) long) ⟨e1, ?_⟩
  rw [new]
  exact ⟨.ref _, _, I.lnew (t' := s.toks) (r1.rep k.toNat) (by rw [PyProof.Rows.lm_len_rep_flat, Nat.mul_comm]; exact hz), rfl, q _ I.fresh⟩
def rMul (K : PySem.W.Frag) : R2 := fun x y H Q => (∃ i j, x = .int i ∧ y = .int j ∧ CMul i j ∧ Q (.int (i * j)) H) ∨ rRepR x y H Q ∨ rRepT K x y H Q
theorem o_mul : OpR X (binaryOp .Mult) (rMul X.K) := OpR.or op_mul (OpR.or op_repR op_repT)
theorem g_mul : Op2 K false (rMul K) pMul := by
  intro H v1 v2 x y res Q h1 h2 e q
  cases x <;> cases y <;> first | (exfalso; cases e; done) | skip
  · simp only [pMul] at e
    split at e
    · rename_i hz
      cases h1; cases h2; cases e
      refine .inl ⟨_, _, rfl, rfl, ?_, q _ _ (Post.dat (.int _))⟩
      rcases Bool.or_eq_true_iff.mp hz with hz | hz
      · exact .inl (small64_iff hz)
      · exact .inr (small64_iff hz)
    · cases e
  · simp only [pMul] at e
    split at e
    · rename_i hz
      cases e
      simp only [Bool.and_eq_true, decide_eq_true_eq] at hz
      obtain ⟨a, vs, rfl, ha, ra⟩ := DV.rd h1
      cases h2
      exact .inr (.inl ⟨a, _, vs, rfl, rfl, ha, hz.1.1, hz.1.2, by rw [ra.length, ← line_eq]; exact hz.2, fun p hp => q _ _ (Post.olNew hp (ra.rep _))⟩)
    · cases e
  · simp only [pMul] at e
    split at e
    · rename_i xs k hz
      cases e
      simp only [Bool.and_eq_true, decide_eq_true_eq] at hz
      obtain ⟨⟨⟨h3, h4⟩, h5⟩, h6⟩ := hz
      obtain ⟨a, vs, rfl, ha, ra⟩ := h1
      cases h2
      refine .inr (.inr ⟨a, k, vs, rfl, rfl, .inl (.inl ha), fun z => ?_, h3, h4, by rw [ra.length]; exact h5, fun p hp => q _ _ (Post.tupNew hp (ra.rep _))⟩)
      subst z
      cases ra
      cases h6
    · cases e
theorem g_mod : Op2 K kl (rI (fun _ j => 0 < j) fun i j => .int (i % j)) pMod := by
  intro H v1 v2 x y res Q h1 h2 e q
  cases x <;> cases y <;> first | (exfalso; cases e; done) | skip
  simp only [pMod] at e
  split at e
  · rename_i hz
    cases h1; cases h2; cases e
    exact ⟨_, _, rfl, rfl, hz, q _ _ (Post.dat (.int _))⟩
  · cases e
theorem g_div : Op2 K kl (rI CDiv fun i j => .int (i / j)) pDiv := by
  intro H v1 v2 x y res Q h1 h2 e q
  cases x <;> cases y <;> first | (exfalso; cases e; done) | skip
  simp only [pDiv] at e
  split at e
  · rename_i hz
    cases h1; cases h2; cases e
    simp only [Bool.and_eq_true, decide_eq_true_eq] at hz
    exact ⟨_, _, rfl, rfl, hz, q _ _ (Post.dat (.int _))⟩
  · cases e
theorem g_pow : Op2 K kl (rI CPow fun i j => .int (i ^ j.toNat)) pPow := by
  intro H v1 v2 x y res Q h1 h2 e q
  cases x <;> cases y <;> first | (exfalso; cases e; done) | skip
  simp only [pPow] at e
  split at e
  · rename_i hz
    cases h1; cases h2; cases e
    simp only [Bool.and_eq_true, decide_eq_true_eq] at hz
    exact ⟨_, _, rfl, rfl, ⟨hz.1.1, hz.1.2, hz.2⟩, q _ _ (Post.dat (.int _))⟩
  · cases e
def pNeg : D → Option R
  | .int i => some (.d (.int (-i)))
  | _ => none
theorem g_neg : Op1 K kl (rU fun i => .int (-i)) pNeg := by
  intro H v1 x res Q h1 e q
  cases x <;> first | (exfalso; cases e; done) | skip
  cases h1; cases e
  exact ⟨_, rfl, q _ _ (Post.dat (.int _))⟩

/-! ### comparisons -/
def bR (b : Bool) : R := .d (.bool b)
def pEq (x y : D) : Option R := if okD 40 x && okD 40 y then some (bR (PyData.eqv x y)) else none
def pNe (x y : D) : Option R := if okD 40 x && okD 40 y then some (bR (!PyData.eqv x y)) else none
def notNone : D → Bool
  | .none => false
  | _ => true
def pCmp (f : D → D → Bool) (x y : D) : Option R := if okD 40 x && okD 40 y && PySem.W.alike x y && notNone x then some (bR (f x y)) else none
def ltD : D → D → Bool
  | .int i, .int j => decide (i < j)
  | x, y => PySem.W.dataLt x y
theorem ltD_eq (x y : D) : ltD x y = PySem.W.dataLt x y := by
  cases x <;> cases y <;> first | rfl | skip
  exact (PySem.W.dataLt_int _ _).symm
abbrev pLt : D → D → Option R := pCmp ltD
abbrev pGt : D → D → Option R := pCmp fun x y => ltD y x
abbrev pLe : D → D → Option R := pCmp fun x y => !ltD y x
abbrev pGe : D → D → Option R := pCmp fun x y => !ltD x y
def rDat (K : PySem.W.Frag) (f : D → D → Option R) : R2 := fun x y H Q => ∃ d e b, Dp K H x d ∧ Dp K H y e ∧ f d e = some (bR b) ∧ Q (.bl b) H
theorem okD_room {A : Around} {x y : D} (h : okD 40 x = true) (hu : A.units + 64 < cLine) : A.units + min x.depth y.depth < cLine := by
  have := (okD_lay 40 x h).2
  omega
theorem notNone_ne {x : D} (h : notNone x = true) : x ≠ .none := fun z => by subst z; cases h
theorem o_dat {op : CmpOp} {f : D → D → Bool} {ok : D → D → Bool}
    (rule : ∀ (s : Shared) (a b : Value) (da db : D) (as bs : List Addr) (Q E : Value → Shared → Prop), Reads s.heap a da as → Reads s.heap b db bs → ok da db = true → Q (.bool (f da db)) s → wpAny (model X.prog X.w) X.A (compareOp op a b) Q E s) :
    OpR X (compareOp op) (rDat X.K fun x y => if ok x y = true then some (bR (f x y)) else none) := by
  intro pins s σ H x y v u Q I rx ry h
  obtain ⟨d, e, b, hd, he, hf, q⟩ := h
  obtain ⟨as, r1⟩ := Dp.reads I d x v hd rx
  obtain ⟨bs, r2⟩ := Dp.reads I e y u he ry
  replace hf : (if ok d e = true then some (bR (f d e)) else none) = some (bR b) := hf
  by_cases ho : ok d e = true
  · rw [if_pos ho] at hf
    have hb : f d e = b := by
      have z := Option.some.inj hf
      injection z with z
      injection z
    exact rule s v u d e as bs _ _ r1 r2 ho ⟨.bl (f d e), H, I, rfl, by rw [hb]; exact q⟩
  · rw [if_neg ho] at hf; cases hf
theorem g_dat {n : Nat} {f : D → D → Option R} (hok : ∀ x y r, f x y = some r → okD n x = true ∧ okD n y = true ∧ ∃ b, r = bR b) : Op2 K kl (rDat K f) f := by
  intro H v1 v2 x y res Q h1 h2 e q
  obtain ⟨o1, o2, b, rfl⟩ := hok x y res e
  exact ⟨x, y, b, DV.dp h1 o1, DV.dp h2 o2, e, q _ _ (Post.dat (.bl b))⟩
theorem o_eq (hu : X.A.units + 64 < cLine) : OpR X (compareOp .Eq) (rDat X.K pEq) := o_dat (ok := fun x y => okD 40 x && okD 40 y) fun s a b da db as bs Q E r1 r2 ho hq => by
  have h := Bool.and_eq_true_iff.mp ho
  exact SeqAt.compareEq_shaped r1 r2 (okD_shaped h.1) (okD_shaped h.2) hu hq
theorem o_ne (hu : X.A.units + 64 < cLine) : OpR X (compareOp .NotEq) (rDat X.K pNe) := o_dat (ok := fun x y => okD 40 x && okD 40 y) (f := fun x y => !PyData.eqv x y) fun s a b da db as bs Q E r1 r2 ho hq => by
  have h := Bool.and_eq_true_iff.mp ho
  exact SeqAt.compareNe_shaped r1 r2 (okD_shaped h.1) (okD_shaped h.2) hu hq
theorem ok4 {x y : D} (h : (okD 40 x && okD 40 y && PySem.W.alike x y && notNone x) = true) : okD 40 x = true ∧ okD 40 y = true ∧ PySem.W.alike x y = true ∧ x ≠ .none := by
  simp only [Bool.and_eq_true] at h
  exact ⟨h.1.1.1, h.1.1.2, h.1.2, notNone_ne h.2⟩
theorem o_lt (hu : X.A.units + 64 < cLine) : OpR X (compareOp .Lt) (rDat X.K pLt) := o_dat (f := ltD) (ok := fun x y => okD 40 x && okD 40 y && PySem.W.alike x y && notNone x) fun s a b da db as bs Q E r1 r2 ho hq => by
  obtain ⟨h1, h2, h3, h4⟩ := ok4 ho
  exact PySem.W.lt_data r1 r2 h3 h4 (okD_room h1 hu) (by rw [← ltD_eq]; exact hq)
theorem o_gt (hu : X.A.units + 64 < cLine) : OpR X (compareOp .Gt) (rDat X.K pGt) := o_dat (f := fun x y => ltD y x) (ok := fun x y => okD 40 x && okD 40 y && PySem.W.alike x y && notNone x) fun s a b da db as bs Q E r1 r2 ho hq => by
  obtain ⟨h1, h2, h3, h4⟩ := ok4 ho
  exact PySem.W.gt_data r1 r2 h3 h4 (okD_room h1 hu) (by rw [← ltD_eq]; exact hq)
theorem o_le (hu : X.A.units + 64 < cLine) : OpR X (compareOp .LtE) (rDat X.K pLe) := o_dat (f := fun x y => !ltD y x) (ok := fun x y => okD 40 x && okD 40 y && PySem.W.alike x y && notNone x) fun s a b da db as bs Q E r1 r2 ho hq => by
  obtain ⟨h1, h2, h3, h4⟩ := ok4 ho
  exact PySem.W.le_data r1 r2 h3 h4 (okD_room h1 hu) (by rw [← ltD_eq]; exact hq)
theorem o_ge (hu : X.A.units + 64 < cLine) : OpR X (compareOp .GtE) (rDat X.K pGe) := o_dat (f := fun x y => !ltD x y) (ok := fun x y => okD 40 x && okD 40 y && PySem.W.alike x y && notNone x) fun s a b da db as bs Q E r1 r2 ho hq => by
  obtain ⟨h1, h2, h3, h4⟩ := ok4 ho
  exact PySem.W.ge_data r1 r2 h3 h4 (okD_room h1 hu) (by rw [← ltD_eq]; exact hq)
theorem g_eq : Op2 K kl (rDat K pEq) pEq := g_dat (n := 40) fun x y r e => by
  unfold pEq at e
  split at e
  · rename_i h
    cases e
    exact ⟨(Bool.and_eq_true_iff.mp h).1, (Bool.and_eq_true_iff.mp h).2, _, rfl⟩
  · cases e
theorem g_ne : Op2 K kl (rDat K pNe) pNe := g_dat (n := 40) fun x y r e => by
  unfold pNe at e
  split at e
  · rename_i h
    cases e
    exact ⟨(Bool.and_eq_true_iff.mp h).1, (Bool.and_eq_true_iff.mp h).2, _, rfl⟩
  · cases e
theorem g_cmp {f : D → D → Bool} : Op2 K kl (rDat K (pCmp f)) (pCmp f) := g_dat (n := 40) fun x y r e => by
  unfold pCmp at e
  split at e
  · rename_i h
    cases e
    exact ⟨(ok4 h).1, (ok4 h).2.1, _, rfl⟩
  · cases e
/-- is None, is not None -/
def isN : D → Bool
  | .none => true
  | _ => false
def pIs (x y : D) : Option R := if isN y then some (bR (isN x)) else none
def pIsNot (x y : D) : Option R := if isN y then some (bR (!isN x)) else none
theorem DV.non {H : Hp} {v : V} {d : D} (h : DV K kl H v d) : decide (v = .non) = isN d := by
  cases d with
  | none => cases h; rfl
  | bool b => cases h; rfl
  | int i => cases h; rfl
  | str x => cases h; rfl
  | list ds => obtain ⟨a, vs, rfl, _⟩ := h; rfl
  | tuple ds => obtain ⟨a, vs, rfl, _⟩ := h; rfl
  | dict ds => obtain ⟨a, rfl, _⟩ := h; rfl
theorem isN_eq {d : D} (h : isN d = true) : d = .none := by cases d <;> first | rfl | cases h
theorem g_is : Op2 K kl (fun x y H Q => y = .non ∧ Q (.bl (decide (x = .non))) H) pIs := by
  intro H v1 v2 x y res Q h1 h2 e q
  unfold pIs at e
  split at e
  · rename_i h
    cases e
    have hy := isN_eq h
    subst hy
    refine ⟨h2, ?_⟩
    rw [DV.non h1]
    exact q _ _ (Post.dat (.bl _))
  · cases e
theorem g_isnot : Op2 K kl (fun x y H Q => y = .non ∧ Q (.bl (!decide (x = .non))) H) pIsNot := by
  intro H v1 v2 x y res Q h1 h2 e q
  unfold pIsNot at e
  split at e
  · rename_i h
    cases e
    have hy := isN_eq h
    subst hy
    refine ⟨h2, ?_⟩
    rw [DV.non h1]
    exact q _ _ (Post.dat (.bl _))
  · cases e
end
end Pw

set_option Elab.async false
set_option linter.all false
set_option maxRecDepth 100000
set_option maxHeartbeats 2000000
/-! Pw: in, places, cuts, len, the built-in calls. -/
namespace Pw
open PySem PySem.Spec PyProof.Rows L2

/-! ### keys -/
def toKey : D → Option Key
  | .int i => some (.inl i)
  | .str x => some (.inr x)
  | _ => none
def toKeyL : List D → Option (List Key)
  | [] => some []
  | x :: xs => match toKey x, toKeyL xs with
    | some k, some ks => some (k :: ks)
    | _, _ => none
def toKeys : D → Option (List Key)
  | .tuple xs => toKeyL xs
  | _ => none
def dKof : List (D × D) → Option (List (Key × D))
  | [] => some []
  | (k, v) :: r => match toKey k, dKof r with
    | some k, some r => some ((k, v) :: r)
    | _, _ => none
def dTof : List (D × D) → Option (List (List Key × D))
  | [] => some []
  | (k, v) :: r => match toKeys k, dTof r with
    | some k, some r => some ((k, v) :: r)
    | _, _ => none
def valD {κ : Type} [DecidableEq κ] (kvs : List (κ × D)) (k : κ) : Option D := (kvs.find? fun kv => decide (kv.1 = k)).map (·.2)
theorem toKey_kD (k : Key) : toKey (kD k) = some k := by cases k <;> rfl
theorem kD_toKey {d : D} {k : Key} (h : toKey d = some k) : d = kD k := by
  cases d with
  | int i => cases h; rfl
  | str x => cases h; rfl
  | _ => cases h
theorem toKeyL_map : ∀ ks : List Key, toKeyL (ks.map kD) = some ks
  | [] => rfl
  | k :: ks => by
    show (match toKey (kD k), toKeyL (ks.map kD) with | some k, some ks => some (k :: ks) | _, _ => none) = _
    rw [toKey_kD, toKeyL_map ks]
theorem map_toKeyL : ∀ {ds : List D} {ks : List Key}, toKeyL ds = some ks → ds = ks.map kD
  | [], _, h => by cases h; rfl
  | d :: ds, ks, h => by
    unfold toKeyL at h
    cases h1 : toKey d with
    | none => rw [h1] at h; cases h
    | some k =>
      cases h2 : toKeyL ds with
      | none => rw [h1, h2] at h; cases h
      | some r =>
        rw [h1, h2] at h
        cases h
        rw [kD_toKey h1, map_toKeyL h2]
        rfl
theorem toKeys_keyD (ks : List Key) : toKeys (keyD ks) = some ks := toKeyL_map ks
theorem keyD_toKeys {d : D} {ks : List Key} (h : toKeys d = some ks) : d = keyD ks := by
  cases d with
  | tuple xs => exact congrArg PyData.tuple (map_toKeyL h)
  | _ => cases h
theorem dKof_map : ∀ m : List (Key × D), dKof (m.map fun p => (kD p.1, p.2)) = some m
  | [] => rfl
  | (k, v) :: m => by
    show (match toKey (kD k), dKof (m.map fun p => (kD p.1, p.2)) with | some k, some r => some ((k, v) :: r) | _, _ => none) = _
    rw [toKey_kD, dKof_map m]
theorem dTof_map : ∀ m : List (List Key × D), dTof (m.map fun p => (keyD p.1, p.2)) = some m
  | [] => rfl
  | (k, v) :: m => by
    show (match toKeys (keyD k), dTof (m.map fun p => (keyD p.1, p.2)) with | some k, some r => some ((k, v) :: r) | _, _ => none) = _
    rw [toKeys_keyD, dTof_map m]
theorem dKof_T : ∀ {m : List (List Key × D)} {l : List (Key × D)}, dKof (m.map fun p => (keyD p.1, p.2)) = some l → m = []
  | [], _, _ => rfl
  | (k, v) :: m, l, h => by
    have h' : (match toKey (keyD k), dKof (m.map fun p => (keyD p.1, p.2)) with | some k, some r => some ((k, v) :: r) | _, _ => none) = some l := h
    rw [show toKey (keyD k) = none from rfl] at h'
    cases h'
theorem dTof_K : ∀ {m : List (Key × D)} {l : List (List Key × D)}, dTof (m.map fun p => (kD p.1, p.2)) = some l → m = []
  | [], _, _ => rfl
  | (k, v) :: m, l, h => by
    have h' : (match toKeys (kD k), dTof (m.map fun p => (kD p.1, p.2)) with | some k, some r => some ((k, v) :: r) | _, _ => none) = some l := h
    rw [show toKeys (kD k) = none by cases k <;> rfl] at h'
    cases h'
section
variable {K : PySem.W.Frag} {kl : Bool} {H : Hp} {v : V} {d : D}
theorem DV.key {k : Key} (h : DV K kl H v d) (e : toKey d = some k) : v = kV k := by
  cases d with
  | int i => cases h; cases e; rfl
  | str x => cases h; cases e; rfl
  | _ => cases e
theorem RDs.keys : ∀ {vs : List V} {ks : List Key}, RDs H vs (ks.map kD) → vs = ks.map kV
  | _, [], .nil => rfl
  | _, k :: ks, .cons r t => by
    rw [List.map_cons, RDs.keys t]
    cases k <;> (cases r; rfl)
theorem RDs.of_keys : ∀ ks : List Key, RDs H (ks.map kV) (ks.map kD)
  | [] => .nil
  | .inl i :: ks => .cons (.int i) (RDs.of_keys ks)
  | .inr x :: ks => .cons (.str x) (RDs.of_keys ks)
theorem DV.keys {ks : List Key} (h : DV K kl H v d) (e : toKeys d = some ks) : ∃ b, v = .ref b ∧ H b = some (.tup (ks.map kV)) := by
  have z := keyD_toKeys e
  subst z
  obtain ⟨a, vs, rfl, ha, r⟩ := h
  have q := RDs.keys r
  subst q
  exact ⟨a, rfl, ha⟩
theorem RDK.val {l : List (Key × V)} {m : List (Key × D)} (r : RDK H l m) (k : Key) : (∃ x y, valV l k = some x ∧ valD m k = some y ∧ RD H x y) ∨ (valV l k = none ∧ valD m k = none) := by
  unfold RDK at r
  induction r with
  | nil => exact .inr ⟨rfl, rfl⟩
  | @cons p q ps qs h t ih =>
    obtain ⟨k1, x⟩ := p
    obtain ⟨k2, y⟩ := q
    obtain ⟨e, rr⟩ := h
    have e' : k1 = k2 := e
    subst e'
    by_cases hk : k1 = k
    · exact .inl ⟨x, y, by simp [valV, hk], by simp [valD, hk], rr⟩
    · rcases ih with ⟨x1, y1, h1, h2, h3⟩ | ⟨h1, h2⟩
      · exact .inl ⟨x1, y1, by simpa [valV, hk] using h1, by simpa [valD, hk] using h2, h3⟩
      · exact .inr ⟨by simpa [valV, hk] using h1, by simpa [valD, hk] using h2⟩
theorem RDT.val {l : List (List Key × V)} {m : List (List Key × D)} (r : RDT H l m) (k : List Key) : (∃ x y, valV l k = some x ∧ valD m k = some y ∧ RD H x y) ∨ (valV l k = none ∧ valD m k = none) := by
  unfold RDT at r
  induction r with
  | nil => exact .inr ⟨rfl, rfl⟩
  | @cons p q ps qs h t ih =>
    obtain ⟨k1, x⟩ := p
    obtain ⟨k2, y⟩ := q
    obtain ⟨e, rr⟩ := h
    have e' : k1 = k2 := e
    subst e'
    by_cases hk : k1 = k
    · exact .inl ⟨x, y, by simp [valV, hk], by simp [valD, hk], rr⟩
    · rcases ih with ⟨x1, y1, h1, h2, h3⟩ | ⟨h1, h2⟩
      · exact .inl ⟨x1, y1, by simpa [valV, hk] using h1, by simpa [valD, hk] using h2, h3⟩
      · exact .inr ⟨by simpa [valV, hk] using h1, by simpa [valD, hk] using h2⟩
end
/-- what a dict of data holds at a key: some none is «not there» -/
def lookD (kvs : List (D × D)) (k : D) : Option (Option D) := match toKey k with
  | some k => match dKof kvs with
    | some m => some (valD m k)
    | none => none
  | none => match toKeys k with
    | some k => match dTof kvs with
      | some m => some (valD m k)
      | none => none
    | none => none
/-- where an empty dict stands it is a dict of either kind -/
def EmptyAt (H : Hp) (a : Addr) : Prop := Rd H a (.dK []) ∨ Rd H a (.dT [])
section
variable {K : PySem.W.Frag} {kl : Bool} {H : Hp} {v : V} {d : D}
theorem lookD_get {kvs : List (D × D)} {x : D} {o : Option D} {u : V} (h : DV K kl H v (.dict kvs)) (hk : DV K kl H u x) (e : lookD kvs x = some o) :
    ∃ a, v = .ref a ∧ ((∃ w, DGet H a u w ∧ (∀ y, o = some y → ∃ z, w = some z ∧ RD H z y) ∧ (o = none → w = none)) ∨ (o = none ∧ EmptyAt H a ∧ ((∃ k : Key, u = kV k) ∨ ∃ (k : List Key) (b : Addr), u = .ref b ∧ H b = some (.tup (k.map kV))))) := by
  obtain ⟨a, rfl, hd⟩ := h
  refine ⟨a, rfl, ?_⟩
  unfold lookD at e
  cases h1 : toKey x with
  | some k =>
    simp only [h1] at e
    have hu := DV.key hk h1
    cases h2 : dKof kvs with
    | none => simp only [h2] at e; cases e
    | some m =>
      simp only [h2] at e
      cases e
      rcases hd with ⟨ws, m', hr, rr, rfl⟩ | ⟨ws, m', hr, rr, rfl⟩
      · rw [dKof_map] at h2
        cases h2
        refine .inl ⟨valV ws k, .inl ⟨ws, k, hr, hu, rfl⟩, fun y q => ?_, fun q => ?_⟩
        · rcases rr.val k with ⟨x1, y1, h3, h4, h5⟩ | ⟨h3, h4⟩
          · rw [q] at h4; cases h4; exact ⟨x1, h3, h5⟩
          · rw [q] at h4; cases h4
        · rcases rr.val k with ⟨x1, y1, h3, h4, h5⟩ | ⟨h3, h4⟩
          · rw [q] at h4; cases h4
          · exact h3
      · have z := dKof_T h2
        subst z
        cases h2
        cases rr
        exact .inr ⟨rfl, .inr hr, .inl ⟨k, hu⟩⟩
  | none =>
    simp only [h1] at e
    cases h1' : toKeys x with
    | none => simp only [h1'] at e; cases e
    | some k =>
      simp only [h1'] at e
      obtain ⟨b, hu, hb⟩ := DV.keys hk h1'
      cases h2 : dTof kvs with
      | none => simp only [h2] at e; cases e
      | some m =>
        simp only [h2] at e
        cases e
        rcases hd with ⟨ws, m', hr, rr, rfl⟩ | ⟨ws, m', hr, rr, rfl⟩
        · have z := dTof_K h2
          subst z
          cases h2
          cases rr
          exact .inr ⟨rfl, .inl hr, .inr ⟨k, b, hu, hb⟩⟩
        · rw [dTof_map] at h2
          cases h2
          refine .inl ⟨valV ws k, .inr ⟨ws, k, b, hr, hu, hb, rfl⟩, fun y q => ?_, fun q => ?_⟩
          · rcases rr.val k with ⟨x1, y1, h3, h4, h5⟩ | ⟨h3, h4⟩
            · rw [q] at h4; cases h4; exact ⟨x1, h3, h5⟩
            · rw [q] at h4; cases h4
          · rcases rr.val k with ⟨x1, y1, h3, h4, h5⟩ | ⟨h3, h4⟩
            · rw [q] at h4; cases h4
            · exact h3
end

/-! ### in, not in -/
def inD (x y : D) : Option Bool := match y with
  | .list ys => if okD 40 x && okDs 40 ys then some (ys.any fun z => PyData.eqv z x) else none
  | .tuple ys => if okD 40 x && okDs 40 ys then some (ys.any fun z => PyData.eqv z x) else none
  | .dict kvs => (lookD kvs x).map (·.isSome)
  | _ => none
def pIn (x y : D) : Option R := (inD x y).map bR
def pNotIn (x y : D) : Option R := (inD x y).map fun b => bR (!b)
section
variable {X : Cx} {K : PySem.W.Frag} {kl : Bool}
theorem empty_in {pins : List (Addr × Obj)} {σ : L2.St} {H : Hp} {s : Shared} {a : Addr} {u : V} {w : Value} {A : Around} {E Q : Value → Shared → Prop} (hu : A.units + 1 < cLine) (I : Inv X pins σ H s) (h : EmptyAt H a)
    (k : (∃ k : Key, u = kV k) ∨ ∃ (k : List Key) (b : Addr), u = .ref b ∧ H b = some (.tup (k.map kV))) (ru : RelV u w) (q : ∀ t, Q (.bool false) { s with toks := t }) : wpAny (model X.prog X.w) A (compareOp .In w (.ref a)) Q E s := by
  have raw : (a == sysModules) = false ∧ ∃ o es ep, s.heap.get? a = some o ∧ o.ExactDict ∧ o.data = .dict es ep ∧ es.toList = [] := by
    rcases h with h | h
    · obtain ⟨_, z, vs, rel, o, es, ep, e1, e2, e3, e4, e5, e6⟩ := dk_rd I.hok h
      cases rel
      refine ⟨z, o, es, ep, e1, e2, e3, ?_⟩
      have l := e5.length
      exact List.eq_nil_of_length_eq_zero l
    · obtain ⟨_, z, xs, rel, o, es, ep, e1, e2, e3, e4, _⟩ := dt_rd I.hok h
      cases rel
      exact ⟨z, o, es, ep, e1, e2, e3, e4⟩
  obtain ⟨z, o, es, ep, e1, e2, e3, e4⟩ := raw
  have hes : es = #[] := by
    cases es
    simp only at e4
    rw [e4]
  subst hes
  rcases k with ⟨k, rfl⟩ | ⟨k, b, rfl, hb⟩
  · have dd : s.heap.DictOf (mixKind X.prog X.w) a [] := ⟨o, #[], ep, e1, e2, e3, (by intro e he; simp at he), .nil, List.nodup_nil⟩
    exact wpAny_in_of (kV_is ru) z dd.mapOf (q _)
  · cases (show w = Value.ref b from ru)
    have dd : s.heap.DictOfH (tupleKind (mixKind X.prog X.w)) a [] := ⟨o, #[], ep, e1, e2, e3, rfl, fun _ hx => (by simp at hx), List.nodup_nil⟩
    exact wpAny_in_heap (tupleKind_room_in1 hu) (key_of I.hok hb) z dd (q _)
theorem empty_notIn {pins : List (Addr × Obj)} {σ : L2.St} {H : Hp} {s : Shared} {a : Addr} {u : V} {w : Value} {A : Around} {E Q : Value → Shared → Prop} (hu : A.units + 1 < cLine) (I : Inv X pins σ H s) (h : EmptyAt H a)
    (k : (∃ k : Key, u = kV k) ∨ ∃ (k : List Key) (b : Addr), u = .ref b ∧ H b = some (.tup (k.map kV))) (ru : RelV u w) (q : ∀ t, Q (.bool true) { s with toks := t }) : wpAny (model X.prog X.w) A (compareOp .NotIn w (.ref a)) Q E s := by
  have raw : (a == sysModules) = false ∧ ∃ o es ep, s.heap.get? a = some o ∧ o.ExactDict ∧ o.data = .dict es ep ∧ es.toList = [] := by
    rcases h with h | h
    · obtain ⟨_, z, vs, rel, o, es, ep, e1, e2, e3, e4, e5, e6⟩ := dk_rd I.hok h
      cases rel
      exact ⟨z, o, es, ep, e1, e2, e3, List.eq_nil_of_length_eq_zero e5.length⟩
    · obtain ⟨_, z, xs, rel, o, es, ep, e1, e2, e3, e4, _⟩ := dt_rd I.hok h
      cases rel
      exact ⟨z, o, es, ep, e1, e2, e3, e4⟩
  obtain ⟨z, o, es, ep, e1, e2, e3, e4⟩ := raw
  have hes : es = #[] := by
    cases es
    simp only at e4
    rw [e4]
  subst hes
  rcases k with ⟨k, rfl⟩ | ⟨k, b, rfl, hb⟩
  · have dd : s.heap.DictOf (mixKind X.prog X.w) a [] := ⟨o, #[], ep, e1, e2, e3, (by intro e he; simp at he), .nil, List.nodup_nil⟩
    exact wpAny_notIn_of (kV_is ru) z dd.mapOf (q _)
  · cases (show w = Value.ref b from ru)
    have dd : s.heap.DictOfH (tupleKind (mixKind X.prog X.w)) a [] := ⟨o, #[], ep, e1, e2, e3, rfl, fun _ hx => (by simp at hx), List.nodup_nil⟩
    exact wpAny_notIn_heap (tupleKind_room_in1 hu) (key_of I.hok hb) z dd (q _)
theorem in_room {A : Around} {x : D} {ys : List D} (hx : okD 40 x = true) (hu : A.units + 64 < cLine) : A.units + 1 + min (PyData.depthAll ys) x.depth < cLine := by
  have := (okD_lay 40 x hx).2
  omega
def rInA (K : PySem.W.Frag) (f : Bool → Bool) : R2 := fun x y H Q => ∃ d e b, DV K false H x d ∧ DV K false H y e ∧ inD d e = some b ∧ Q (.bl (f b)) H
theorem o_in (hu : X.A.units + 64 < cLine) : OpR X (compareOp .In) (rInA X.K id) := by
  intro pins s σ H x y v u Q I rx ry h
  obtain ⟨d, e, b, hd, he, hb, q⟩ := h
  have fin : EP X pins σ Q (.bool b) s := ⟨.bl b, H, I, rfl, q⟩
  cases e with
  | list ys =>
    simp only [inD] at hb
    split at hb
    · rename_i hz
      cases hb
      have hz := Bool.and_eq_true_iff.mp hz
      obtain ⟨as, r1⟩ := Dp.reads I d x v (DV.dp hd hz.1) rx
      obtain ⟨bs, r2⟩ := Dp.reads I (.list ys) y u (DV.dp (n := 41) he (by simpa [okD] using hz.2)) ry
      exact SeqAt.in_list_reads r2 r1 (okDs_lay 40 ys hz.2).1 (okD_lay 40 d hz.1).1 (in_room hz.1 hu) fin
    · cases hb
  | tuple ys =>
    simp only [inD] at hb
    split at hb
    · rename_i hz
      cases hb
      have hz := Bool.and_eq_true_iff.mp hz
      obtain ⟨as, r1⟩ := Dp.reads I d x v (DV.dp hd hz.1) rx
      obtain ⟨bs, r2⟩ := Dp.reads I (.tuple ys) y u (DV.dp (n := 41) he (by simpa [okD] using hz.2)) ry
      exact SeqAt.in_tuple_reads r2 r1 (okDs_lay 40 ys hz.2).1 (okD_lay 40 d hz.1).1 (in_room hz.1 hu) fin
    · cases hb
  | dict kvs =>
    simp only [inD] at hb
    obtain ⟨o, ho, hb⟩ := Option.map_eq_some_iff.mp hb
    obtain ⟨a, rfl, hg⟩ := lookD_get he hd ho
    cases ry
    rcases hg with ⟨w, g, g1, g2⟩ | ⟨rfl, em, k⟩
    · refine d_in (by omega) I g rx fun s' I' => ⟨.bl w.isSome, H, I', rfl, ?_⟩
      have : w.isSome = b := by
        cases o with
        | none => rw [g2 rfl]; exact hb
        | some y => obtain ⟨z, hz, _⟩ := g1 y rfl; rw [hz]; exact hb
      rw [this]
      exact q
    · refine empty_in (by omega) I em k rx fun t => ⟨.bl false, H, I.tok t, rfl, ?_⟩
      have : false = b := hb
      rw [this]
      exact q
  | _ => simp [inD] at hb
theorem o_notIn (hu : X.A.units + 64 < cLine) : OpR X (compareOp .NotIn) (rInA X.K not) := by
  intro pins s σ H x y v u Q I rx ry h
  obtain ⟨d, e, b, hd, he, hb, q⟩ := h
  have fin : EP X pins σ Q (.bool (!b)) s := ⟨.bl (!b), H, I, rfl, q⟩
  cases e with
  | list ys =>
    simp only [inD] at hb
    split at hb
    · rename_i hz
      cases hb
      have hz := Bool.and_eq_true_iff.mp hz
      obtain ⟨as, r1⟩ := Dp.reads I d x v (DV.dp hd hz.1) rx
      obtain ⟨bs, r2⟩ := Dp.reads I (.list ys) y u (DV.dp (n := 41) he (by simpa [okD] using hz.2)) ry
      exact SeqAt.notIn_list_reads r2 r1 (okDs_lay 40 ys hz.2).1 (okD_lay 40 d hz.1).1 (in_room hz.1 hu) fin
    · cases hb
  | tuple ys =>
    simp only [inD] at hb
    split at hb
    · rename_i hz
      cases hb
      have hz := Bool.and_eq_true_iff.mp hz
      obtain ⟨as, r1⟩ := Dp.reads I d x v (DV.dp hd hz.1) rx
      obtain ⟨bs, r2⟩ := Dp.reads I (.tuple ys) y u (DV.dp (n := 41) he (by simpa [okD] using hz.2)) ry
      exact SeqAt.notIn_tuple_reads r2 r1 (okDs_lay 40 ys hz.2).1 (okD_lay 40 d hz.1).1 (in_room hz.1 hu) fin
    · cases hb
  | dict kvs =>
    simp only [inD] at hb
    obtain ⟨o, ho, hb⟩ := Option.map_eq_some_iff.mp hb
    obtain ⟨a, rfl, hg⟩ := lookD_get he hd ho
    cases ry
    rcases hg with ⟨w, g, g1, g2⟩ | ⟨rfl, em, k⟩
    · refine d_notIn (by omega) I g rx fun s' I' => ⟨.bl (!w.isSome), H, I', rfl, ?_⟩
      have : w.isSome = b := by
        cases o with
        | none => rw [g2 rfl]; exact hb
        | some y => obtain ⟨z, hz, _⟩ := g1 y rfl; rw [hz]; exact hb
      rw [this]
      exact q
    · refine empty_notIn (by omega) I em k rx fun t => ⟨.bl true, H, I.tok t, rfl, ?_⟩
      have : false = b := hb
      rw [← this] at q
      exact q
  | _ => simp [inD] at hb
theorem g_in : Op2 K false (rInA K id) pIn := by
  intro H v1 v2 x y res Q h1 h2 e q
  obtain ⟨b, hb, rfl⟩ := Option.map_eq_some_iff.mp e
  exact ⟨x, y, b, h1, h2, hb, q _ _ (Post.dat (.bl b))⟩
theorem g_notIn : Op2 K false (rInA K not) pNotIn := by
  intro H v1 v2 x y res Q h1 h2 e q
  obtain ⟨b, hb, rfl⟩ := Option.map_eq_some_iff.mp e
  exact ⟨x, y, b, h1, h2, hb, q _ _ (Post.dat (.bl (!b)))⟩

/-! ### places -/
def pIx (x y : D) : Option R := match x, y with
  | .list xs, .int i => (atI xs i).map .d
  | .tuple xs, .int i => (atI xs i).map .d
  | .dict kvs, k => match lookD kvs k with
    | some (some d) => some (.d d)
    | _ => none
  | _, _ => none
theorem RDs.at {H : Hp} {vs : List V} {ds : List D} {i : Int} {d : D} (r : RDs H vs ds) (h : atI ds i = some d) : ∃ v, atI vs i = some v ∧ RD H v d := by
  unfold atI at h ⊢
  rw [r.length]
  cases e : ixN ds.length i with
  | none => rw [e] at h; cases h
  | some j => rw [e] at h; exact r.get h
def rIxD : R2 := fun x y H Q => ∃ a v, x = .ref a ∧ DGet H a y (some v) ∧ Q v H
theorem ix_dict (hu : X.A.units + 1 < cLine) : IxR X rIxD := by
  intro value slice pins s σ H x y v u Q I rx ry h hs
  obtain ⟨a, z, rfl, g, q⟩ := h
  cases rx
  exact tail_any (dict_typeIs I g) PySem.F.slot_dict_getitem.lookup (d_getItem hu I g ry fun w' s3 I3 rw' => ⟨z, H, I3, rw', q⟩) hs
def rIxA (K : PySem.W.Frag) : R2 := fun x y H Q => rIxL K x y H Q ∨ rIxT K x y H Q ∨ rIxD x y H Q
theorem o_ix (hu : X.A.units + 1 < cLine) : IxR X (rIxA X.K) := IxR.or ix_list (IxR.or ix_tup (ix_dict hu))
theorem g_ix : Op2 K kl (rIxA K) pIx := by
  intro H v1 v2 x y res Q h1 h2 e q
  cases x with
  | list xs =>
    cases y with
    | int i =>
      obtain ⟨d, hd, rfl⟩ := Option.map_eq_some_iff.mp (show (atI xs i).map R.d = some res from e)
      obtain ⟨a, vs, rfl, sq, r⟩ := DV.sq h1
      cases h2
      obtain ⟨w, hw, rw'⟩ := r.at hd
      exact .inl ⟨a, vs, i, w, rfl, rfl, sq, hw, q _ _ (Post.dat rw')⟩
    | _ => exact nomatch e
  | tuple xs =>
    cases y with
    | int i =>
      obtain ⟨d, hd, rfl⟩ := Option.map_eq_some_iff.mp (show (atI xs i).map R.d = some res from e)
      obtain ⟨a, vs, rfl, sq, r⟩ := h1
      cases h2
      obtain ⟨w, hw, rw'⟩ := r.at hd
      exact .inr (.inl ⟨a, vs, i, w, rfl, rfl, .inl (.inl sq), hw, q _ _ (Post.dat rw')⟩)
    | _ => exact nomatch e
  | dict kvs =>
    have e' : (match lookD kvs y with | some (some d) => some (R.d d) | _ => none) = some res := e
    cases ho : lookD kvs y with
    | none => rw [ho] at e'; cases e'
    | some o =>
      cases o with
      | none => rw [ho] at e'; cases e'
      | some d =>
        rw [ho] at e'
        cases e'
        obtain ⟨a, rfl, hg⟩ := lookD_get h1 h2 ho
        rcases hg with ⟨w, g, g1, g2⟩ | ⟨z, _⟩
        · obtain ⟨z, hz, rz⟩ := g1 d rfl
          rw [hz] at g
          exact .inr (.inr ⟨a, z, rfl, g, q _ _ (Post.dat rz)⟩)
        · cases z
  | _ => cases y <;> exact nomatch e

/-! ### len -/
def pLen : List D → Option R
  | [.list xs] => some (.d (.int xs.length))
  | [.tuple xs] => some (.d (.int xs.length))
  | [.dict xs] => some (.d (.int xs.length))
  | _ => none
def rLenD : List V → Hp → VK → Prop := fun xs H Q => ∃ p, xs = [.ref p] ∧ ((∃ kvs, Rd H p (.dK kvs) ∧ Q (.int ((kvs.length : Nat) : Int)) H) ∨ ∃ kvs, Rd H p (.dT kvs) ∧ Q (.int ((kvs.length : Nat) : Int)) H)
theorem call_len_dD : CallR X (.builtin "len") rLenD := by
  intro pins s σ H xs us Q I r h
  obtain ⟨p, rfl, h⟩ := h
  have e := Vals.ref1 r
  subst e
  rcases h with ⟨kvs, hp, q⟩ | ⟨kvs, hp, q⟩
  · exact d_len I hp fun t s' I' => ⟨.int ((kvs.length : Nat) : Int), H, I', ⟨t, rfl⟩, q⟩
  · obtain ⟨z, hd, xs, rel, dd⟩ := dt_rd I.hok hp
    have hl := Paired.length rel
    refine call_len_dictH hd dd (by rw [← hl]; rw [sizeLine_eq] at z; omega) ⟨.int ((kvs.length : Nat) : Int), H, I.tok _, ⟨_, by rw [hl]⟩, q⟩
def rLenA (K : PySem.W.Frag) : List V → Hp → VK → Prop := fun xs H Q => (∃ p ys, xs = [.ref p] ∧ (SqL K H p ys ∨ SqT K H p ys) ∧ Q (.int ys.length) H) ∨ rLenD xs H Q
theorem o_len : CallR X (.builtin "len") (rLenA X.K) := CallR.or call_len_seq call_len_dD
theorem g_len : OpN K kl (rLenA K) pLen := by
  intro H vs xs res Q h e q
  cases h with
  | nil => cases e
  | cons h1 t =>
    cases t with
    | cons _ _ => simp [pLen] at e
    | nil =>
      rename_i v x
      cases x with
      | list xs =>
        cases e
        obtain ⟨a, vs, rfl, sq, r⟩ := DV.sq h1
        exact .inl ⟨a, vs, rfl, .inl sq, by rw [r.length]; exact q _ _ (Post.dat (.int _))⟩
      | tuple xs =>
        cases e
        obtain ⟨a, vs, rfl, sq, r⟩ := h1
        exact .inl ⟨a, vs, rfl, .inr (.inl (.inl sq)), by rw [r.length]; exact q _ _ (Post.dat (.int _))⟩
      | dict xs =>
        cases e
        obtain ⟨a, rfl, ⟨ws, m, hr, rr, rfl⟩ | ⟨ws, m, hr, rr, rfl⟩⟩ := h1
        · have hl := Paired.length rr
          rw [List.length_map, ← hl] at q
          exact .inr ⟨a, rfl, .inl ⟨ws, hr, q _ _ (Post.dat (.int _))⟩⟩
        · have hl := Paired.length rr
          rw [List.length_map, ← hl] at q
          exact .inr ⟨a, rfl, .inr ⟨ws, hr, q _ _ (Post.dat (.int _))⟩⟩
      | _ => exact nomatch e
end
end Pw

set_option Elab.async false
set_option linter.all false
set_option maxRecDepth 100000
set_option maxHeartbeats 2000000
/-! Pw: cuts, turned about; the built-in calls on data. -/
namespace Pw
open PySem PySem.Spec PyProof.Rows L2

/-! ### cuts -/
abbrev MO := En → Res (Option Int)
def mNo : MO := fun e => .ok none e
def mSo (m : ME) : MO := fun env => (m env).bind fun r e => match r.dat true e with
  | some (.int i) => .ok (some i) e
  | _ => .st
def tO (C : Cy) (m : MO) : TO := fun σ H Q => ∃ H0 P env L, Rel C.K C.OW H0 P env σ H L ∧ Sat C H0 P σ L (m env) fun o e => ∀ H', Rel C.K C.OW H0 P e σ H' L → Q o H'
abbrev DO (X : Cx) (W : WX) (OW : Nat → Bool) (e : Option Expr) (m : MO) : Prop := PO X e (tO (cy X W OW) m)
def cutL {α : Type} (xs : List α) (lo hi : Option Int) : List α := (xs.drop (HT.sIx xs.length 0 lo)).take (HT.sIx xs.length xs.length hi - HT.sIx xs.length 0 lo)
def pCut (x : D) (lo hi : Option Int) : Option R := match x with
  | .list xs => some (.ol (cutL xs lo hi))
  | .tuple xs => some (.d (.tuple (cutL xs lo hi)))
  | _ => none
def mCut (m : ME) (lo hi : MO) : ME := fun env => (m env).bind fun r e1 => (lo e1).bind fun l e2 => (hi e2).bind fun h e3 => match r.dat true e3 with
  | some x => match pCut x l h with
    | some r => .ok r e3
    | none => .st
  | none => .st
def mRev (m : ME) : ME := m1 true (fun x => match x with
  | .list xs => some (.ol xs.reverse)
  | .tuple xs => some (.d (.tuple xs.reverse))
  | _ => none) m
section
variable {prog : Program} {w : World} {A : Around} {E : Value → Shared → Prop} {s : Shared}
theorem rev_pick (xs : Array Value) : ((List.range xs.size).filterMap fun (m : Nat) => xs[((xs.size : Int) - 1 + (m : Int) * (-1)).toNat]?).toArray = xs.toList.reverse.toArray := by
  have e : (fun (m : Nat) => xs[((xs.size : Int) - 1 + (m : Int) * (-1)).toNat]?) = fun m => xs[xs.size - 1 - m]? := by
    funext m
    congr 1
    omega
  rw [e]
  have k : ((List.range xs.size).filterMap fun m => xs[xs.size - 1 - m]?) = ((List.range xs.size).map fun k => xs.size - 1 - k).filterMap (xs[·]?) := by
    rw [List.filterMap_map]
    rfl
  rw [k, PySem.W.krv_range, List.filterMap_reverse, PySem.W.krv_all]
theorem getItem_tuple_rev {t sl : Addr} {items : Array Value} {vl vu vs : Value} {Q : Value → Shared → Prop} (ht : IsTup s.heap t items) (hs : s.heap.IsSliceOf sl vl vu vs) (pl : IsPart vl none) (pu : IsPart vu none) (ps : IsPart vs (some (-1)))
    (h : Q (.ref s.heap.objs.size) { s with heap := s.heap.push { cls := .type "tuple", data := .seq items.toList.reverse.toArray } }) (hsz : items.size ≤ sizeLine) : wpAny (model prog w) A (getItem (.ref t) (.ref sl)) Q E s := by
  have take : sizeOk (.seq items.toList.reverse.toArray) := by
    show items.toList.reverse.toArray.size ≤ sizeLine
    rw [List.size_toArray, List.length_reverse, Array.length_toList]
    exact hsz
  obtain ⟨os, h1, h2, h3⟩ := id hs
  have hT : s.TypeIs (.ref sl) "slice" := ⟨os, h1, h2⟩
  unfold getItem
  try with_reducible refine wpAny_holding ?_
  first | refine wpAny_bind (wpAny_pure ?_) | skip
  refine wpAny_bind (wpAny_sequenceKey ht.typeIs (by decide) ?_)
  refine wpAny_bind (wpAny_callSpecial?_slot (name := Str.ofString "__getitem__") ht.typeIs PyProof.Rows.slot_tuple_getitem
    (wpAny_call_entry PyProof.Rows.slot_tuple_getitem ht.typeIs entry_tuple_getitem ?_ (args_tuple_getitem _ _)))
  show wpAny _ _ (Builtin.Tuple.tupleItemsOf (.ref t) >>= _) _ _ s
  refine wpAny_bind (tupleItemsOf_ ht (wpAny_bind (wpAny_typeOf hT ?_)))
  rw [if_pos (by decide)]
  refine wpAny_bind ?_
  show wpAny _ _ (Builtin.Slice.sliceApplied (.ref sl) (pure (items.size : Int))) _ _ s
  unfold Builtin.Slice.sliceApplied Builtin.Slice.sliceFields
  refine wpAny_bind (wpAny_bind (wpAny_field h1 h3 (x := vl) rfl (wpAny_bind (wpAny_field h1 h3 (x := vu) rfl (wpAny_bind (wpAny_field h1 h3 (x := vs) rfl (wpAny_pure ?_)))))))
  refine wpAny_bind (HT.slicePart_ ps ?_)
  show wpAny _ _ (if ((-1 : Int) == 0) = true then _ else _) _ _ s
  rw [if_neg (by decide)]
  refine wpAny_bind (HT.slicePart_ pl (wpAny_bind (HT.slicePart_ pu (wpAny_bind (wpAny_pure ?_)))))
  have places : Builtin.Slice.slicePlaces ((items.size : Int) - 1) (-1) (-1) = items.size := by
    unfold Builtin.Slice.slicePlaces
    have z1 : ¬ ((-1 : Int) > 0) := by omega
    simp only [z1, if_false, Int.neg_neg, Int.ediv_one]
    split <;> omega
  show wpAny _ _ (pure ((items.size : Int) - 1, (-1 : Int), Builtin.Slice.slicePlaces ((items.size : Int) - 1) (-1) (-1))) _ _ s
  rw [places]
  refine wpAny_pure ?_
  show wpAny _ _ (if (((items.size : Int) - 1) == 0 && (-1 : Int) == 1 && items.size == items.size) = true then _ else _) _ _ s
  rw [if_neg (by simp), rev_pick]
  first
    | exact wpAny_bind (m := Builtin.Tuple.tupleExact _) (wpAny_newObj_type (wpAny_pure ⟨_, rfl, wpAny_pure h⟩) take)
    | exact wpAny_bind (m := Builtin.Tuple.tupleExact _) (wpAny_newObj_type (wpAny_bind (wpAny_pure (wpAny_pure ⟨_, rfl, wpAny_pure h⟩))) take)
    | exact wpAny_bind (wpAny_bind (m := Builtin.Tuple.tupleExact _) (wpAny_newObj_type (wpAny_pure (wpAny_pure ⟨_, rfl, wpAny_pure h⟩)) take))
    | exact wpAny_bind (wpAny_bind (m := Builtin.Tuple.tupleExact _) (wpAny_newObj_type (wpAny_pure ⟨_, rfl, wpAny_pure h⟩) take))
end
section
variable {X : Cx} {W : WX} {OW : Nat → Bool} {K : PySem.W.Frag} {e : Expr} {lo hi : Option Expr} {m : ME} {ml mh : MO} {pos p2 : Pos}
theorem do_none : DO X W OW none mNo := ⟨fun pins s σ H Q I ⟨H0, P, env, L, Rl, S⟩ => po_none.run pins s σ H Q I (S H Rl)⟩
theorem do_some (h : DE X W OW e m) : DO X W OW (some e) (mSo m) := ⟨fun pins s σ H Q I ⟨H0, P, env, L, Rl, S⟩ => (po_some h).run pins s σ H Q I ⟨H0, P, env, L, Rl, S.bind.mono fun r e1 _ S1 v H1 R1 => by
  cases hd : r.dat true e1 with
  | none => simp only [hd] at S1; exact S1.elim
  | some x =>
    cases x with
    | int i =>
      simp only [hd] at S1
      have hv := R1.dv List.mem_cons_self hd
      exact ⟨i, hv, S1 H1 R1.drop⟩
    | _ => simp only [hd] at S1; exact S1.elim⟩⟩
def rCut (K : PySem.W.Frag) : V → Option Int → Option Int → Hp → VK → Prop := fun x lo hi H Q => rSlL K x lo hi H Q ∨ rSlA K x lo hi H Q
theorem o_cut : SlR X (rCut X.K) := SlR.or sl_list sl_tupA
theorem RDs.cut {H : Hp} {vs : List V} {ds : List D} (r : RDs H vs ds) (lo hi : Option Int) : RDs H (cutV vs lo hi) (cutL ds lo hi) := by
  unfold cutV cutL
  rw [r.length]
  exact (r.drop _).take _
theorem cutL_whole {α : Type} {xs : List α} {lo hi : Option Int} (h : HT.sIx xs.length 0 lo = 0 ∧ HT.sIx xs.length xs.length hi = xs.length) : cutL xs lo hi = xs := by
  unfold cutL
  rw [h.1, h.2]
  simp
theorem g_cut {H : Hp} {v : V} {x : D} {lo hi : Option Int} {res : R} {Q : VK} (h1 : DV K true H v x) (e : pCut x lo hi = some res) (q : ∀ v H', Post K H H' v res → Q v H') : rCut K v lo hi H Q := by
  cases x with
  | list xs =>
    cases e
    obtain ⟨a, vs, rfl, sq, r⟩ := DV.sq h1
    exact .inl ⟨a, vs, rfl, sq, fun p hp => q _ _ (Post.olNew hp (r.cut lo hi))⟩
  | tuple xs =>
    cases e
    obtain ⟨a, vs, rfl, sq, r⟩ := h1
    refine .inr ⟨a, vs, rfl, .inl (.inl sq), fun z => ?_, fun z p hp => q _ _ (Post.tupNew hp (r.cut lo hi))⟩
    rw [r.length] at z
    rw [cutL_whole z] at q
    exact q _ _ (Post.dat (.tup sq r))
  | _ => cases e
theorem de_cut (h : DE X W OW e m) (hl : DO X W OW lo ml) (hh : DO X W OW hi mh) : DE X W OW (.Subscript e (.Slice lo hi none p2) pos) (mCut m ml mh) := by
  refine pe_le (pe_slice o_cut h hl hh) fun σ H Q ⟨H0, P, env, L, Rl, S⟩ => ?_
  refine ⟨H0, P, env, L, Rl, S.bind.mono fun r e1 _ S1 v H1 R1 => ⟨H0, P, e1, (v, r) :: L, R1, ?_⟩⟩
  refine ((Sat.bind S1).wait fun _ _ q => q.drop).mono fun l e2 _ S2 H2 R2 => ⟨H0, P, e2, (v, r) :: L, R2, ?_⟩
  refine ((Sat.bind S2).wait fun _ _ q => q.drop).mono fun u e3 _ S3 H3 R3 => ?_
  cases hd : r.dat true e3 with
  | none => simp only [hd] at S3; exact S3.elim
  | some x =>
    simp only [hd] at S3
    cases hc : pCut x l u with
    | none => simp only [hc] at S3; exact S3.elim
    | some res =>
      simp only [hc] at S3
      exact g_cut (R3.dv List.mem_cons_self hd) hc fun w H' p => S3 w H' (R3.drop.post p)
/-- x[::-1] -/
theorem pe_revA {k : Nat} {p1 p2 p3 : Pos} {te : TE} (he : PE X e te) : PE X (.Subscript e (.Slice none none (some (.UnaryOp .USub (.Constant (.int 1) k p1) p2)) p3) pos)
    (tUn (fun x H Q => (∃ a xs, x = .ref a ∧ SqL X.K H a xs ∧ ∀ p, H p = none → Q (.ref p) (upd H p (.lst xs.reverse))) ∨ ∃ a xs, x = .ref a ∧ SqT X.K H a xs ∧ ∀ p, H p = none → Q (.ref p) (upd H p (.tup xs.reverse))) te) := by
  refine ⟨fun pins s σ H Q I h => ?_⟩
  refine Subscript_ (thn (he.run pins s σ H _ I h) fun v s1 ⟨x, H1, I1, r1, q1⟩ => ?_)
  have step : PO X (some (.UnaryOp .USub (.Constant (.int 1) k p1) p2)) (tPart (tUn (rU fun i => .int (-i)) (tC (.int 1)))) := po_some (pe_un un_neg pe_int)
  refine wpAny_Slice (thn (po_none.run pins s1 σ H1 (fun o H2 => o = none ∧ H2 = H1) I1 ⟨rfl, rfl⟩) fun vl s2 ⟨l, H2, I2, pl, el, e2⟩ => ?_)
  subst el e2
  refine thn (po_none.run pins s2 σ H2 (fun o H3 => o = none ∧ H3 = H2) I2 ⟨rfl, rfl⟩) fun vu s3 ⟨u, H3, I3, pu, eu, e3⟩ => ?_
  subst eu e3
  refine thn (step.run pins s3 σ H3 (fun o H4 => o = some (-1) ∧ H4 = H3) I3 ⟨1, rfl, -1, rfl, rfl, rfl⟩) fun vs s4 ⟨o, H4, I4, ps, eo, e4⟩ => ?_
  subst eo e4
  have I5 : Inv X pins σ H4 { s4 with heap := s4.heap.push { cls := .type "slice", data := .fields #[vl, vu, vs] } } := I4.kept (t' := s4.toks) fun b ob q => Heap.get?_push_of_some _ q
  rcases q1 with ⟨a, xs, ex, hx, q⟩ | ⟨a, xs, ex, hx, q⟩
  · subst ex
    cases r1
    obtain ⟨us, r, pt, hz⟩ := I5.list hx
    have hn := r.length
    refine tail_any (ops := [.ref a, .ref s4.heap.objs.size]) pt.isList.typeIs (PySem.slot_list_getitem.lookup) (wpAny_getItem_list_slice pt.isList (Heap.IsSliceOf.new _ vl vu vs) pl pu ps (by decide) ?_ (by rw [List.size_toArray]; omega)) (by with_unfolding_all rfl)
    rw [PySem.W.krv_pick]
    refine ⟨.ref _, _, I5.laid (t' := s4.toks) (o := .lst xs.reverse) (fun b ob q => Heap.get?_push_of_some _ q) (Nat.le_refl _) ?_, rfl, q _ (I5.hok.fresh (Nat.le_refl _))⟩
    exact ⟨by simpa using hz, _, 0, r.reverse, Heap.get?_push_size _ rfl⟩
  · subst ex
    cases r1
    obtain ⟨us, r, pt, hz⟩ := I5.tuple hx
    have hn := r.length
    refine tail_any (ops := [.ref a, .ref s4.heap.objs.size]) pt.typeIs (PyProof.Rows.slot_tuple_getitem.lookup) (getItem_tuple_rev pt (Heap.IsSliceOf.new _ vl vu vs) pl pu ps ?_ (by rw [List.size_toArray]; omega)) (by with_unfolding_all rfl)
    refine ⟨.ref _, _, I5.laid (t' := s4.toks) (o := .tup xs.reverse) (fun b ob q => Heap.get?_push_of_some _ q) (Nat.le_refl _) ?_, rfl, q _ (I5.hok.fresh (Nat.le_refl _))⟩
    exact ⟨by simpa using hz, _, r.reverse, IsTup.new _ _⟩
theorem de_rev {k : Nat} {p1 p2 p3 : Pos} (h : DE X W OW e m) : DE X W OW (.Subscript e (.Slice none none (some (.UnaryOp .USub (.Constant (.int 1) k p1) p2)) p3) pos) (mRev m) := by
  refine pe_le (pe_revA h) fun _ _ _ h => op1_le ?_ h
  intro H v1 x res Q h1 e q
  cases x with
  | list xs =>
    cases e
    obtain ⟨a, vs, rfl, sq, r⟩ := DV.sq h1
    exact .inl ⟨a, vs, rfl, sq, fun p hp => q _ _ (Post.olNew hp r.rev)⟩
  | tuple xs =>
    cases e
    obtain ⟨a, vs, rfl, sq, r⟩ := h1
    exact .inr ⟨a, vs, rfl, .inl (.inl sq), fun p hp => q _ _ (Post.tupNew hp r.rev)⟩
  | _ => cases e
end
end Pw

set_option Elab.async false
set_option linter.all false
set_option maxRecDepth 100000
set_option maxHeartbeats 2000000
/-! Pw: the built-in calls on data. -/
namespace Pw
open PySem PySem.Spec PyProof.Rows L2

section
variable {X : Cx} {W : WX} {OW : Nat → Bool} {kl : Bool} {x : Str} {id T : String} {r : List V → Hp → VK → Prop} {g : List D → Option R} {e e2 : Expr} {es : List Expr} {m m2 : ME} {ma : MA} {p pos : Pos}
theorem de_callB (hc : CallR X (.builtin id) r) (hq : OpN X.K kl r g) (hm : X.mg x = none) (ha : DA X W OW (e :: es) ma) (hg : Gl X x := by rfl) (hv : bootBuiltins x = some (.builtin id) := by decide +kernel) (hn : x ≠ "__name__" := by decide)
    (hdb : (x == ("__debug__" : Str)) = false := by decide) (he : starEach (e :: es) X.env = (false, eval e X.env) :: starEach es X.env := by rfl) (hpl : (backTo pos (starEach es X.env)).any (·.1) = false := by rfl) :
    DE X W OW (.Call (.Name x p) (e :: es) [] pos) (mN kl g ma) := pe_le (pe_callB hc hg hm hv ha hn hdb he hpl) fun _ _ _ h => opN_le hq h
theorem de_callT (hc : CallR X (.type T) r) (hq : OpN X.K kl r g) (hm : X.mg x = none) (ha : DA X W OW (e :: es) ma) (hg : Gl X x := by rfl) (hv : bootBuiltins x = some (.type T) := by decide +kernel) (hn : x ≠ "__name__" := by decide)
    (hdb : (x == ("__debug__" : Str)) = false := by decide) (he : starEach (e :: es) X.env = (false, eval e X.env) :: starEach es X.env := by rfl) (hpl : (backTo pos (starEach es X.env)).any (·.1) = false := by rfl) :
    DE X W OW (.Call (.Name x p) (e :: es) [] pos) (mN kl g ma) := pe_le (pe_callTy hc hg hm hv ha hn hdb he hpl) fun _ _ _ h => opN_le hq h
end
/-! ### ints -/
def pAbs : List D → Option R
  | [.int i] => some (.d (.int (if i < 0 then -i else i)))
  | _ => none
def pMax2 : List D → Option R
  | [.int i, .int j] => some (.d (.int (if j > i then j else i)))
  | _ => none
def pMin2 : List D → Option R
  | [.int i, .int j] => some (.d (.int (if j < i then j else i)))
  | _ => none
def pInt : List D → Option R
  | [.int i] => some (.d (.int i))
  | [.bool b] => some (.d (.int (if b then 1 else 0)))
  | _ => none
def pDivmod : List D → Option R
  | [.int i, .int j] => if decide (0 < j) && decide (j < 1073741824) then some (.d (.tuple [.int (i / j), .int (i % j)])) else none
  | _ => none
def asInts : List D → Option (List Int)
  | [] => some []
  | .int i :: r => (asInts r).map fun l => i :: l
  | _ :: _ => none
def asBls : List D → Option (List Bool)
  | [] => some []
  | .bool b :: r => (asBls r).map fun l => b :: l
  | _ :: _ => none
theorem asInts_map : ∀ {ds : List D} {ns : List Int}, asInts ds = some ns → ds = ns.map PyData.int
  | [], _, h => by cases h; rfl
  | d :: ds, ns, h => by
    cases d with
    | int i =>
      obtain ⟨l, h1, rfl⟩ := Option.map_eq_some_iff.mp (show (asInts ds).map (fun l => i :: l) = some ns from h)
      rw [asInts_map h1] <;> rfl
    | _ => cases h
theorem asInts_of : ∀ ns : List Int, asInts (ns.map PyData.int) = some ns
  | [] => rfl
  | n :: ns => by
    show (asInts (ns.map PyData.int)).map (fun l => n :: l) = _
    rw [asInts_of ns] <;> rfl
theorem asBls_map : ∀ {ds : List D} {ns : List Bool}, asBls ds = some ns → ds = ns.map PyData.bool
  | [], _, h => by cases h; rfl
  | d :: ds, ns, h => by
    cases d with
    | bool i =>
      obtain ⟨l, h1, rfl⟩ := Option.map_eq_some_iff.mp (show (asBls ds).map (fun l => i :: l) = some ns from h)
      rw [asBls_map h1] <;> rfl
    | _ => cases h
theorem asBls_of : ∀ ns : List Bool, asBls (ns.map PyData.bool) = some ns
  | [] => rfl
  | n :: ns => by
    show (asBls (ns.map PyData.bool)).map (fun l => n :: l) = _
    rw [asBls_of ns] <;> rfl
def pSum : List D → Option R
  | [.list xs] => (asInts xs).map fun ns => .d (.int ns.sum)
  | _ => none
def pAll : List D → Option R
  | [.list xs] => (asBls xs).map fun ns => bR (ns.all id)
  | _ => none
def pAny : List D → Option R
  | [.list xs] => (asBls xs).map fun ns => bR (ns.any id)
  | _ => none
def pTup : List D → Option R
  | [.list xs] => some (.d (.tuple xs))
  | [.tuple xs] => some (.d (.tuple xs))
  | _ => none
def pLst : List D → Option R
  | [.list xs] => some (.ol xs)
  | [.tuple xs] => some (.ol xs)
  | _ => none
section
variable {K : PySem.W.Frag} {kl : Bool}
theorem DVs.one {H : Hp} {vs : List V} {x : D} (h : DVs K kl H vs [x]) : ∃ v, vs = [v] ∧ DV K kl H v x := by
  cases h with
  | cons a t => cases t; exact ⟨_, rfl, a⟩
theorem DVs.two {H : Hp} {vs : List V} {x y : D} (h : DVs K kl H vs [x, y]) : ∃ v u, vs = [v, u] ∧ DV K kl H v x ∧ DV K kl H u y := by
  cases h with
  | cons a t => cases t with
    | cons b t => cases t; exact ⟨_, _, rfl, a, b⟩
theorem g_abs : OpN K kl (fun xs H Q => ∃ i, xs = [.int i] ∧ Q (.int (if i < 0 then -i else i)) H) pAbs := by
  intro H vs xs res Q h e q
  match xs, e with
  | [.int i], e =>
    cases e
    obtain ⟨v, rfl, hv⟩ := h.one
    cases hv
    exact ⟨i, rfl, q _ _ (Post.dat (.int _))⟩
theorem g_max2 : OpN K kl (fun xs H Q => ∃ i j, xs = [.int i, .int j] ∧ Q (.int (if j > i then j else i)) H) pMax2 := by
  intro H vs xs res Q h e q
  match xs, e with
  | [.int i, .int j], e =>
    cases e
    obtain ⟨v, u, rfl, hv, hu⟩ := h.two
    cases hv; cases hu
    exact ⟨i, j, rfl, q _ _ (Post.dat (.int _))⟩
theorem g_min2 : OpN K kl (fun xs H Q => ∃ i j, xs = [.int i, .int j] ∧ Q (.int (if j < i then j else i)) H) pMin2 := by
  intro H vs xs res Q h e q
  match xs, e with
  | [.int i, .int j], e =>
    cases e
    obtain ⟨v, u, rfl, hv, hu⟩ := h.two
    cases hv; cases hu
    exact ⟨i, j, rfl, q _ _ (Post.dat (.int _))⟩
theorem g_int : OpN K kl (fun xs H Q => (∃ i, xs = [.int i] ∧ Q (.int i) H) ∨ ∃ k, xs = [.bl k] ∧ Q (.int (if k then 1 else 0)) H) pInt := by
  intro H vs xs res Q h e q
  match xs, e with
  | [.int i], e =>
    cases e
    obtain ⟨v, rfl, hv⟩ := h.one
    cases hv
    exact .inl ⟨i, rfl, q _ _ (Post.dat (.int _))⟩
  | [.bool i], e =>
    cases e
    obtain ⟨v, rfl, hv⟩ := h.one
    cases hv
    exact .inr ⟨i, rfl, q _ _ (Post.dat (.int _))⟩
theorem g_divmod : OpN K kl (fun xs H Q => ∃ i j, xs = [.int i, .int j] ∧ CDiv i j ∧ ∀ p, H p = none → Q (.ref p) (upd H p (.tup [.int (i / j), .int (i % j)]))) pDivmod := by
  intro H vs xs res Q h e q
  match xs, e with
  | [.int i, .int j], e =>
    have e' : (if decide (0 < j) && decide (j < 1073741824) then some (R.d (.tuple [.int (i / j), .int (i % j)])) else none) = some res := e
    by_cases c : (decide (0 < j) && decide (j < 1073741824)) = true
    · rw [if_pos c] at e'
      cases e'
      obtain ⟨v, u, rfl, hv, hu⟩ := h.two
      cases hv; cases hu
      simp only [Bool.and_eq_true, decide_eq_true_eq] at c
      exact ⟨i, j, rfl, c, fun p hp => q _ _ (Post.tupNew hp (.cons (.int _) (.cons (.int _) .nil)))⟩
    · rw [if_neg c] at e'
      cases e'
theorem g_sum : OpN K kl (rSum K) pSum := by
  intro H vs xs res Q h e q
  match xs, e with
  | [.list l], e =>
    obtain ⟨ns, h1, h2⟩ := Option.map_eq_some_iff.mp (show (asInts l).map (fun ns => R.d (.int ns.sum)) = some res from e)
    subst h2
    obtain ⟨v, rfl, hv⟩ := h.one
    obtain ⟨a, ws, rfl, sq, r⟩ := hv.sq
    rw [asInts_map h1] at r
    rw [r.ints] at sq
    exact ⟨a, ns, rfl, sq, q _ _ (Post.dat (.int _))⟩
theorem g_all : OpN K kl (rAll K) pAll := by
  intro H vs xs res Q h e q
  match xs, e with
  | [.list l], e =>
    obtain ⟨ns, h1, h2⟩ := Option.map_eq_some_iff.mp (show (asBls l).map (fun ns => bR (ns.all id)) = some res from e)
    subst h2
    obtain ⟨v, rfl, hv⟩ := h.one
    obtain ⟨a, ws, rfl, sq, r⟩ := hv.sq
    rw [asBls_map h1] at r
    rw [r.bls] at sq
    exact ⟨a, ns, rfl, sq, q _ _ (Post.dat (.bl _))⟩
theorem g_any : OpN K kl (rAny K) pAny := by
  intro H vs xs res Q h e q
  match xs, e with
  | [.list l], e =>
    obtain ⟨ns, h1, h2⟩ := Option.map_eq_some_iff.mp (show (asBls l).map (fun ns => bR (ns.any id)) = some res from e)
    subst h2
    obtain ⟨v, rfl, hv⟩ := h.one
    obtain ⟨a, ws, rfl, sq, r⟩ := hv.sq
    rw [asBls_map h1] at r
    rw [r.bls] at sq
    exact ⟨a, ns, rfl, sq, q _ _ (Post.dat (.bl _))⟩
theorem g_tup : OpN K kl (fun xs H Q => ∃ p ys, xs = [.ref p] ∧ ((SqL K H p ys ∧ ∀ l, H l = none → Q (.ref l) (upd H l (.tup ys))) ∨ (SqT K H p ys ∧ Q (.ref p) H))) pTup := by
  intro H vs xs res Q h e q
  match xs, e with
  | [.list l], e =>
    cases e
    obtain ⟨v, rfl, hv⟩ := h.one
    obtain ⟨a, ws, rfl, sq, r⟩ := hv.sq
    exact ⟨a, ws, rfl, .inl ⟨sq, fun l hl => q _ _ (Post.tupNew hl r)⟩⟩
  | [.tuple l], e =>
    cases e
    obtain ⟨v, rfl, hv⟩ := h.one
    obtain ⟨a, ws, rfl, sq, r⟩ := hv
    exact ⟨a, ws, rfl, .inr ⟨.inl (.inl sq), q _ _ (Post.dat (.tup sq r))⟩⟩
theorem g_lst : OpN K kl (fun xs H Q => ∃ p ys, xs = [.ref p] ∧ (SqL K H p ys ∨ SqT K H p ys) ∧ ∀ l, H l = none → Q (.ref l) (upd H l (.lst ys))) pLst := by
  intro H vs xs res Q h e q
  match xs, e with
  | [.list l], e =>
    cases e
    obtain ⟨v, rfl, hv⟩ := h.one
    obtain ⟨a, ws, rfl, sq, r⟩ := hv.sq
    exact ⟨a, ws, rfl, .inl sq, fun l hl => q _ _ (Post.olNew hl r)⟩
  | [.tuple l], e =>
    cases e
    obtain ⟨v, rfl, hv⟩ := h.one
    obtain ⟨a, ws, rfl, sq, r⟩ := hv
    exact ⟨a, ws, rfl, .inr (.inl (.inl sq)), fun l hl => q _ _ (Post.olNew hl r)⟩
end
/-! ### tuple(range(..)), list(range(..)) -/
def rgD (a b : Int) : List D := (List.range (b - a).toNat).map fun i => PyData.int (a + (i : Nat))
def rgOk (a b : Int) : Bool := decide (-4611686018427387904 ≤ a) && decide (a < 4611686018427387904) && decide (-4611686018427387904 ≤ b) && decide (b < 4611686018427387904) && decide ((b - a).toNat ≤ 16777216)
theorem rgOk_ok {a b : Int} (h : rgOk a b = true) : RgOk a b := by
  unfold rgOk at h
  simp only [Bool.and_eq_true, decide_eq_true_eq] at h
  exact ⟨by omega, by omega, by omega, by omega, by omega⟩
theorem rd_rg {H : Hp} (a b : Int) : RDs H (rgV a b) (rgD a b) := by
  have e : rgV a b = ((List.range (b - a).toNat).map fun i => a + ((i : Nat) : Int)).map V.int := by rw [List.map_map]; rfl
  have e2 : rgD a b = ((List.range (b - a).toNat).map fun i => a + ((i : Nat) : Int)).map PyData.int := by rw [List.map_map]; rfl
  rw [e, e2]
  exact RDs.of_ints _
/-- what is asked of a range -/
abbrev MG := En → Res (Int × Int)
def mG1 (m : ME) : MG := fun env => (m env).bind fun r e => match r.dat true e with
  | some (.int n) => .ok (0, n) e
  | _ => .st
def mG2 (m n : ME) : MG := fun env => (m env).bind fun r e => (n e).bind fun r2 e2 => match r.dat true e2, r2.dat true e2 with
  | some (.int a), some (.int b) => .ok (a, b) e2
  | _, _ => .st
def tG (C : Cy) (m : MG) : L2.St → Hp → (Int → Int → Hp → Prop) → Prop := fun σ H Q => ∃ H0 P env L, Rel C.K C.OW H0 P env σ H L ∧ Sat C H0 P σ L (m env) fun p e => ∀ H', Rel C.K C.OW H0 P e σ H' L → Q p.1 p.2 H'
abbrev DG (X : Cx) (W : WX) (OW : Nat → Bool) (e : Expr) (m : MG) : Prop := PRg X e (tG (cy X W OW) m)
def mRgL (m : MG) : ME := fun env => (m env).bind fun p e => if rgOk p.1 p.2 = true then .ok (.ol (rgD p.1 p.2)) e else .st
def mRgT (m : MG) : ME := fun env => (m env).bind fun p e => if rgOk p.1 p.2 = true then .ok (.d (.tuple (rgD p.1 p.2))) e else .st
section
variable {X : Cx} {W : WX} {OW : Nat → Bool} {a b e : Expr} {m n : ME} {mg : MG} {p pos : Pos}
theorem dg_1 (hm : X.mg "range" = none) (ha : DE X W OW a m) (hg : Gl X "range" := by rfl) (na : starEach [a] X.env = (false, eval a X.env) :: starEach [] X.env := by rfl) : DG X W OW (.Call (.Name "range" p) [a] [] pos) (mG1 m) := by
  intro pins s σ H Q I ⟨H0, P, env, L, Rl, S⟩
  refine prg_1 hg hm ha na pins s σ H Q I ⟨H0, P, env, L, Rl, (Sat.bind S).mono fun r e1 _ S1 v H1 R1 => ?_⟩
  cases h1 : r.dat true e1 with
  | none => simp only [h1] at S1; exact S1.elim
  | some d =>
    cases d with
    | int i =>
      simp only [h1] at S1
      exact ⟨i, R1.dv List.mem_cons_self h1, S1 H1 R1.drop⟩
    | _ => simp only [h1] at S1; exact S1.elim
theorem dg_2 (hm : X.mg "range" = none) (ha : DE X W OW a m) (hb : DE X W OW b n) (hg : Gl X "range" := by rfl) (na : starEach [a, b] X.env = (false, eval a X.env) :: starEach [b] X.env := by rfl)
    (nb : starEach [b] X.env = (false, eval b X.env) :: starEach [] X.env := by rfl) (hp : (backTo pos (starEach [b] X.env)).any (·.1) = false := by rfl) : DG X W OW (.Call (.Name "range" p) [a, b] [] pos) (mG2 m n) := by
  intro pins s σ H Q I ⟨H0, P, env, L, Rl, S⟩
  refine prg_2 hg hm ha hb na nb hp pins s σ H Q I ⟨H0, P, env, L, Rl, (Sat.bind S).mono fun r e1 _ S1 v H1 R1 => ⟨H0, P, e1, (v, r) :: L, R1, ?_⟩⟩
  refine ((Sat.bind S1).wait fun _ _ q => q.drop).mono fun r2 e2 _ S2 u H2 R2 => ?_
  cases h1 : r.dat true e2 with
  | none => simp only [h1] at S2; exact S2.elim
  | some d =>
    cases h2 : r2.dat true e2 with
    | none => cases d <;> (simp only [h1, h2] at S2; exact S2.elim)
    | some d2 =>
      cases d with
      | int i =>
        cases d2 with
        | int j =>
          simp only [h1, h2] at S2
          exact ⟨i, j, R2.dv (List.mem_cons_of_mem _ List.mem_cons_self) h1, R2.dv List.mem_cons_self h2, S2 H2 R2.drop.drop⟩
        | _ => simp only [h1, h2] at S2; exact S2.elim
      | _ => simp only [h1, h2] at S2; exact S2.elim
theorem de_rgL (hc : X.calm = true) (hm : X.mg "list" = none) (h : DG X W OW e mg) (hg : Gl X "list" := by rfl) (na : starEach [e] X.env = (false, eval e X.env) :: starEach [] X.env := by rfl) : DE X W OW (.Call (.Name "list" p) [e] [] pos) (mRgL mg) := by
  refine pe_le (pe_listRg hc hg hm h na) fun σ H Q ⟨H0, P, env, L, Rl, S⟩ => ⟨H0, P, env, L, Rl, (Sat.bind S).mono fun ab e1 _ S1 H1 R1 => ?_⟩
  by_cases c : rgOk ab.1 ab.2 = true
  · rw [if_pos c] at S1
    exact ⟨rgOk_ok c, fun q hq => S1 _ _ (R1.post (Post.olNew hq (rd_rg _ _)))⟩
  · rw [if_neg c] at S1
    exact S1.elim
theorem de_rgT (hc : X.calm = true) (hm : X.mg "tuple" = none) (h : DG X W OW e mg) (hg : Gl X "tuple" := by rfl) (na : starEach [e] X.env = (false, eval e X.env) :: starEach [] X.env := by rfl) : DE X W OW (.Call (.Name "tuple" p) [e] [] pos) (mRgT mg) := by
  refine pe_le (pe_tupRg hc hg hm h na) fun σ H Q ⟨H0, P, env, L, Rl, S⟩ => ⟨H0, P, env, L, Rl, (Sat.bind S).mono fun ab e1 _ S1 H1 R1 => ?_⟩
  by_cases c : rgOk ab.1 ab.2 = true
  · rw [if_pos c] at S1
    exact ⟨rgOk_ok c, fun q hq => S1 _ _ (R1.post (Post.tupNew hq (rd_rg _ _)))⟩
  · rw [if_neg c] at S1
    exact S1.elim
end
/-! ### isinstance -/
def tyD : D → String
  | .none => "NoneType"
  | .bool _ => "bool"
  | .int _ => "int"
  | .str _ => "str"
  | .list _ => "list"
  | .tuple _ => "tuple"
  | .dict _ => "dict"
def noDict : D → Bool
  | .dict _ => false
  | _ => true
def isiD (T : String) (x : D) : Option R := if noDict x = true then (kitB (tyD x) T).map bR else none
def isi2D (T U : String) (x : D) : Option R := if noDict x = true then match kitB (tyD x) T, kitB (tyD x) U with
  | some a, some b => some (bR (a || b))
  | _, _ => none else none
section
variable {K : PySem.W.Frag} {H : Hp} {v : V} {x : D}
theorem DV.ty (h : DV K false H v x) (n : noDict x = true) : TyX K H v (.type (tyD x)) := by
  cases x with
  | none => cases h; exact .base .non
  | bool b => cases h; exact .base (.bl b)
  | int i => cases h; exact .base (.int i)
  | str y => cases h; exact .base (.str y)
  | list ds =>
    obtain ⟨a, vs, rfl, rd, r⟩ := h.rd
    rcases rd with rd | ⟨o, rd⟩
    · exact .base (.lst rd)
    · exact .base (.frz rd)
  | tuple ds =>
    obtain ⟨a, vs, rfl, rd, r⟩ := h
    exact .base (.tup rd)
  | dict ds => cases n
end
section
variable {X : Cx} {W : WX} {OW : Nat → Bool} {e : Expr} {m : ME} {p p1 p2 p3 pos : Pos} {x y : Str} {T U : String} {k1 : ExprContext}
theorem de_isi (hm : X.mg "isinstance" = none) (h : DE X W OW e m) (hx : X.mg x = none) (hg : Gl X "isinstance" := by rfl) (hgx : Gl X x := by rfl) (hv : bootBuiltins x = some (.type T) := by decide +kernel) (hn : x ≠ "__name__" := by decide) (hd : (x == ("__debug__" : Str)) = false := by decide)
    (na : starEach [e, .Name x p1] X.env = (false, eval e X.env) :: starEach [.Name x p1] X.env := by rfl) : DE X W OW (.Call (.Name "isinstance" p) [e, .Name x p1] [] pos) (m1 false (isiD T) m) := by
  refine pe_le (pe_callB (id := "isinstance") call_isi hg hm (by decide +kernel) (pa_cons h (pa_cons (pe_bltn (v := .ty T) hgx hx hv rfl hn hd) pa_nil) na) (by decide) (by decide) na rfl) fun σ H Q ⟨H0, P, env, L, Rl, S⟩ => ⟨H0, P, env, L, Rl, (Sat.bind S).mono fun r e1 _ S1 v H1 R1 => ?_⟩
  cases h1 : r.dat false e1 with
  | none => simp only [h1] at S1; exact S1.elim
  | some d =>
    simp only [h1] at S1
    unfold isiD at S1
    by_cases c : noDict d = true
    · rw [if_pos c] at S1
      cases hk : kitB (tyD d) T with
      | none => rw [hk] at S1; exact S1.elim
      | some b =>
        rw [hk] at S1
        exact ⟨v, .ty T, _, _, b, rfl, .ty T, (R1.dv List.mem_cons_self h1).ty c, kit_ty hk, S1 _ _ (R1.drop.post (Post.dat (.bl b)))⟩
    · rw [if_neg c] at S1; exact S1.elim
theorem de_isi2 {x3} (hm : X.mg "isinstance" = none) (h : DE X W OW e m) (hx : X.mg x = none) (hy : X.mg y = none) (hg : Gl X "isinstance" := by rfl) (hgx : Gl X x := by rfl) (hgy : Gl X y := by rfl) (hv : bootBuiltins x = some (.type T) := by decide +kernel) (hu : bootBuiltins y = some (.type U) := by decide +kernel)
    (hn : x ≠ "__name__" := by decide) (hd : (x == ("__debug__" : Str)) = false := by decide) (hn2 : y ≠ "__name__" := by decide) (hd2 : (y == ("__debug__" : Str)) = false := by decide)
    (na : starEach [e, .Tuple [.Name x p1, .Name y p2] x3 p3] X.env = (false, eval e X.env) :: starEach [.Tuple [.Name x p1, .Name y p2] x3 p3] X.env := by rfl) : DE X W OW (.Call (.Name "isinstance" p) [e, .Tuple [.Name x p1, .Name y p2] x3 p3] [] pos) (m1 false (isi2D T U) m) := by
  refine pe_le (pe_callB (id := "isinstance") call_isiT hg hm (by decide +kernel) (pa_cons h (pa_cons (pe_tup (pa_cons (pe_bltn (v := .ty T) hgx hx hv rfl hn hd) (pa_cons (pe_bltn (v := .ty U) hgy hy hu rfl hn2 hd2) pa_nil))) pa_nil) na) (by decide) (by decide) na rfl) fun σ H Q ⟨H0, P, env, L, Rl, S⟩ => ⟨H0, P, env, L, Rl, (Sat.bind S).mono fun r e1 _ S1 v H1 R1 => ?_⟩
  cases h1 : r.dat false e1 with
  | none => simp only [h1] at S1; exact S1.elim
  | some d =>
    simp only [h1] at S1
    unfold isi2D at S1
    by_cases c : noDict d = true
    · rw [if_pos c] at S1
      cases hk : kitB (tyD d) T with
      | none => simp only [hk] at S1; exact S1.elim
      | some b =>
        cases hk2 : kitB (tyD d) U with
        | none => simp only [hk, hk2] at S1; exact S1.elim
        | some b2 =>
          simp only [hk, hk2] at S1
          refine ⟨by rw [sizeLine_eq]; show 2 ≤ 16777216; decide, fun tp htp => ?_⟩
          have R2 : Rel X.K OW H0 P e1 σ (upd H1 tp (.tup [.ty T, .ty U])) ((v, r) :: L) := R1.grow fun b o e => by rw [upd_ne (ne_of_none e htp)]; exact e
          refine ⟨v, tp, [.ty T, .ty U], .type (tyD d), [.type T, .type U], b || b2, rfl, upd_same, .cons (.ty T) (.cons (.ty U) .nil), (R2.dv List.mem_cons_self h1).ty c, ?_, S1 _ _ (R2.drop.post (Post.dat (.bl _)))⟩
          refine kitAny_cons (kit_ty hk) (fun eb => ?_) fun eb => by rw [eb]; rfl
          refine kitAny_cons (kit_ty hk2) (fun eb2 => ?_) fun eb2 => by rw [eb2, Bool.or_true]
          rw [eb, eb2]; rfl
    · rw [if_neg c] at S1; exact S1.elim
end
/-! ### repr of lists, tuples -/
def isSq : D → Bool
  | .list _ => true
  | .tuple _ => true
  | _ => false
def showOk (d : D) : Bool := isSq d && okD 40 d && d.showable && decide (d.shown.length ≤ 16777216)
def pRepr : List D → Option R
  | [d] => if showOk d = true then some (.d (.str d.shown)) else none
  | _ => none
def rReprD (K : PySem.W.Frag) : List V → Hp → VK → Prop := fun xs H Q => ∃ v d, xs = [v] ∧ DV K false H v d ∧ showOk d = true ∧ Q (.str d.shown) H
section
variable {X : Cx}
theorem o_repr (hg : X.A.guards = some []) (hu : X.A.units + 64 < cLine) : CallR X (.builtin "repr") (rReprD X.K) := by
  intro pins s σ H xs us Q I r h
  obtain ⟨v, d, rfl, hv, ok, q⟩ := h
  unfold showOk at ok
  simp only [Bool.and_eq_true, decide_eq_true_eq] at ok
  obtain ⟨⟨⟨sq, okd⟩, sh⟩, ln⟩ := ok
  obtain ⟨u, rfl, ru⟩ := vals1 r
  obtain ⟨as, rd⟩ := Dp.reads I d v u (hv.dp okd) ru
  obtain ⟨lay, dep⟩ := okD_lay 40 d okd
  have hu' : ∃ a, u = .ref a := by
    cases d with
    | list ds => cases rd; exact ⟨_, rfl⟩
    | tuple ds => cases rd; exact ⟨_, rfl⟩
    | _ => cases sq
  obtain ⟨a, rfl⟩ := hu'
  exact repr_of_reads' rd sh (PyData.noDict_hsm (PyData.hasDict_of_canLay d lay)) hg (by omega) (fun _ _ e => e) (fun h' t tk hk => ⟨.str d.shown, H, I.kept hk, ⟨t, rfl⟩, q⟩) (by rw [sizeLine_eq]; exact ln)
theorem g_repr {K : PySem.W.Frag} : OpN K false (rReprD K) pRepr := by
  intro H vs xs res Q h e q
  match xs, e with
  | [d], e =>
    have e' : (if showOk d = true then some (R.d (.str d.shown)) else none) = some res := e
    by_cases c : showOk d = true
    · rw [if_pos c] at e'
      cases e'
      obtain ⟨v, rfl, hv⟩ := h.one
      exact ⟨v, d, rfl, hv, c, q _ _ (Post.dat (.str _))⟩
    · rw [if_neg c] at e'; cases e'
end
end Pw

set_option Elab.async false
set_option linter.all false
set_option maxRecDepth 100000
set_option maxHeartbeats 2000000
/-! Pw: tests, and/or/not, chains, calls with known defs. -/
namespace Pw
open PySem PySem.Spec PyProof.Rows L2

/-- a value that is a bool, as a test -/
def mTst (m : ME) : MT := fun env => (m env).bind fun r e => match r with
  | .d (.bool b) => .ok b e
  | _ => .st
def mAndT (a b : MT) : MT := fun env => (a env).bind fun c e => if c = true then b e else .ok false e
def mOrT (a b : MT) : MT := fun env => (a env).bind fun c e => if c = true then .ok true e else b e
def mNotT (a : MT) : MT := fun env => (a env).bind fun c e => .ok (!c) e
/-- a test as a value -/
def mBV (a : MT) : ME := fun env => (a env).bind fun c e => .ok (.d (.bool c)) e
def mIf (t : MT) (a b : ME) : ME := fun env => (t env).bind fun c e => if c = true then a e else b e
def mAndV (a : MT) (b : ME) : ME := fun env => (a env).bind fun c e => if c = true then b e else .ok (.d (.bool false)) e
def mOrV (a : MT) (b : ME) : ME := fun env => (a env).bind fun c e => if c = true then .ok (.d (.bool true)) e else b e
/-- a op b op' c -/
def mCh (g g' : D → D → Option R) (kl kl' : Bool) (a b c : ME) : ME := fun env => (a env).bind fun r1 e1 => (b e1).bind fun r2 e2 => match r1.dat kl e2, r2.dat kl e2 with
  | some x, some y => match g x y with
    | some (.d (.bool k)) => if k = true then (c e2).bind fun r3 e3 => match r2.dat kl' e3, r3.dat kl' e3 with
        | some y', some z => match g' y' z with
          | some r => .ok r e3
          | none => .st
        | _, _ => .st
      else .ok (.d (.bool false)) e2
    | _ => .st
  | _, _ => .st
section
variable {X : Cx} {W : WX} {OW : Nat → Bool} {kl kl' : Bool} {a b c e : Expr} {rest : List Expr} {m ma mb mc : ME} {ta tb tc : MT} {pos : Pos} {g g' : D → D → Option R} {r r' : R2}
theorem dt_val (h : DE X W OW e m) (he : ∀ whole, isTrue e X.env whole = (do let v ← whole; standAt e.pos; holding [v] (truthy v)) := by intro _; rfl) : DT X W OW e (mTst m) := by
  refine pt_le (pt_val h he) fun σ H Q ⟨H0, P, env, L, Rl, S⟩ => ⟨H0, P, env, L, Rl, (Sat.bind S).mono fun r e1 _ S1 v H1 R1 => ?_⟩
  cases r with
  | d x =>
    cases x with
    | bool k =>
      have h1 : RD H1 v (.bool k) := R1.pend (v, .d (.bool k)) List.mem_cons_self
      cases h1
      exact ⟨k, rfl, S1 H1 R1.drop⟩
    | _ => exact S1.elim
  | _ => exact S1.elim
theorem dt_cmpR {op : CmpOp} (ho : OpR X (compareOp op) r) (hg : Op2 X.K kl r g) (ha : DE X W OW a ma) (hb : DE X W OW b mb) (hm : behindInMarks op b = false) : DT X W OW (.Compare a [op] [b] pos) (mTst (m2 kl g ma mb)) := by
  refine pt_le (pt_cmpR ho ha hb hm) fun σ H Q ⟨H0, P, env, L, Rl, S⟩ => ?_
  refine op2_le (W := W) (OW := OW) hg (ma := ma) (mb := mb) (Q := fun x H' => ∃ k, x = .bl k ∧ Q k H') ⟨H0, P, env, L, Rl, (Sat.bind S).mono fun r e1 _ S1 v H1 R1 => ?_⟩
  cases r with
  | d x =>
    cases x with
    | bool k =>
      have h1 : RD H1 v (.bool k) := R1.pend (v, .d (.bool k)) List.mem_cons_self
      cases h1
      exact ⟨k, rfl, S1 H1 R1.drop⟩
    | _ => exact S1.elim
  | _ => exact S1.elim
theorem ch_le (hg : Op2 X.K kl r g) (hg' : Op2 X.K kl' r' g') {σ : L2.St} {H : Hp} {Q : VK} (h : tD (cy X W OW) (mCh g g' kl kl' ma mb mc) σ H Q) : tChain r r' (tD (cy X W OW) ma) (tD (cy X W OW) mb) (tD (cy X W OW) mc) σ H Q := by
  obtain ⟨H0, P, env, L, Rl, S⟩ := h
  refine ⟨H0, P, env, L, Rl, (Sat.bind S).mono fun r1 e1 _ S1 v H1 R1 => ⟨H0, P, e1, (v, r1) :: L, R1, ?_⟩⟩
  refine ((Sat.bind S1).wait fun _ _ q => q.drop).mono fun r2 e2 _ S2 u H2 R2 => ?_
  cases h1 : r1.dat kl e2 with
  | none => simp only [h1] at S2; exact S2.elim
  | some x =>
    cases h2 : r2.dat kl e2 with
    | none => simp only [h1, h2] at S2; exact S2.elim
    | some y =>
      simp only [h1, h2] at S2
      cases h3 : g x y with
      | none => simp only [h3] at S2; exact S2.elim
      | some res =>
        cases res with
        | d z =>
          cases z with
          | bool k =>
            simp only [h3] at S2
            refine hg H2 v u x y _ _ (R2.dv (List.mem_cons_of_mem _ List.mem_cons_self) h1) (R2.dv List.mem_cons_self h2) h3 fun w H' p => ?_
            have rb : RD H' w (.bool k) := p.2.1
            cases rb
            refine ⟨k, rfl, ?_⟩
            have R3 := R2.grow p.1
            have R4 : Rel X.K OW H0 P e2 σ H' ((u, r2) :: L) := R3.sub (List.Sublist.cons_cons _ (List.sublist_cons_self _ _))
            cases k with
            | false =>
              rw [if_neg Bool.false_ne_true] at S2 ⊢
              exact S2 _ _ (R4.drop.post (Post.dat (.bl false)))
            | true =>
              rw [if_pos rfl] at S2 ⊢
              refine ⟨H0, P, e2, (u, r2) :: L, R4, ((Sat.bind S2).wait fun _ _ q => q.drop).mono fun r3 e3 _ S3 w3 H3 R5 => ?_⟩
              cases h4 : r2.dat kl' e3 with
              | none => simp only [h4] at S3; exact S3.elim
              | some y' =>
                cases h5 : r3.dat kl' e3 with
                | none => simp only [h4, h5] at S3; exact S3.elim
                | some z =>
                  simp only [h4, h5] at S3
                  cases h6 : g' y' z with
                  | none => simp only [h6] at S3; exact S3.elim
                  | some res =>
                    simp only [h6] at S3
                    exact hg' H3 u w3 y' z res Q (R5.dv (List.mem_cons_of_mem _ List.mem_cons_self) h4) (R5.dv List.mem_cons_self h5) h6 fun w4 H4 p4 => S3 w4 H4 (R5.drop.drop.post p4)
          | _ => simp only [h3] at S2; exact S2.elim
        | _ => simp only [h3] at S2; exact S2.elim
theorem de_chain {op op' : CmpOp} (ho : OpR X (compareOp op) r) (hg : Op2 X.K kl r g) (ho' : OpR X (compareOp op') r') (hg' : Op2 X.K kl' r' g') (ha : DE X W OW a ma) (hb : DE X W OW b mb) (hc : DE X W OW c mc)
    (hm : lastMarks [op, op'] [b, c] = false := by with_unfolding_all rfl) : DE X W OW (.Compare a [op, op'] [b, c] pos) (mCh g g' kl kl' ma mb mc) := pe_le (pe_chain ho ho' ha hb hc hm) fun _ _ _ h => ch_le hg hg' h
theorem dt_chain {op op' : CmpOp} (ho : OpR X (compareOp op) r) (hg : Op2 X.K kl r g) (ho' : OpR X (compareOp op') r') (hg' : Op2 X.K kl' r' g') (ha : DE X W OW a ma) (hb : DE X W OW b mb) (hc : DE X W OW c mc)
    (hm : lastMarks [op, op'] [b, c] = false := by with_unfolding_all rfl) : DT X W OW (.Compare a [op, op'] [b, c] pos) (mTst (mCh g g' kl kl' ma mb mc)) := by
  refine pt_le (pt_chain ho ho' ha hb hc hm) fun σ H Q ⟨H0, P, env, L, Rl, S⟩ => ?_
  refine ch_le (W := W) (OW := OW) hg hg' (ma := ma) (mb := mb) (mc := mc) (Q := fun x H' => ∃ k, x = .bl k ∧ Q k H') ⟨H0, P, env, L, Rl, (Sat.bind S).mono fun r e1 _ S1 v H1 R1 => ?_⟩
  cases r with
  | d x =>
    cases x with
    | bool k =>
      have h1 : RD H1 v (.bool k) := R1.pend (v, .d (.bool k)) List.mem_cons_self
      cases h1
      exact ⟨k, rfl, S1 H1 R1.drop⟩
    | _ => exact S1.elim
  | _ => exact S1.elim
theorem dw_and1 (ha : DT X W OW a ta) : DW X W OW (.BoolOp .And [a] pos) ta := pw_and1 ha
theorem dw_or1 (ha : DT X W OW a ta) : DW X W OW (.BoolOp .Or [a] pos) ta := pw_or1 ha
theorem dw_and (ha : DT X W OW a ta) (hb : DW X W OW (.BoolOp .And (b :: rest) pos) tb) : DW X W OW (.BoolOp .And (a :: b :: rest) pos) (mAndT ta tb) := by
  refine pw_le (pw_and ha hb) fun σ H Q ⟨H0, P, env, L, Rl, S⟩ => ⟨H0, P, env, L, Rl, (Sat.bind S).mono fun k e1 _ S1 H1 R1 => ?_⟩
  cases k with
  | true => exact ⟨H0, P, e1, L, R1, S1⟩
  | false => exact S1 H1 R1
theorem dw_or (ha : DT X W OW a ta) (hb : DW X W OW (.BoolOp .Or (b :: rest) pos) tb) : DW X W OW (.BoolOp .Or (a :: b :: rest) pos) (mOrT ta tb) := by
  refine pw_le (pw_or ha hb) fun σ H Q ⟨H0, P, env, L, Rl, S⟩ => ⟨H0, P, env, L, Rl, (Sat.bind S).mono fun k e1 _ S1 H1 R1 => ?_⟩
  cases k with
  | true => exact S1 H1 R1
  | false => exact ⟨H0, P, e1, L, R1, S1⟩
theorem dt_w (h : DW X W OW e ta) : DT X W OW e ta := PW.pt h
theorem dt_not (ha : DT X W OW a ta) : DT X W OW (.UnaryOp .Not a pos) (mNotT ta) := by
  refine pt_le (pt_not ha) fun σ H Q ⟨H0, P, env, L, Rl, S⟩ => ⟨H0, P, env, L, Rl, (Sat.bind S).mono fun k e1 _ S1 H1 R1 => S1 H1 R1⟩
/-- as values: the items are bools -/
theorem bl_of {H : Hp} {σ : L2.St} {H0 : Hp} {P : List (Option Addr)} {e1 : En} {L : Pe} {v : V} {k : Bool} (R1 : Rel X.K OW H0 P e1 σ H ((v, .d (.bool k)) :: L)) : v = .bl k := by
  have h1 : RD H v (.bool k) := R1.pend (v, .d (.bool k)) List.mem_cons_self
  cases h1
  rfl
theorem de_and (ha : DE X W OW a ma) (hb : DE X W OW (.BoolOp .And (b :: rest) pos) mb) : DE X W OW (.BoolOp .And (a :: b :: rest) pos) (mAndV (mTst ma) mb) := by
  refine pe_le (pe_and ha hb) fun σ H Q ⟨H0, P, env, L, Rl, S⟩ => ⟨H0, P, env, L, Rl, (Sat.bind (Sat.bind S)).mono fun r e1 _ S1 v H1 R1 => ?_⟩
  cases r with
  | d x =>
    cases x with
    | bool k =>
      refine ⟨k, bl_of R1, ?_⟩
      have S2 : Sat (cy X W OW) H0 P σ L (if k = true then mb e1 else .ok (.d (.bool false)) e1) (okE (cy X W OW) H0 P σ L Q) := S1
      cases k with
      | true => exact ⟨H0, P, e1, L, R1.drop, S2⟩
      | false => exact S2 _ _ (R1.drop.post (Post.dat (.bl false)))
    | _ => exact S1.elim
  | _ => exact S1.elim
theorem de_or (ha : DE X W OW a ma) (hb : DE X W OW (.BoolOp .Or (b :: rest) pos) mb) : DE X W OW (.BoolOp .Or (a :: b :: rest) pos) (mOrV (mTst ma) mb) := by
  refine pe_le (pe_or ha hb) fun σ H Q ⟨H0, P, env, L, Rl, S⟩ => ⟨H0, P, env, L, Rl, (Sat.bind (Sat.bind S)).mono fun r e1 _ S1 v H1 R1 => ?_⟩
  cases r with
  | d x =>
    cases x with
    | bool k =>
      refine ⟨k, bl_of R1, ?_⟩
      have S2 : Sat (cy X W OW) H0 P σ L (if k = true then .ok (.d (.bool true)) e1 else mb e1) (okE (cy X W OW) H0 P σ L Q) := S1
      cases k with
      | false => exact ⟨H0, P, e1, L, R1.drop, S2⟩
      | true => exact S2 _ _ (R1.drop.post (Post.dat (.bl true)))
    | _ => exact S1.elim
  | _ => exact S1.elim
theorem de_one {op} (h : DE X W OW a ma) : DE X W OW (.BoolOp op [a] pos) ma := pe_one h
theorem de_not (ha : DE X W OW a ma) : DE X W OW (.UnaryOp .Not a pos) (mBV (mNotT (mTst ma))) := by
  refine pe_le (pe_not ha) fun σ H Q ⟨H0, P, env, L, Rl, S⟩ => ⟨H0, P, env, L, Rl, (Sat.bind (Sat.bind (Sat.bind S))).mono fun r e1 _ S1 v H1 R1 => ?_⟩
  cases r with
  | d x =>
    cases x with
    | bool k => exact ⟨k, bl_of R1, S1 _ _ (R1.drop.post (Post.dat (.bl _)))⟩
    | _ => exact S1.elim
  | _ => exact S1.elim
theorem de_ifx (hc : DT X W OW c tc) (ha : DE X W OW a ma) (hb : DE X W OW b mb) : DE X W OW (.IfExp c a b pos) (mIf tc ma mb) := by
  refine pe_le (pe_ifExp hc ha hb) fun σ H Q ⟨H0, P, env, L, Rl, S⟩ => ⟨H0, P, env, L, Rl, (Sat.bind S).mono fun k e1 _ S1 H1 R1 => ?_⟩
  cases k with
  | true => exact ⟨H0, P, e1, L, R1, S1⟩
  | false => exact ⟨H0, P, e1, L, R1, S1⟩
end
end Pw

set_option Elab.async false
set_option linter.all false
set_option maxRecDepth 100000
set_option maxHeartbeats 2000000
/-! Pw: what loops and comprehensions walk; targets. -/
namespace Pw
open PySem PySem.Spec PyProof.Rows L2

/-- an iterator that yields just these -/
def SrcOk (H : Hp) (J : It) (ds : List D) : Prop := ∀ H', Kp H H' → ∀ i, (∀ d, ds[i]? = some d → J.go i H' ∧ ∀ x H'', J.yld i H' x H'' → Same H' H'' ∧ RD H'' x d) ∧ (ds.length ≤ i → J.stop i H')
abbrev MI := En → Res (List D)
def tI (C : Cy) (m : MI) : TI := fun σ H R => ∃ H0 P env L, Rel C.K C.OW H0 P env σ H L ∧ Sat C H0 P σ L (m env) fun ds e => ∀ H' J, Rel C.K C.OW H0 P e σ H' L → SrcOk H' J ds → R J H'
abbrev DI (X : Cx) (W : WX) (OW : Nat → Bool) (tg e : Expr) (m : MI) : Prop := PI X tg e (tI (cy X W OW) m)
/-- a frozen list, a tuple, the script -/
def sqD : R → Option (List D)
  | .d (.list ds) => some ds
  | .d (.tuple ds) => some ds
  | .kl ds => some ds
  | _ => none
def mSq (m : ME) : MI := fun env => (m env).bind fun r e => match sqD r with
  | some ds => .ok ds e
  | none => .st
def mRgI (m : MG) : MI := fun env => (m env).bind fun p e => if rgOk p.1 p.2 = true then .ok (rgD p.1 p.2) e else .st
/-- enumerate, zip -/
def numD (ds : List D) : List D := ds.mapIdx fun i d => .tuple [.int (i : Nat), d]
def mEnum (m : ME) : MI := fun env => (mSq m env).bind fun ds e => .ok (numD ds) e
def zipD (xs ys : List D) : List D := List.zipWith (fun x y => .tuple [x, y]) xs ys
def sqK : R → R → Option (List D)
  | .d (.list xs), .d (.list ys) => some (zipD xs ys)
  | .d (.tuple xs), .d (.tuple ys) => some (zipD xs ys)
  | _, _ => none
def mZip (m n : ME) : MI := fun env => (m env).bind fun r e => (n e).bind fun r2 e2 => match sqK r r2 with
  | some ds => .ok ds e2
  | none => .st
section
variable {K : PySem.W.Frag} {H H' : Hp}
theorem src_list {a : Addr} {vs : List V} {ds : List D} (hs : ∀ H', Kp H H' → SqL K H' a vs) (r : RDs H vs ds) : SrcOk H (Itl K a) ds := fun H' k i => by
  have s := hs H' k
  refine ⟨fun d e => ?_, fun h => ⟨vs, s, by rw [r.length]; exact h⟩⟩
  obtain ⟨v, e1, rv⟩ := r.get e
  refine ⟨⟨vs, v, s, e1⟩, fun x H'' y => ?_⟩
  obtain ⟨e2, y⟩ := y
  subst e2
  have q := y vs s
  rw [e1] at q; cases q
  exact ⟨Same.refl _, rv.kp k⟩
theorem src_tup {a : Addr} {vs : List V} {ds : List D} (hs : ∀ H', Kp H H' → SqT K H' a vs) (r : RDs H vs ds) : SrcOk H (Itt K a) ds := fun H' k i => by
  have s := hs H' k
  refine ⟨fun d e => ?_, fun h => ⟨vs, s, by rw [r.length]; exact h⟩⟩
  obtain ⟨v, e1, rv⟩ := r.get e
  refine ⟨⟨vs, v, s, e1⟩, fun x H'' y => ?_⟩
  obtain ⟨e2, y⟩ := y
  subst e2
  have q := y vs s
  rw [e1] at q; cases q
  exact ⟨Same.refl _, rv.kp k⟩
theorem src_rg (a b : Int) : SrcOk H (Itr a (b - a).toNat) (rgD a b) := fun H' k i => by
  have hl : (rgD a b).length = (b - a).toNat := by unfold rgD; rw [List.length_map, List.length_range]
  refine ⟨fun d e => ?_, fun h => by rw [hl] at h; exact h⟩
  have hi : i < (b - a).toNat := by rw [← hl]; exact (List.getElem?_eq_some_iff.mp e).1
  refine ⟨hi, fun x H'' y => ?_⟩
  obtain ⟨e2, e3⟩ := y
  subst e2 e3
  refine ⟨Same.refl _, ?_⟩
  unfold rgD at e
  rw [List.getElem?_map, List.getElem?_range hi] at e
  cases e
  exact .int _
theorem same_new {a : Addr} {u : HO} (h : H a = none) : Same H (upd H a u) := fun b o e => by rw [upd_ne (ne_of_none e h)]; exact e
theorem src_pair {J : It} {ds : List D} (r : ∀ H', Kp H H' → ∀ i, (∀ d, ds[i]? = some d → J.go i H' ∧ ∀ x H'', J.yld i H' x H'' → ∃ T u w du dw, x = .ref T ∧ H' T = none ∧ H'' = upd H' T (.tup [u, w]) ∧ d = .tuple [du, dw] ∧ RD H' u du ∧ RD H' w dw) ∧ (ds.length ≤ i → J.stop i H')) : SrcOk H J ds := fun H' k i => by
  obtain ⟨h1, h2⟩ := r H' k i
  refine ⟨fun d e => ?_, h2⟩
  obtain ⟨g, y⟩ := h1 d e
  refine ⟨g, fun x H'' yy => ?_⟩
  obtain ⟨T, u, w, du, dw, rfl, hn, rfl, rfl, ru, rw'⟩ := y x H'' yy
  exact ⟨same_new hn, .tup upd_same (.cons (ru.kp (Kp.new hn)) (.cons (rw'.kp (Kp.new hn)) .nil))⟩
theorem num_get {ds : List D} {i : Nat} {d : D} (e : (numD ds)[i]? = some d) : ∃ x, ds[i]? = some x ∧ d = .tuple [.int (i : Nat), x] := by
  unfold numD at e
  rw [List.getElem?_mapIdx] at e
  obtain ⟨x, e1, e2⟩ := Option.map_eq_some_iff.mp e
  exact ⟨x, e1, e2.symm⟩
theorem zip_get {xs ys : List D} {i : Nat} {d : D} (e : (zipD xs ys)[i]? = some d) : ∃ x y, xs[i]? = some x ∧ ys[i]? = some y ∧ d = .tuple [x, y] := by
  unfold zipD at e
  rw [List.getElem?_zipWith] at e
  cases h1 : xs[i]? with
  | none => rw [h1] at e; cases e
  | some x =>
    cases h2 : ys[i]? with
    | none => rw [h1, h2] at e; cases e
    | some y =>
      rw [h1, h2] at e
      cases e
      exact ⟨x, y, rfl, rfl, rfl⟩
end
/-! ### enumerate over a tuple -/
def IteT (K : PySem.W.Frag) (a : Addr) : It :=
  ⟨fun i H => ∃ (xs : List V) (x : V), SqT K H a xs ∧ xs[i]? = some x, fun i H v H' => ∃ T x, v = .ref T ∧ H T = none ∧ H' = upd H T (.tup [.int (i : Nat), x]) ∧ ∀ xs, SqT K H a xs → xs[i]? = some x, fun i H => ∃ xs : List V, SqT K H a xs ∧ xs.length ≤ i⟩
theorem meets_enum_1 {v : Value} {o : Obj} {H : Heap → Prop} (B : Begins v o H) :
    Meets (Builtin.«enumerate.__new__» ⟨[.type "enumerate", v], []⟩) (fun _ R s => H s.heap ∧
      R (.ok (.ret (.ref (s.heap.push o).objs.size))) { s with heap := (s.heap.push o).push { cls := .type "enumerate", data := .fields #[.none, .bool false, .ref s.heap.objs.size, rawInt 0, .none, .none] } }) :=
  .of_wp fun prog w A R s h => by
    obtain ⟨hp, g, d, tk, os⟩ := s
    obtain ⟨h1, h⟩ := h
    have hsub := sub_enumerate
    have q1 : ∀ {A' : Around} {E : Value → Shared → Prop} {Q : Value → Shared → Prop}, Q (.ref hp.objs.size) ⟨hp.push o, g, d, tk, os⟩ → wpAny (model prog w) A' (pyIter v) Q E ⟨hp, g, d, tk, os⟩ :=
      fun q => B.iter prog w _ _ ⟨hp, g, d, tk, os⟩ _ h1 q
    wp_walk using q1
    refine wpAny_stack_any fun st => wpAny_pure ?_
    split
    · rename_i c _ _ _ _ _
      cases (c == Value.type "enumerate") <;> (wp_walk using q1; exact ⟨_, rfl, h⟩)
    · wp_walk using q1
      exact ⟨_, rfl, h⟩
theorem enum_tup_call {prog : Program} {w : World} {A : Around} {E : Value → Shared → Prop} {s : Shared} {l : Addr} {items : Array Value} {Q : Value → Shared → Prop} (hL : s.heap.IsTuple l items)
    (h : ∀ h', IsEnum h' (s.heap.objs.size + 1) s.heap.objs.size 0 .none → h'.IsTupleIter s.heap.objs.size l 0 → (∀ b o, s.heap.get? b = some o → h'.get? b = some o) → Q (.ref (s.heap.objs.size + 1)) { s with heap := h' }) :
    wpAny (model prog w) A (call (.type "enumerate") [.ref l]) Q E s := by
  refine callType_new F.called_enumerate (by decide) (F.typeCall_enumerate_1 _) (F.newCall_enumerate_1 _) (fun obj => F.args_object_init_2 obj _) F.entry_enumerate_new (meets_enum_1 (begins_tuple l items)) ⟨hL, ?_⟩
  generalize ho : ({ cls := .type "tuple_iterator", data := .fields #[.ref l, .int 0 0] } : Obj) = o
  have hz : (s.heap.push o).objs.size = s.heap.objs.size + 1 := Heap.size_push ..
  have he : IsEnum ((s.heap.push o).push { cls := .type "enumerate", data := .fields #[.none, .bool false, .ref s.heap.objs.size, rawInt 0, .none, .none] }) (s.heap.objs.size + 1) s.heap.objs.size 0 .none := by
    have q := Heap.get?_push_size (s.heap.push o) (o := { cls := .type "enumerate", data := .fields #[.none, .bool false, .ref s.heap.objs.size, rawInt 0, .none, .none] }) rfl
    rw [hz] at q
    exact q
  show _ ∧ _
  rw [hz]
  refine ⟨⟨_, he, rfl⟩, h _ he ⟨_, Heap.get?_push_of_some _ (Heap.get?_push_size _ (by rw [← ho]; rfl)), by rw [← ho], by rw [← ho]; rfl⟩ fun b u x => Heap.get?_push_of_some _ (Heap.get?_push_of_some _ x)⟩
theorem turn_enumT {P : Program} {w : World} {K : PySem.W.Frag} {elts : List Expr} {kk : Nat} {tpos : Pos} (a e it : Addr) :
    Turn P w K (.Tuple elts kk tpos) (IteT K a) [e, it] e (fun i h => (∃ old, IsEnum h e it ((i : Nat) : Int) old) ∧ h.IsTupleIter it a i ∧ e ≠ it) where
  mem := by simp
  obj := fun i h st b hb => by
    obtain ⟨⟨old, he⟩, ⟨o, ho, hc, hd⟩, hne⟩ := st
    have e' : b = e ∨ b = it := by simpa using hb
    rcases e' with z | z
    · rw [z]; exact ⟨_, he, fun v q => nomatch q⟩
    · rw [z]; exact ⟨o, ho, fun v q => by rw [hd] at q; cases q⟩
  keep := fun i h h' st k => let ⟨⟨old, he⟩, hi, hne⟩ := st; ⟨⟨old, k e (by simp) _ he⟩, hi.at fun o q => k it (by simp) o q, hne⟩
  item := by
    intro X hP hw hK hc i pins s σ H E I hf st hg
    subst hP hw hK
    obtain ⟨⟨old, he⟩, hit, hne⟩ := st
    obtain ⟨xs, x, hq, hx⟩ := hg
    obtain ⟨its, rv, p, hz⟩ := I.tuple hq
    obtain ⟨u, hu, ru⟩ := rv.get hx
    have hel : e < s.heap.objs.size := Heap.lt_size he
    have hil : it < s.heap.objs.size := by obtain ⟨_, q, _⟩ := hit; exact Heap.lt_size q
    obtain ⟨o, ho, hcl, hdt⟩ := id p
    have hia : a ≠ it := fun z => by
      obtain ⟨o2, h2, c2, _⟩ := id hit
      rw [z] at ho
      rw [ho] at h2; cases h2
      rw [hcl] at c2
      injection c2 with c2
      exact absurd c2 (by decide)
    have hea : e ≠ a := fun z => by
      rw [← z] at ho
      have he2 : s.heap.get? e = some _ := he
      rw [ho] at he2
      rw [Option.some.inj he2] at hcl
      injection hcl with hcl
      exact absurd hcl (by decide)
    have hi : i < its.toArray.size := by
      have q := (List.getElem?_eq_some_iff.mp hu).1
      rw [List.size_toArray]; exact q
    have hh1 : X.A.in1.handled = none := I.ok.hd hc
    refine wpAny_pyNext_enum_itemC (c := ((i : Nat) : Int)) (Draws.tuple (prog := X.prog) (w := X.w) hh1 it a hia its.toArray) he ⟨hit, show s.heap.IsTuple a its.toArray from p⟩ hi hne (by simp [hne, hea]) fun x' h' tk hx' ho' hst' hT hsz hk => ?_
    have ex : x' = u := by
      have q : its[i]? = some x' := by simpa using hx'
      rw [hu] at q; cases q; rfl
    subst ex
    refine ⟨_, rfl, wpAny_letOwnedTupleGo_enum (s := { s with heap := h', toks := tk + 1 }) ho' fun h'' he' sb => ?_⟩
    have hT2 : h''.get? s.heap.objs.size = some { cls := .type "tuple", data := .seq #[.int i tk, x'] } := (sb.2 _ (Nat.ne_of_gt hel)).trans hT
    have new : ObjOk X.prog X.w (upd H s.heap.objs.size (.tup [.int (i : Nat), x])) h'' s.heap.objs.size (.tup [.int (i : Nat), x]) :=
      ⟨by show 2 ≤ sizeLine; decide, [.int i tk, x'], .cons ⟨_, rfl⟩ (.cons ru .nil), ⟨_, hT2, rfl, _, rfl⟩⟩
    have I1 : Inv X pins σ (upd H s.heap.objs.size (.tup [.int (i : Nat), x])) { s with heap := h'', toks := tk + 1 } :=
      I.turnedNew (ch := [e, it]) (fun b ob hb q => (sb.2 b (fun z => hb (by simp [z]))).trans (hk b ob (fun z => hb (by simp [z])) (fun z => hb (by simp [z])) q)) hf (Nat.le_refl _) new
    refine ⟨.ref s.heap.objs.size, _, I1, rfl, ⟨_, x, rfl, I.hok.fresh (Nat.le_refl _), rfl, fun ys hy => by rw [I.tuple_inj hy hq]; exact hx⟩, ⟨⟨x', ?_⟩, hst'.1.at fun o q => (sb.2 it (Ne.symm hne)).trans q, hne⟩, fun b hb => ?_⟩
    · have e1 : ((i + 1 : Nat) : Int) = (i : Int) + 1 := by omega
      rw [e1]; exact he'
    · have hb' : b < s.heap.objs.size := by
        have e' : b = e ∨ b = it := by simpa using hb
        rcases e' with z | z
        · rw [z]; exact hel
        · rw [z]; exact hil
      rw [upd_ne (Nat.ne_of_lt hb')]
      exact (hf b hb).1
  done := by
    intro X hP hw hK hc i pins s σ H E I hf st hg
    subst hP hw hK
    obtain ⟨⟨old, he⟩, hit, hne⟩ := st
    obtain ⟨xs, hq, hx⟩ := hg
    obtain ⟨its, rv, p, hz⟩ := I.tuple hq
    obtain ⟨f0, f1, f2, f3, f4, f5⟩ := hf it (by simp)
    have hl := rv.length
    have hTy : s.TypeIs (.ref e) "enumerate" := ⟨_, he, rfl⟩
    unfold pyNext
    refine wpAny_bind (wpAny_attempt (wpAny_callSpecial?_slot (name := Str.ofString "__next__") hTy F.slot_enumerate_next
      (wpAny_call_entry F.slot_enumerate_next hTy F.entry_enumerate_next ?_ (F.args_enumerate_next_1 _))))
    show wpAny _ _ (field (.ref e) 2 >>= _) _ _ _
    refine wpAny_bind (wpAny_field he rfl (x := .ref it) rfl ?_)
    refine wpAny_bind (wpAny_nextOf_tuple_end (I.ok.hd hc) hit (show s.heap.IsTuple a its.toArray from p) (by simp; omega) fun h' x he' hx' => ?_)
    obtain ⟨o, ho, hc'⟩ := hx'
    refine wpAny_bind (wpAny_isInstance (T := "StopIteration") (b := true) ⟨o, ho, hc'⟩ isSubtype_stop ?_)
    exact wpAny_pure ⟨rfl, I.turned (t' := s.toks) (fun b o hb q => he' b o hb q) f0 f1 f3 f4 f5⟩
  self := fun A i s Q E st h => let ⟨⟨_, he⟩, _⟩ := st; wpAny_pyIter_enum he h
end Pw

set_option Elab.async false
set_option linter.all false
set_option maxRecDepth 100000
set_option maxHeartbeats 2000000
/-! Pw: sources, targets, list comprehensions. -/
namespace Pw
open PySem PySem.Spec PyProof.Rows L2

theorem KL.all {K : PySem.W.Frag} {H : Hp} {a : Addr} {vs : List V} (h : KL K H a vs) : ∀ H', Kp H H' → SqL K H' a vs := fun _ k => (h.kp k).sq
theorem sq_of {K : PySem.W.Frag} {H : Hp} {v : V} {r : R} {ds : List D} (h : RR K H v r) (e : sqD r = some ds) :
    (∃ a vs, v = .ref a ∧ (∀ H', Kp H H' → SqL K H' a vs) ∧ RDs H vs ds) ∨ ∃ a vs, v = .ref a ∧ (∀ H', Kp H H' → SqT K H' a vs) ∧ RDs H vs ds := by
  cases r with
  | d x =>
    cases x with
    | list xs =>
      cases e
      have h' : RD H v (.list ds) := h
      cases h' with
      | lst e1 r => exact .inl ⟨_, _, rfl, fun H' k => .inl (.inr ⟨_, k.2 _ _ _ e1⟩), r⟩
    | tuple xs =>
      cases e
      have h' : RD H v (.tuple ds) := h
      cases h' with
      | tup e1 r => exact .inr ⟨_, _, rfl, fun H' k => .inl (.inl (k.1 _ _ e1)), r⟩
    | _ => cases e
  | kl xs =>
    cases e
    obtain ⟨a, vs, e1, e2, e3⟩ := h
    exact .inl ⟨a, vs, e1, e2.all, e3⟩
  | _ => cases e
theorem sqD_rr {K : PySem.W.Frag} {env : En} {σ : L2.St} {H : Hp} {v : V} {r : R} {ds : List D} (h : RP K env σ H v r) (e : sqD r = some ds) : RR K H v r := h.rr fun i z => by subst z; cases e
section
variable {X : Cx} {W : WX} {OW : Nat → Bool} {tg e e2 : Expr} {m n : ME} {mg : MG} {p pos : Pos}
theorem di_seq (h : DE X W OW e m) : DI X W OW tg e (mSq m) := by
  refine ⟨fun pins s σ H R I ⟨H0, P, env, L, Rl, S⟩ => ?_⟩
  refine thn (h.run pins s σ H (fun v H1 => ∃ r e1 ds, sqD r = some ds ∧ Rel X.K OW H0 P e1 σ H1 ((v, r) :: L) ∧ ∀ H' J, Rel X.K OW H0 P e1 σ H' L → SrcOk H' J ds → R J H') I ⟨H0, P, env, L, Rl, (Sat.bind S).mono fun r e1 _ S1 v H1 R1 => ?_⟩) fun v s1 ⟨x, H1, I1, rv, r, e1, ds, hd, R1, q⟩ => ?_
  · cases hd : sqD r with
    | none => simp only [hd] at S1; exact S1.elim
    | some ds => simp only [hd] at S1; exact ⟨r, e1, ds, hd, R1, S1⟩
  · have fr : FpOk X pins H1 s1.heap.objs.size := I1.fpOk (Nat.le_refl _) (I1.hok.fresh (Nat.le_refl _))
    rcases sq_of (sqD_rr (R1.pend _ List.mem_cons_self) hd) hd with ⟨a, vs, ea, sq, rd⟩ | ⟨a, vs, ea, sq, rd⟩
    · have ea' : x = .ref a := ea
      subst ea'
      cases rv
      obtain ⟨its, rvs, pl, hz⟩ := I1.list (sq H1 (Kp.refl _))
      refine wpAny_pyIter_list pl.isList ⟨s1.heap.objs.size, [s1.heap.objs.size], _, _, H1, rfl, I1.kept (t' := s1.toks) fun b o e => Heap.get?_push_of_some _ e, turn_list a _, ⟨_, Heap.get?_push_size _ rfl, rfl, rfl⟩, fun b hb => ?_, q _ _ R1.drop (src_list sq rd)⟩
      have e : b = s1.heap.objs.size := by simpa using hb
      rw [e]; exact fr
    · have ea' : x = .ref a := ea
      subst ea'
      cases rv
      obtain ⟨its, rvs, pl, hz⟩ := I1.tuple (sq H1 (Kp.refl _))
      refine wpAny_pyIter_tuple (show s1.heap.IsTuple a its.toArray from pl) ⟨s1.heap.objs.size, [s1.heap.objs.size], _, _, H1, rfl, I1.kept (t' := s1.toks) fun b o e => Heap.get?_push_of_some _ e, turn_tuple a _, ⟨_, Heap.get?_push_size _ rfl, rfl, rfl⟩, fun b hb => ?_, q _ _ R1.drop (src_tup sq rd)⟩
      have e : b = s1.heap.objs.size := by simpa using hb
      rw [e]; exact fr
theorem di_rg (h : DG X W OW e mg) : DI X W OW tg e (mRgI mg) := by
  refine ⟨fun pins s σ H R I ⟨H0, P, env, L, Rl, S⟩ => ?_⟩
  refine thn (h pins s σ H (fun a b H1 => ∃ e1, rgOk a b = true ∧ Rel X.K OW H0 P e1 σ H1 L ∧ ∀ H' J, Rel X.K OW H0 P e1 σ H' L → SrcOk H' J (rgD a b) → R J H') I ⟨H0, P, env, L, Rl, (Sat.bind S).mono fun ab e1 _ S1 H1 R1 => ?_⟩) fun v s1 ⟨r, a, b, t, u, w, H1, ev, hr, I1, e1, ok, R1, q⟩ => ?_
  · by_cases c : rgOk ab.1 ab.2 = true
    · rw [if_pos c] at S1; exact ⟨e1, c, R1, S1⟩
    · rw [if_neg c] at S1; exact S1.elim
  · subst ev
    obtain ⟨h1, h2, h3, h4, _⟩ := rgOk_ok ok
    refine wpAny_pyIter_range hr (small_one h1 h2 h3 h4) ⟨s1.heap.objs.size, [s1.heap.objs.size], _, _, H1, rfl, I1.kept (t' := s1.toks) fun b o e => Heap.get?_push_of_some _ e, turn_range _ a (b - a).toNat, ?_, fun c hb => ?_, q _ _ R1 (src_rg a b)⟩
    · have e1 : a + ((0 : Nat) : Int) * 1 = a := by simp
      have e2 : (((b - a).toNat : Nat) : Int) - ((0 : Nat) : Int) = Builtin.Range.rangeSize a b 1 := by rw [rangeSize_one]; split <;> omega
      show IsRangeIter _ _ (a + ((0 : Nat) : Int) * 1) ((((b - a).toNat : Nat) : Int) - ((0 : Nat) : Int)) 1
      rw [e1, e2]
      exact Heap.get?_push_size _ rfl
    · have e : c = s1.heap.objs.size := by simpa using hb
      rw [e]; exact I1.fpOk (Nat.le_refl _) (I1.hok.fresh (Nat.le_refl _))
theorem di_enum {elts : List Expr} {kk : Nat} {tpos : Pos} (hm : X.mg "enumerate" = none) (h : DE X W OW e m) (hg : Gl X "enumerate" := by rfl) (na : starEach [e] X.env = (false, eval e X.env) :: starEach [] X.env := by rfl) :
    DI X W OW (.Tuple elts kk tpos) (.Call (.Name "enumerate" p) [e] [] pos) (mEnum m) := by
  refine ⟨fun pins s σ H R I ⟨H0, P, env, L, Rl, S⟩ => ?_⟩
  refine Call_ (ld_blt I hg hm boot_enumerate (PyProof.Rows.callWith_type1 (args_cons (thn (h.run pins s σ H (fun v H1 => ∃ r e1 ds, sqD r = some ds ∧ Rel X.K OW H0 P e1 σ H1 ((v, r) :: L) ∧ ∀ H' J, Rel X.K OW H0 P e1 σ H' L → SrcOk H' J (numD ds) → R J H') I ⟨H0, P, env, L, Rl, (Sat.bind (Sat.bind S)).mono fun r e1 _ S1 v H1 R1 => ?_⟩) fun v s1 ⟨x, H1, I1, rv, r, e1, ds, hd, R1, q⟩ => args_nil ?_) na) na))
  · cases hd : sqD r with
    | none => simp only [hd] at S1; exact S1.elim
    | some ds => simp only [hd] at S1; exact ⟨r, e1, ds, hd, R1, S1⟩
  · have fr : ∀ b ∈ [s1.heap.objs.size + 1, s1.heap.objs.size], FpOk X pins H1 b := fun b hb => by
      have e' : b = s1.heap.objs.size + 1 ∨ b = s1.heap.objs.size := by simpa using hb
      have hle : s1.heap.objs.size ≤ b := by
        rcases e' with z | z
        · rw [z]; exact Nat.le_add_right _ _
        · rw [z]; exact Nat.le_refl _
      exact I1.fpOk hle (I1.hok.fresh hle)
    rcases sq_of (sqD_rr (R1.pend _ List.mem_cons_self) hd) hd with ⟨a, vs, ea, sq, rd⟩ | ⟨a, vs, ea, sq, rd⟩
    · have ea' : x = .ref a := ea
      subst ea'
      cases rv
      obtain ⟨its, rvs, pl, hz⟩ := I1.list (sq H1 (Kp.refl _))
      refine call_enumerate_list pl.isList fun h' he hit hsz hk => wpAny_pyIter_enum he ⟨s1.heap.objs.size + 1, [s1.heap.objs.size + 1, s1.heap.objs.size], _, _, H1, rfl, I1.kept (t' := s1.toks) hk, turn_enum a _ _, ⟨⟨.none, he⟩, hit, Nat.succ_ne_self _⟩, fr, q _ _ R1.drop (src_pair fun H' k i => ?_)⟩
      have hs := sq H' k
      have hr := rd.kp k
      refine ⟨fun d ed => ?_, fun hl => ⟨vs, hs, by rw [hr.length]; rw [show (numD ds).length = ds.length from by unfold numD; rw [List.length_mapIdx]] at hl; exact hl⟩⟩
      obtain ⟨dx, ex, rfl⟩ := num_get ed
      obtain ⟨vx, evx, rx⟩ := hr.get ex
      refine ⟨⟨vs, vx, hs, evx⟩, fun y H'' yy => ?_⟩
      obtain ⟨T, w, rfl, hT, rfl, hw⟩ := yy
      have hw2 := hw vs hs
      rw [evx] at hw2; cases hw2
      exact ⟨T, _, _, _, _, rfl, hT, rfl, rfl, .int _, rx⟩
    · have ea' : x = .ref a := ea
      subst ea'
      cases rv
      obtain ⟨its, rvs, pl, hz⟩ := I1.tuple (sq H1 (Kp.refl _))
      refine enum_tup_call (show s1.heap.IsTuple a its.toArray from pl) fun h' he hit hk => wpAny_pyIter_enum he ⟨s1.heap.objs.size + 1, [s1.heap.objs.size + 1, s1.heap.objs.size], _, _, H1, rfl, I1.kept (t' := s1.toks) hk, turn_enumT a _ _, ⟨⟨.none, he⟩, hit, Nat.succ_ne_self _⟩, fr, q _ _ R1.drop (src_pair fun H' k i => ?_)⟩
      have hs := sq H' k
      have hr := rd.kp k
      refine ⟨fun d ed => ?_, fun hl => ⟨vs, hs, by rw [hr.length]; rw [show (numD ds).length = ds.length from by unfold numD; rw [List.length_mapIdx]] at hl; exact hl⟩⟩
      obtain ⟨dx, ex, rfl⟩ := num_get ed
      obtain ⟨vx, evx, rx⟩ := hr.get ex
      refine ⟨⟨vs, vx, hs, evx⟩, fun y H'' yy => ?_⟩
      obtain ⟨T, w, rfl, hT, rfl, hw⟩ := yy
      have hw2 := hw vs hs
      rw [evx] at hw2; cases hw2
      exact ⟨T, _, _, _, _, rfl, hT, rfl, rfl, .int _, rx⟩
theorem zip_len {xs ys : List D} {i : Nat} (h : (zipD xs ys).length ≤ i) : xs.length ≤ i ∨ ys.length ≤ i := by
  unfold zipD at h
  rw [List.length_zipWith] at h
  omega
theorem sqK_some {r1 r2 : R} {ds : List D} (h : sqK r1 r2 = some ds) : (∃ xs ys, r1 = .d (.list xs) ∧ r2 = .d (.list ys) ∧ ds = zipD xs ys) ∨ ∃ xs ys, r1 = .d (.tuple xs) ∧ r2 = .d (.tuple ys) ∧ ds = zipD xs ys := by
  unfold sqK at h
  split at h
  · exact .inl ⟨_, _, rfl, rfl, (Option.some.inj h).symm⟩
  · exact .inr ⟨_, _, rfl, rfl, (Option.some.inj h).symm⟩
  · cases h
theorem di_zip {elts : List Expr} {kk : Nat} {tpos : Pos} (hm : X.mg "zip" = none) (h : DE X W OW e m) (h2 : DE X W OW e2 n) (hg : Gl X "zip" := by rfl)
    (hs : starEach [e, e2] X.env = (false, eval e X.env) :: starEach [e2] X.env := by rfl) (hs2 : starEach [e2] X.env = (false, eval e2 X.env) :: starEach [] X.env := by rfl) (hpl : (backTo pos (starEach [e2] X.env)).any (·.1) = false := by rfl) :
    DI X W OW (.Tuple elts kk tpos) (.Call (.Name "zip" p) [e, e2] [] pos) (mZip m n) := by
  refine ⟨fun pins s σ H R I ⟨H0, P, env, L, Rl, S⟩ => (RZ.pi_zipA hg hm (da_cons h (da_cons h2 da_nil hs2) hs) hs hpl).run pins s σ H R I ⟨H0, P, env, L, Rl, ?_⟩⟩
  show Sat (cy X W OW) H0 P σ L ((m env).bind fun r1 e1 => (((n e1).bind fun r2 e2 => .ok [r2] e2)).bind fun rs e2 => .ok (r1 :: rs) e2) _
  have S' : Sat (cy X W OW) H0 P σ L (m env) fun r e1 => Sat (cy X W OW) H0 P σ L ((n e1).bind fun r2 e2 => match sqK r r2 with
    | some ds => .ok ds e2
    | none => .st) _ := Sat.bind S
  revert S'
  cases m env with
  | st => exact fun S' => S'
  | ex x ee => exact fun S' => S'
  | ok r1 e1 =>
    intro S'
    have S'' : Sat (cy X W OW) H0 P σ L (n e1) fun r2 e2 => Sat (cy X W OW) H0 P σ L (match sqK r1 r2 with
      | some ds => .ok ds e2
      | none => .st) _ := Sat.bind (show Sat (cy X W OW) H0 P σ L ((n e1).bind _) _ from S')
    revert S''
    show _ → Sat (cy X W OW) H0 P σ L (((n e1).bind fun r2 e2 => .ok [r2] e2).bind fun rs e2 => .ok (r1 :: rs) e2) _
    cases n e1 with
    | st => exact fun S' => S'
    | ex x ee => exact fun S' => S'
    | ok r2 e2 =>
      intro S''
      have S3 : Sat (cy X W OW) H0 P σ L (match sqK r1 r2 with
        | some ds => .ok ds e2
        | none => .st) _ := S''
      intro vs H1 hl R1
      match vs, hl with
      | [v1, v2], _ =>
        have p1 := R1.pend (v1, r1) (by simp)
        have p2 := R1.pend (v2, r2) (by simp)
        have R0 : Rel X.K OW H0 P e2 σ H1 L := R1.drop.drop
        cases hk : sqK r1 r2 with
        | none => simp only [hk] at S3; exact S3.elim
        | some ds =>
          simp only [hk] at S3
          rcases sqK_some hk with ⟨xs, ys, z1, z2, z3⟩ | ⟨xs, ys, z1, z2, z3⟩
          · subst z1 z2 z3
            have h1 : RD H1 v1 (.list xs) := p1
            have h2 : RD H1 v2 (.list ys) := p2
            cases h1 with
            | @lst a o vs1 _ ea ra =>
              cases h2 with
              | @lst b o2 vs2 _ eb rb =>
                have k1 : ∀ H', Kp H1 H' → SqL X.K H' a vs1 := fun H' k => .inl (.inr ⟨_, k.2 _ _ _ ea⟩)
                have k2 : ∀ H', Kp H1 H' → SqL X.K H' b vs2 := fun H' k => .inl (.inr ⟨_, k.2 _ _ _ eb⟩)
                refine ⟨a, b, vs1, vs2, rfl, .inl ⟨k1 _ (Kp.refl _), k2 _ (Kp.refl _), S3 _ _ R0 (src_pair fun H' k i => ⟨fun d ed => ?_, fun hl => ⟨vs1, vs2, k1 _ k, k2 _ k, ?_⟩⟩)⟩⟩
                · obtain ⟨dx, dy, ex, ey, rfl⟩ := zip_get ed
                  obtain ⟨vx, evx, rx⟩ := (ra.kp k).get ex
                  obtain ⟨vy, evy, ry⟩ := (rb.kp k).get ey
                  refine ⟨⟨vs1, vs2, vx, vy, k1 _ k, k2 _ k, evx, evy⟩, fun z H'' yy => ?_⟩
                  obtain ⟨T, u, w, rfl, hT, rfl, hu, hw⟩ := yy
                  have hu2 := hu _ (k1 _ k)
                  have hw2 := hw _ (k2 _ k)
                  rw [evx] at hu2; cases hu2
                  rw [evy] at hw2; cases hw2
                  exact ⟨T, _, _, _, _, rfl, hT, rfl, rfl, rx, ry⟩
                · rw [ra.length, rb.length]; exact zip_len hl
          · subst z1 z2 z3
            have h1 : RD H1 v1 (.tuple xs) := p1
            have h2 : RD H1 v2 (.tuple ys) := p2
            cases h1 with
            | @tup a vs1 _ ea ra =>
              cases h2 with
              | @tup b vs2 _ eb rb =>
                have k1 : ∀ H', Kp H1 H' → SqT X.K H' a vs1 := fun H' k => .inl (.inl (k.1 _ _ ea))
                have k2 : ∀ H', Kp H1 H' → SqT X.K H' b vs2 := fun H' k => .inl (.inl (k.1 _ _ eb))
                refine ⟨a, b, vs1, vs2, rfl, .inr ⟨k1 _ (Kp.refl _), k2 _ (Kp.refl _), S3 _ _ R0 (src_pair fun H' k i => ⟨fun d ed => ?_, fun hl => ⟨vs1, vs2, k1 _ k, k2 _ k, ?_⟩⟩)⟩⟩
                · obtain ⟨dx, dy, ex, ey, rfl⟩ := zip_get ed
                  obtain ⟨vx, evx, rx⟩ := (ra.kp k).get ex
                  obtain ⟨vy, evy, ry⟩ := (rb.kp k).get ey
                  refine ⟨⟨vs1, vs2, vx, vy, k1 _ k, k2 _ k, evx, evy⟩, fun z H'' yy => ?_⟩
                  obtain ⟨T, u, w, rfl, hT, rfl, hu, hw⟩ := yy
                  have hu2 := hu _ (k1 _ k)
                  have hw2 := hw _ (k2 _ k)
                  rw [evx] at hu2; cases hu2
                  rw [evy] at hw2; cases hw2
                  exact ⟨T, _, _, _, _, rfl, hT, rfl, rfl, rx, ry⟩
                · rw [ra.length, rb.length]; exact zip_len hl
end
/-! ### targets -/
def NoX : WX := fun _ _ _ _ => False
abbrev MQ := R → En → Option En
def tQ (C : Cy) (sl : List Nat) (mt : MQ) : TG := fun v σ H Q => ∃ H0 P env L r env', Rel C.K C.OW H0 P env σ H ((v, r) :: L) ∧ (∀ p ∈ L, ∀ i, p.2 = .vr i → i ∉ sl) ∧ mt r env = some env' ∧
  ∀ σ' H', σ'.length = σ.length → (∀ j, j ∉ sl → σ'[j]? = σ[j]?) → Rel C.K C.OW H0 P env' σ' H' L → Q σ' H'
def tQs (C : Cy) (sl : List Nat) (mt : List D → En → Option En) : TGs := fun vs σ H Q => ∃ H0 P env L ds env', vs.length = ds.length ∧ Rel C.K C.OW H0 P env σ H (vs.zip (ds.map R.d) ++ L) ∧ (∀ p ∈ L, ∀ i, p.2 = .vr i → i ∉ sl) ∧ mt ds env = some env' ∧
  ∀ σ' H', σ'.length = σ.length → (∀ j, j ∉ sl → σ'[j]? = σ[j]?) → Rel C.K C.OW H0 P env' σ' H' L → Q σ' H'
abbrev DQ (X : Cx) (OW : Nat → Bool) (tg : Expr) (sl : List Nat) (mt : MQ) : Prop := PG X tg (tQ (cy X NoX OW) sl mt)
abbrev DQs (X : Cx) (OW : Nat → Bool) (tg : List Expr) (sl : List Nat) (mt : List D → En → Option En) : Prop := PGs X tg (tQs (cy X NoX OW) sl mt)
def okSt (b : Bool) : R → Bool
  | .vr _ => false
  | .pl _ => false
  | .ol _ => b
  | .oK _ => b
  | .oT _ => b
  | _ => true
def qN (i : Nat) (b : Bool) : MQ := fun r env => if (decide (i < env.length) && notPl env[i]? && okSt b r) = true then some (env.set i (some r)) else none
def qNil : List D → En → Option En := fun ds env => match ds with
  | [] => some env
  | _ => none
def qCons (mt : MQ) (mts : List D → En → Option En) : List D → En → Option En := fun ds env => match ds with
  | d :: ds => match mt (.d d) env with
    | some e => mts ds e
    | none => none
  | [] => none
def qTup (n : Nat) (mts : List D → En → Option En) : MQ := fun r env => match r with
  | .d (.tuple ds) => if ds.length = n then mts ds env else none
  | _ => none
theorem okSt_ok {b : Bool} {r : R} (h : okSt b r = true) : (∀ j, r ≠ .vr j) ∧ (∀ ds, r ≠ .pl ds) ∧ (r.own = true → b = true) := by
  refine ⟨fun j z => (by subst z; cases h), fun ds z => (by subst z; cases h), fun o => ?_⟩
  cases r <;> first | exact h | (cases h; done) | (cases o; done)
theorem Rel.putAll {K : PySem.W.Frag} {OW : Nat → Bool} {H0 H : Hp} {P : List (Option Addr)} {env : En} {σ : L2.St} {L : Pe} (R1 : Rel K OW H0 P env σ H L) : ∀ {vs : List V} {ds : List D}, RDs H vs ds → Rel K OW H0 P env σ H (vs.zip (ds.map R.d) ++ L)
  | _, _, .nil => R1
  | _, _, .cons r t => (R1.putAll t).put (RP.of r) rfl
theorem zip_d {vs : List V} {ds : List D} {p : V × R} (h : p ∈ vs.zip (ds.map R.d)) : ∃ x, p.2 = .d x := by
  have q := (List.of_mem_zip (show (p.1, p.2) ∈ _ from h)).2
  obtain ⟨x, _, e⟩ := List.mem_map.mp q
  exact ⟨x, e.symm⟩
section
variable {X : Cx} {OW : Nat → Bool} {tg e o i : Expr} {es : List Expr} {sl sl2 : List Nat} {mt : MQ} {mts : List D → En → Option En} {pos : Pos} {mo mi : ME}
theorem dq_name {j : Nat} {x : Str} {b : Bool} (hN : X.N.Nodup) (hb : b = true → OW j = true) (hi : X.N[j]? = some x := by rfl) (hx : Loc X.env.scope x := by first | exact Or.inl rfl | exact Or.inr rfl) (hf : X.fn x = true ∨ X.env.scope.names.lookup x = some .local := by first | exact .inl rfl | exact .inr rfl) : DQ X OW (.Name x pos) [j] (qN j b) := by
  refine ⟨fun pins s σ H v u Q I r ⟨H0, P, env, L, rr, env', R1, nv, hm, q⟩ => (pg_name hN hi hx hf).run pins s σ H v u Q I r ?_⟩
  unfold qN at hm
  by_cases c : (decide (j < env.length) && notPl env[j]? && okSt b rr) = true
  · rw [if_pos c] at hm
    cases hm
    simp only [Bool.and_eq_true, decide_eq_true_eq] at c
    obtain ⟨⟨c1, c2⟩, c3⟩ := c
    obtain ⟨o1, o2, o3⟩ := okSt_ok c3
    exact q _ H (by rw [List.length_set]) (fun k hk => by rw [List.getElem?_set_ne (fun z => hk (by simp [z]))]) (R1.store c1 c2 o1 o2 (fun p m z => nv p m j z (by simp)) fun o => hb (o3 o))
  · rw [if_neg c] at hm; cases hm
theorem dqs_nil : DQs X OW [] [] qNil := by
  refine ⟨fun pins s σ H vs us Q I r ⟨H0, P, env, L, ds, env', hl, R1, nv, hm, q⟩ => pgs_nil.run pins s σ H vs us Q I r ?_⟩
  match ds, hm with
  | [], hm =>
    cases hm
    match vs, hl with
    | [], _ => exact ⟨rfl, q σ H rfl (fun _ _ => rfl) R1⟩
theorem dqs_cons (h1 : DQ X OW e sl mt) (h2 : DQs X OW es sl2 mts) (hs : (assignEach (e :: es) X.env).map (·.2) = assign e X.env :: (assignEach es X.env).map (·.2) := by rfl) : DQs X OW (e :: es) (sl ++ sl2) (qCons mt mts) := by
  refine ⟨fun pins s σ H vs us Q I r ⟨H0, P, env, L, ds, env', hl, R1, nv, hm, q⟩ => (pgs_cons h1 h2 hs).run pins s σ H vs us Q I r ?_⟩
  match ds, hm with
  | d :: ds, hm =>
    match vs, hl with
    | v :: vs, hl =>
      unfold qCons at hm
      cases hd : mt (.d d) env with
      | none => simp only [hd] at hm; cases hm
      | some e1 =>
        simp only [hd] at hm
        refine ⟨v, vs, rfl, H0, P, env, vs.zip (ds.map R.d) ++ L, .d d, e1, R1, fun p m i z => ?_, hd, fun σ' H' hl' ha R2 => ⟨H0, P, e1, L, ds, env', by simpa using hl, R2, fun p m i z => ?_, hm, fun σ2 H2 hl2 ha2 R3 => ?_⟩⟩
        · rcases List.mem_append.mp m with m | m
          · obtain ⟨x, ex⟩ := zip_d m
            rw [ex] at z; cases z
          · exact fun y => nv p m i z (List.mem_append_left _ y)
        · exact fun y => nv p m i z (List.mem_append_right _ y)
        · exact q σ2 H2 (hl2.trans hl') (fun j hj => (ha2 j fun y => hj (List.mem_append_right _ y)).trans (ha j fun y => hj (List.mem_append_left _ y))) R3
theorem dq_tup {k : Nat} {n : Nat} (hc : X.calm = true) (h : DQs X OW es sl mts) (hn : (assignEach es X.env).length = n := by rfl) (hst : (assignEach es X.env).findIdx? (·.1) = none := by rfl) : DQ X OW (.Tuple es k pos) sl (qTup n mts) := by
  refine ⟨fun pins s σ H v u Q I r ⟨H0, P, env, L, rr, env', R1, nv, hm, q⟩ => (pg_tup hc h hn hst).run pins s σ H v u Q I r ?_⟩
  unfold qTup at hm
  split at hm
  · rename_i ds
    by_cases c : ds.length = n
    · rw [if_pos c] at hm
      have hd : RD H v (.tuple ds) := R1.pend (v, .d (.tuple ds)) List.mem_cons_self
      cases hd with
      | @tup a vs _ ea ra =>
        exact ⟨a, vs, rfl, .inl (.inl ea), by rw [ra.length]; exact c, H0, P, env, L, ds, env', ra.length, R1.drop.putAll ra, nv, hm, q⟩
    · rw [if_neg c] at hm; cases hm
  · cases hm
end
/-! ### o[i] = .. -/
def putD {κ : Type} [DecidableEq κ] (kvs : List (κ × D)) (k : κ) (v : D) : List (κ × D) := if (kvs.any fun kv => decide (kv.1 = k)) = true then kvs.map (fun kv => if kv.1 = k then (kv.1, v) else kv) else kvs ++ [(k, v)]
/-- an own list, an own dict, written at a place -/
def putAt (k x : D) : R → Option R
  | .ol xs => match k with
    | .int i => (ixN xs.length i).map fun j => .ol (xs.set j x)
    | _ => none
  | .pl xs => match k with
    | .int i => (ixN xs.length i).map fun j => .pl (xs.set j x)
    | _ => none
  | .oK kvs => if kvs.length < 16777216 then (toKey k).map fun kk => .oK (putD kvs kk x) else none
  | .oT kvs => if kvs.length < 16777216 then (toKeys k).map fun kk => .oT (putD kvs kk x) else none
  | _ => none
def qSub (mo mi : ME) : MQ := fun r env => match r with
  | .d x => match mo env with
    | .ok (.vr j) e1 => match mi e1 with
      | .ok (.d k) e2 => match e2[j]? with
        | some (some t) => (putAt k x t).map fun t' => e2.set j (some t')
        | _ => none
      | _ => none
    | _ => none
  | _ => none
theorem prd_len {α β : Type} {F : α → β → Prop} : ∀ {l : List α} {m : List β}, Paired F l m → l.length = m.length
  | _, _, .nil => rfl
  | _, _, .cons _ t => by rw [List.length_cons, List.length_cons, prd_len t]
theorem prd_app {α β : Type} {F : α → β → Prop} : ∀ {l l' : List α} {m m' : List β}, Paired F l m → Paired F l' m' → Paired F (l ++ l') (m ++ m')
  | _, _, _, _, .nil, h => h
  | _, _, _, _, .cons r t, h => .cons r (prd_app t h)
theorem RDK.put {H : Hp} {v : V} {x : D} (r : RD H v x) {k : Key} : ∀ {l : List (Key × V)} {m : List (Key × D)}, RDK H l m → RDK H (l.map fun kv => if kv.1 = k then (kv.1, v) else kv) (m.map fun kv => if kv.1 = k then (kv.1, x) else kv)
  | _, _, .nil => .nil
  | (a, b) :: l, (c, d) :: m, .cons h t => by
    obtain ⟨e, rb⟩ := h
    have e' : a = c := e
    subst e'
    refine .cons (?_ : (if a = k then (a, v) else (a, b)).1 = (if a = k then (a, x) else (a, d)).1 ∧ RD H (if a = k then (a, v) else (a, b)).2 (if a = k then (a, x) else (a, d)).2) (RDK.put r t)
    by_cases z : a = k
    · rw [if_pos z, if_pos z]
      exact ⟨rfl, r⟩
    · rw [if_neg z, if_neg z]
      exact ⟨rfl, rb⟩
theorem RDT.put {H : Hp} {v : V} {x : D} (r : RD H v x) {k : List Key} : ∀ {l : List (List Key × V)} {m : List (List Key × D)}, RDT H l m → RDT H (l.map fun kv => if kv.1 = k then (kv.1, v) else kv) (m.map fun kv => if kv.1 = k then (kv.1, x) else kv)
  | _, _, .nil => .nil
  | (a, b) :: l, (c, d) :: m, .cons h t => by
    obtain ⟨e, rb⟩ := h
    have e' : a = c := e
    subst e'
    refine .cons (?_ : (if a = k then (a, v) else (a, b)).1 = (if a = k then (a, x) else (a, d)).1 ∧ RD H (if a = k then (a, v) else (a, b)).2 (if a = k then (a, x) else (a, d)).2) (RDT.put r t)
    by_cases z : a = k
    · rw [if_pos z, if_pos z]
      exact ⟨rfl, r⟩
    · rw [if_neg z, if_neg z]
      exact ⟨rfl, rb⟩
theorem any_key {κ : Type} [DecidableEq κ] {F : V → D → Prop} {k : κ} : ∀ {l : List (κ × V)} {m : List (κ × D)}, Paired (fun p q => p.1 = q.1 ∧ F p.2 q.2) l m → (l.any fun kv => decide (kv.1 = k)) = m.any fun kv => decide (kv.1 = k)
  | _, _, .nil => rfl
  | (a, b) :: l, (c, d) :: m, .cons h t => by
    obtain ⟨e, _⟩ := h
    have e' : a = c := e
    subst e'
    rw [List.any_cons, List.any_cons, any_key t]
theorem RDK.putD {H : Hp} {v : V} {x : D} {k : Key} {l : List (Key × V)} {m : List (Key × D)} (h : RDK H l m) (r : RD H v x) : RDK H (L2.putK l k v) (Pw.putD m k x) := by
  unfold L2.putK Pw.putD
  rw [any_key h]
  split
  · exact h.put r
  · exact prd_app h (.cons ⟨rfl, r⟩ .nil)
theorem RDT.putD {H : Hp} {v : V} {x : D} {k : List Key} {l : List (List Key × V)} {m : List (List Key × D)} (h : RDT H l m) (r : RD H v x) : RDT H (L2.putK l k v) (Pw.putD m k x) := by
  unfold L2.putK Pw.putD
  rw [any_key h]
  split
  · exact h.put r
  · exact prd_app h (.cons ⟨rfl, r⟩ .nil)
def rSetA : TSet := fun o i v H Q => rSetL o i v H Q ∨ rSetD o i v H Q
theorem set_any {X : Cx} (hu : X.A.units + 1 < cLine) : PSet X rSetA := by
  intro pins s σ H o i v ov iv u Q I ro ri rv h
  rcases h with h | h
  · exact set_list pins s σ H o i v ov iv u Q I ro ri rv h
  · exact set_dict hu pins s σ H o i v ov iv u Q I ro ri rv h
/-- the write itself: a slot's own thing -/
theorem Rel.putAt {K : PySem.W.Frag} {OW : Nat → Bool} {H0 H : Hp} {P : List (Option Addr)} {env : En} {σ : L2.St} {L : Pe} {j : Nat} {t t' : R} {k x : D} {ov iv v : V} {Q : Hp → Prop} (R1 : Rel K OW H0 P env σ H L) (e : env[j]? = some (some t)) (ho : σ[j]? = some (some ov)) (hk : RD H iv k) (hx : RD H v x) (hp : Pw.putAt k x t = some t')
    (q : ∀ H', Rel K OW H0 P (env.set j (some t')) σ H' L → Q H') : rSetA ov iv v H Q := by
  obtain ⟨w, e1, rr⟩ := R1.slot j t e
  rw [ho] at e1; cases e1
  cases t with
  | ol xs =>
    obtain ⟨a, vs, ea, eh, r⟩ := rr
    subst ea
    cases k with
    | int i =>
      cases hk
      obtain ⟨n, h1, h2⟩ := Option.map_eq_some_iff.mp (show (ixN xs.length i).map (fun j => R.ol (xs.set j x)) = some t' from hp)
      subst h2
      refine .inl ⟨a, vs, i, n, rfl, rfl, eh, by rw [r.length]; exact h1, q _ (R1.change e ho rfl ⟨a, _, rfl, upd_same, ((r.set hx n).kp (Kp.write eh trivial))⟩)⟩
    | _ => cases hp
  | pl xs =>
    obtain ⟨a, vs, ea, eh, r⟩ := rr
    subst ea
    cases k with
    | int i =>
      cases hk
      obtain ⟨n, h1, h2⟩ := Option.map_eq_some_iff.mp (show (ixN xs.length i).map (fun j => R.pl (xs.set j x)) = some t' from hp)
      subst h2
      refine .inl ⟨a, vs, i, n, rfl, rfl, eh, by rw [r.length]; exact h1, q _ (R1.change e ho rfl ⟨a, _, rfl, upd_same, ((r.set hx n).kp (Kp.write eh trivial))⟩)⟩
    | _ => cases hp
  | oK kvs =>
    obtain ⟨a, ws, ea, eh, r⟩ := rr
    subst ea
    have hp' : (if kvs.length < 16777216 then (toKey k).map fun kk => R.oK (putD kvs kk x) else none) = some t' := hp
    by_cases c : kvs.length < 16777216
    · rw [if_pos c] at hp'
      obtain ⟨kk, h1, h2⟩ := Option.map_eq_some_iff.mp hp'
      subst h2
      have ek : iv = kV kk := DV.key (K := K) (kl := false) hk.dv h1
      subst ek
      have hl : ws.length = kvs.length := prd_len r
      exact .inr ⟨a, _, rfl, DPut.k eh (by rw [hl, sizeLine_eq]; exact c), q _ (R1.change e ho rfl ⟨a, _, rfl, upd_same, (r.kp (Kp.write eh trivial)).putD (hx.kp (Kp.write eh trivial))⟩)⟩
    · rw [if_neg c] at hp'; cases hp'
  | oT kvs =>
    obtain ⟨a, ws, ea, eh, r⟩ := rr
    subst ea
    have hp' : (if kvs.length < 16777216 then (toKeys k).map fun kk => R.oT (putD kvs kk x) else none) = some t' := hp
    by_cases c : kvs.length < 16777216
    · rw [if_pos c] at hp'
      obtain ⟨kk, h1, h2⟩ := Option.map_eq_some_iff.mp hp'
      subst h2
      obtain ⟨b, ek, eb⟩ := DV.keys (K := K) (kl := false) hk.dv h1
      subst ek
      have hl : ws.length = kvs.length := prd_len r
      exact .inr ⟨a, _, rfl, DPut.t eh eb (by rw [hl, sizeLine_eq]; exact c), q _ (R1.change e ho rfl ⟨a, _, rfl, upd_same, (r.kp (Kp.write eh trivial)).putD (hx.kp (Kp.write eh trivial))⟩)⟩
    · rw [if_neg c] at hp'; cases hp'
  | _ => cases hp
section
variable {X : Cx} {OW : Nat → Bool} {o i : Expr} {pos : Pos} {mo mi : ME}
theorem dq_sub (hu : X.A.units + 1 < cLine) (ho : DE X NoX OW o mo) (hi : DE X NoX OW i mi)
    (ha : ∀ v, assign (.Subscript o i pos) X.env v = (do
      let ov ← holding [v] (eval o X.env)
      let iv ← holding [v, ov] (eval i X.env)
      standAt pos
      holding [v, ov, iv] (setItem ov iv v)
      release [v, ov, iv] []) := by intro _; rfl) : DQ X OW (.Subscript o i pos) [] (qSub mo mi) := by
  refine ⟨fun pins s σ H v u Q I r ⟨H0, P, env, L, rr, env', R1, nv, hm, q⟩ => (pg_sub ho hi (set_any hu) ha).run pins s σ H v u Q I r ?_⟩
  unfold qSub at hm
  cases rr with
  | d x =>
    dsimp only at hm
    refine ⟨H0, P, env, (v, .d x) :: L, R1, ?_⟩
    cases h1 : mo env with
    | st => rw [h1] at hm; cases hm
    | ex _ _ => rw [h1] at hm; cases hm
    | ok r1 e1 =>
      rw [h1] at hm
      cases r1 with
      | vr j =>
        dsimp only at hm
        intro ov H1 R2
        refine ⟨H0, P, e1, (ov, .vr j) :: (v, .d x) :: L, R2, ?_⟩
        cases h2 : mi e1 with
        | st => rw [h2] at hm; cases hm
        | ex _ _ => rw [h2] at hm; cases hm
        | ok r2 e2 =>
          rw [h2] at hm
          cases r2 with
          | d k =>
            dsimp only at hm
            intro iv H2 R3
            cases h3 : e2[j]? with
            | none => rw [h3] at hm; cases hm
            | some ot =>
              cases ot with
              | none => rw [h3] at hm; cases hm
              | some t =>
                rw [h3] at hm
                obtain ⟨t', h4, h5⟩ := Option.map_eq_some_iff.mp (show (putAt k x t).map (fun t' => e2.set j (some t')) = some env' from hm)
                subst h5
                have pv : σ[j]? = some (some ov) := (R3.pend (ov, .vr j) (by simp)).1
                have pk : RD H2 iv k := R3.pend (iv, .d k) (by simp)
                have px : RD H2 v x := R3.pend (v, .d x) (by simp)
                exact R3.drop.drop.drop.putAt h3 pv pk px h4 fun H' R4 => q σ H' rfl (fun _ _ => rfl) R4
          | _ => cases hm
      | _ => cases hm
  | _ => cases hm
end
end Pw

set_option Elab.async false
set_option linter.all false
set_option maxRecDepth 100000
set_option maxHeartbeats 2000000
/-! Pw: list comprehensions. -/
namespace Pw
open PySem PySem.Spec PyProof.Rows L2

/-- a block's own slots forgotten -/
def wipeE (env : En) : List Nat → En
  | [] => env
  | v :: vs => (wipeE env vs).set v none
theorem wipe_at {σ : L2.St} {j : Nat} : ∀ {vs : List Nat}, j ∉ vs → (wipe σ vs)[j]? = σ[j]?
  | [], _ => rfl
  | v :: vs, h => by
    unfold wipe
    rw [List.getElem?_set_ne (fun z => h (by rw [z]; exact List.mem_cons_self)), wipe_at fun z => h (List.mem_cons_of_mem _ z)]
theorem wipe_in {σ : L2.St} {j : Nat} : ∀ {vs : List Nat}, j ∈ vs → j < σ.length → (wipe σ vs)[j]? = some none
  | v :: vs, h, hl => by
    unfold wipe
    by_cases e : v = j
    · subst e
      rw [List.getElem?_set_self (by rw [wipe_length]; exact hl)]
    · rw [List.getElem?_set_ne e]
      rcases List.mem_cons.mp h with z | z
      · exact absurd z.symm e
      · exact wipe_in z hl
theorem wipe_eq {σ σ' : L2.St} {vs : List Nat} (hl : σ'.length = σ.length) (h : ∀ j, j ∉ vs → σ'[j]? = σ[j]?) : wipe σ' vs = wipe σ vs := by
  refine List.ext_getElem? fun j => ?_
  by_cases m : j ∈ vs
  · by_cases l : j < σ.length
    · rw [wipe_in m l, wipe_in m (by rw [hl]; exact l)]
    · rw [List.getElem?_eq_none (by rw [wipe_length, hl]; omega), List.getElem?_eq_none (by rw [wipe_length]; omega)]
  · rw [wipe_at m, wipe_at m, h j m]
section
variable {K : PySem.W.Frag} {OW : Nat → Bool} {H0 H : Hp} {P : List (Option Addr)} {env : En} {σ : L2.St} {L : Pe}
theorem Rel.notPl_of (R1 : Rel K OW H0 P env σ H L) {i : Nat} (h : OW i = false) : notPl env[i]? = true := by
  cases e : env[i]? with
  | none => rfl
  | some o =>
    cases o with
    | none => rfl
    | some r =>
      cases r with
      | pl xs => rw [R1.ow i _ e rfl] at h; cases h
      | _ => rfl
theorem Rel.noVr (R1 : Rel K OW H0 P env σ H L) {i : Nat} (h : OW i = false) : ∀ p ∈ L, p.2 ≠ .vr i := fun p m z => by
  rw [R1.vo p m i z] at h; cases h
theorem Rel.wipe (R1 : Rel K OW H0 P env σ H L) : ∀ {vs : List Nat}, (∀ i ∈ vs, OW i = false) → Rel K OW H0 P (wipeE env vs) (L2.wipe σ vs) H L
  | [], _ => R1
  | v :: vs, h => by
    have R2 := Rel.wipe R1 (vs := vs) fun i m => h i (List.mem_cons_of_mem _ m)
    have hv := h v List.mem_cons_self
    have R3 := R2.forget (i := v) (R2.notPl_of hv) (R2.noVr hv)
    refine R3.agree (σ' := (L2.wipe σ vs).set v none) (by rw [List.length_set]) fun i r e => ?_
    have ne : i ≠ v := fun z => by
      subst z
      rcases get_set e with ⟨_, y⟩ | ⟨y, _⟩
      · cases y
      · exact y rfl
    rw [List.getElem?_set_ne (Ne.symm ne)]
theorem wipeE_some {i : Nat} {r : R} : ∀ {vs : List Nat}, (wipeE env vs)[i]? = some (some r) → i ∉ vs ∧ env[i]? = some (some r)
  | [], h => ⟨by simp, h⟩
  | v :: vs, h => by
    unfold wipeE at h
    rcases get_set h with ⟨_, y⟩ | ⟨y, z⟩
    · cases y
    · obtain ⟨a, b⟩ := wipeE_some z
      exact ⟨by simp only [List.mem_cons, not_or]; exact ⟨y, a⟩, b⟩
/-- the same slots, in the frame behind the block -/
theorem Rel.unwipe {vs : List Nat} (R1 : Rel K OW H0 P (wipeE env vs) (L2.wipe σ vs) H L) : Rel K OW H0 P (wipeE env vs) σ H L :=
  R1.agree (by rw [wipe_length]) fun i r e => (wipe_at (wipeE_some e).1).symm
end
/-- the tests of a clause -/
abbrev DTs (X : Cx) (W : WX) (OW : Nat → Bool) (ifs : List Expr) (m : MT) : Prop := PTs X ifs (tT (cy X W OW) m)
def mYes : MT := fun e => .ok true e
section
variable {X : Cx} {W : WX} {OW : Nat → Bool} {c : Expr} {m : MT}
theorem dts_nil : DTs X W OW [] mYes := ⟨fun pins s σ H Q I ⟨H0, P, env, L, Rl, S⟩ => pts_nil.run pins s σ H Q I (S H Rl)⟩
theorem dts_one (h : DT X W OW c m) : DTs X W OW [c] m := pts_one h
end
/-- the turns over ds; acc: what has come -/
def lcGo (mt : MQ) (tt : MT) (me : ME) (vs : List Nat) : List D → List D → En → Res (List D)
  | acc, [], e => .ok acc e
  | acc, x :: xs, e => match mt (.d x) e with
    | none => .st
    | some e1 => match tt e1 with
      | .ok true e2 => match me e2 with
        | .ok (.d y) e3 => if acc.length < 16777216 then lcGo mt tt me vs (acc ++ [y]) xs (wipeE e3 vs) else .st
        | _ => .st
      | .ok false e2 => lcGo mt tt me vs acc xs (wipeE e2 vs)
      | _ => .st
def mLc (mi : MI) (mt : MQ) (tt : MT) (me : ME) (vs : List Nat) : ME := fun env => (mi env).bind fun ds e => match lcGo mt tt me vs [] ds (wipeE e vs) with
  | .ok out e2 => .ok (.ol out) e2
  | _ => .st
section
variable {X : Cx} {W : WX} {OW : Nat → Bool} {mi : MI} {mt : MQ} {tt : MT} {me : ME} {sl vs : List Nat}
theorem lc_le {σ : L2.St} {H : Hp} {Q : VK} (hO : ∀ i ∈ vs, OW i = false) (hsub : ∀ i ∈ sl, i ∈ vs) (h : tD (cy X W OW) (mLc mi mt tt me vs) σ H Q) :
    tLc (tI (cy X W OW) mi) (tQ (cy X NoX OW) sl mt) (tT (cy X NoX OW) tt) (tD (cy X NoX OW) me) vs σ H Q := by
  obtain ⟨H0, P, env, L, Rl, S⟩ := h
  refine ⟨H0, P, env, L, Rl, (Sat.bind S).mono fun ds e1 _ S1 H1 J R1 src D hD => ?_⟩
  have R2 : Rel X.K OW H0 P e1 σ (upd H1 D (.lst [])) ((.ref D, .ol []) :: L) := R1.newOwn hD ⟨D, [], rfl, upd_same, .nil⟩
  have k12 : Kp H1 (upd H1 D (.lst [])) := Kp.new hD
  generalize upd H1 D (.lst []) = H2 at R2 k12
  have R4 := (R2.moreBase).wipe hO
  have Gd : ∀ {o : Res (List PyData)}, Sat (cy X W OW) H0 P σ L (match o with | .ok out e2 => .ok (.ol out) e2 | _ => .st) (okE (cy X W OW) H0 P σ L Q) → ∃ out e2, o = .ok out e2 ∧ ∀ H', Rel X.K OW H0 P e2 σ H' ((.ref D, .ol out) :: L) → Q (.ref D) H' := fun {o} s => by
    cases o with
    | st => exact s.elim
    | ex x e => exact s.elim
    | ok out e2 => exact ⟨out, e2, rfl, fun H' r => s _ _ r⟩
  obtain ⟨out, e2, eo, fin⟩ := Gd S1
  refine ⟨fun i k H => k = ds.length - i ∧ i ≤ ds.length ∧ ∃ env' acc, Rel X.K OW (baseOf H0 H2) P (wipeE env' vs) (L2.wipe σ vs) H ((.ref D, .ol acc) :: L) ∧ lcGo mt tt me vs acc (ds.drop i) (wipeE env' vs) = .ok out e2,
    ⟨ds.length, rfl, Nat.zero_le _, e1, [], R4, eo⟩, ?_⟩
  rintro i k H3 ⟨rfl, hi, env', acc, R5, go⟩
  have kp3 : Kp H2 H3 := R5.kpBase R2.parNot
  by_cases hlt : i < ds.length
  · have hd : ds[i]? = some ds[i] := List.getElem?_eq_getElem hlt
    have hdrop : ds.drop i = ds[i] :: ds.drop (i + 1) := List.drop_eq_getElem_cons hlt
    generalize ds[i] = d at hd hdrop
    rw [hdrop] at go
    obtain ⟨g, y⟩ := ((src H3 (k12.trans kp3)) i).1 d hd
    refine .inr ⟨g, fun H' => ∃ env' acc, Rel X.K OW (baseOf H0 H2) P (wipeE env' vs) (L2.wipe σ vs) H' ((.ref D, .ol acc) :: L) ∧ lcGo mt tt me vs acc (ds.drop (i + 1)) (wipeE env' vs) = .ok out e2,
      fun H' ⟨env', acc, R, q⟩ => ⟨ds.length - (i + 1), by omega, rfl, hlt, env', acc, R, q⟩, fun x H' yy => ?_⟩
    obtain ⟨sm, rx⟩ := y x H' yy
    have R6 : Rel X.K OW (baseOf H0 H2) P (wipeE env' vs) (L2.wipe σ vs) H' ((x, .d d) :: (.ref D, .ol acc) :: L) := (R5.grow sm).put (r := .d d) rx rfl
    unfold lcGo at go
    cases hm : mt (.d d) (wipeE env' vs) with
    | none => simp only [hm] at go; cases go
    | some ea =>
      simp only [hm] at go
      refine ⟨_, P, _, (.ref D, .ol acc) :: L, .d d, ea, R6, fun p m j z w => ?_, hm, fun σ2 H4 hl ag R7 => ⟨?_, ?_⟩⟩
      · exact R6.noVr (hO j (hsub j w)) p (List.mem_cons_of_mem _ m) z
      · rw [wipe_eq hl fun j hj => ag j fun z => hj (hsub j z)]
        exact wipe_eq (wipe_length _ _) fun j hj => wipe_at hj
      · have w2 : L2.wipe σ2 vs = L2.wipe σ vs := by
          rw [wipe_eq hl fun j hj => ag j fun z => hj (hsub j z)]
          exact wipe_eq (wipe_length _ _) fun j hj => wipe_at hj
        refine ⟨_, P, ea, _, R7, ?_⟩
        cases ht : tt ea with
        | st => simp only [ht] at go; cases go
        | ex _ _ => simp only [ht] at go; cases go
        | ok b eb =>
          simp only [ht] at go
          intro H5 R8
          cases b with
          | false =>
            rw [if_neg Bool.false_ne_true]
            refine ⟨eb, acc, ?_, go⟩
            have R9 := R8.wipe hO
            rw [w2] at R9
            exact R9
          | true =>
            rw [if_pos rfl]
            refine ⟨_, P, eb, _, R8, ?_⟩
            cases he : me eb with
            | st => simp only [he] at go; cases go
            | ex _ _ => simp only [he] at go; cases go
            | ok r ec =>
              simp only [he] at go
              cases r with
              | d yv =>
                simp only at go
                by_cases hz : acc.length < 16777216
                · rw [if_pos hz] at go
                  intro v H6 R9
                  have rv : RD H6 v yv := R9.pend (v, .d yv) List.mem_cons_self
                  obtain ⟨a, us, ea', eh, ru⟩ : RR X.K H6 (.ref D) (.ol acc) := R9.pend (.ref D, .ol acc) (List.mem_cons_of_mem _ List.mem_cons_self)
                  cases ea'
                  refine ⟨us, eh, by rw [ru.length, sizeLine_eq]; exact hz, ec, acc ++ [yv], ?_, go⟩
                  have R10 : Rel X.K OW (baseOf H0 H2) P ec σ2 (upd H6 D (.lst (us ++ [v]))) ((.ref D, .ol (acc ++ [yv])) :: L) :=
                    R9.drop.changeP (r' := .ol (acc ++ [yv])) rfl ⟨D, _, rfl, upd_same, (ru.append (.cons rv .nil)).kp (Kp.write eh trivial)⟩
                  have R11 := R10.wipe hO
                  rw [w2] at R11
                  exact R11
                · rw [if_neg hz] at go; cases go
              | _ => cases go
  · have e : i = ds.length := by omega
    subst e
    rw [List.drop_length] at go
    unfold lcGo at go
    cases go
    exact .inl ⟨((src H3 (k12.trans kp3)) _).2 (Nat.le_refl _), fin H3 (R2.backBase R5.unwipe)⟩
variable {elt tg iter : Expr} {ifs : List Expr} {scope : Scope} {own : List (Str × Nat)} {pos : Pos}
theorem de_lc (hc : X.calm = true) (hN : X.N.Nodup) (hi : DI X W OW tg iter mi) (ok : BlkOk X.N X.env.scope scope own)
    (hg : ∀ (s : Shared) (H : Hp) (C : Addr) (cl : List (Str × Addr)) (fp : List Addr), DQ (X.blk s H scope (compEnvC scope cl C X.env) fp) OW tg sl mt)
    (ht : ∀ (s : Shared) (H : Hp) (C : Addr) (cl : List (Str × Addr)) (fp : List Addr), DTs (X.blk s H scope (compEnvC scope cl C X.env) fp) NoX OW ifs tt)
    (he : ∀ (s : Shared) (H : Hp) (C : Addr) (cl : List (Str × Addr)) (fp : List Addr), DE (X.blk s H scope (compEnvC scope cl C X.env) fp) NoX OW elt me)
    (hO : ∀ i ∈ own.map (·.2), OW i = false) (hsub : ∀ i ∈ sl, i ∈ own.map (·.2)) (hs : ∀ x, foldedSetIterable iter X.env x = pure x := by intro _; rfl) :
    DE X W OW (.ListComp elt [⟨tg, iter, ifs, 0⟩] scope pos) (mLc mi mt tt me (own.map (·.2))) := pe_le (pe_lc hc hN hi ok hg ht he hs) fun _ _ _ h => lc_le hO hsub h
end
end Pw

set_option Elab.async false
set_option linter.all false
set_option maxRecDepth 100000
set_option maxHeartbeats 2000000
/-! Pw: methods that change own things; statements. -/
namespace Pw
open PySem PySem.Spec PyProof.Rows L2

/-! ### o.m(..), o a slot's own thing -/
def mMeth (g : R → List D → Option (D × R)) (mo : ME) (ma : MA) : ME := fun env => (mo env).bind fun r e1 => match r with
  | .vr j => (ma e1).bind fun rs e2 => match allD rs, e2[j]? with
    | some ds, some (some t) => match g t ds with
      | some (x, t') => .ok (.d x) (e2.set j (some t'))
      | none => .st
    | _, _ => .st
  | _ => .st
/-- what a method does, by the thing's content -/
def MtOk (K : PySem.W.Frag) (T : String) (r : V → List V → Hp → VK → Prop) (g : R → List D → Option (D × R)) : Prop := ∀ (H : Hp) (o : V) (t t' : R) (vs : List V) (ds : List D) (x : D) (Q : VK), RR K H o t → RDs H vs ds → g t ds = some (x, t') →
  tyV K T o H ∧ t.like t' = true ∧ ∃ a, o = .ref a ∧ ((∀ v u, RD (upd H a u) v x → RR K (upd H a u) (.ref a) t' → Q v (upd H a u)) → r o vs H Q)
section
variable {X : Cx} {W : WX} {OW : Nat → Bool} {o e : Expr} {es : List Expr} {mo : ME} {ma : MA} {name : Str} {apos cpos : Pos} {T id : String} {r : V → List V → Hp → VK → Prop} {g : R → List D → Option (D × R)}
/-- the type is asked ahead of the arguments: what's own keeps its type -/
theorem own_ty {K : PySem.W.Frag} {H : Hp} {v : V} {t : R} (h : RR K H v t) : (∃ xs, t = .ol xs ∨ t = .pl xs) → tyV K "list" v H := by
  rintro ⟨xs, rfl | rfl⟩
  · obtain ⟨a, vs, rfl, e, _⟩ := h
    exact .inl ⟨rfl, vs, .inl (.inl e)⟩
  · obtain ⟨a, vs, rfl, e, _⟩ := h
    exact .inl ⟨rfl, vs, .inl (.inl e)⟩
def isLst : Option (Option R) → Bool
  | some (some (.ol _)) => true
  | some (some (.pl _)) => true
  | _ => false
/-- a list's methods -/
def mMtL (g : R → List D → Option (D × R)) (mo : ME) (ma : MA) : ME := fun env => (mo env).bind fun r e1 => match r with
  | .vr j => if isLst e1[j]? = true then (ma e1).bind fun rs e2 => match allD rs, e2[j]? with
    | some ds, some (some t) => match g t ds with
      | some (x, t') => .ok (.d x) (e2.set j (some t'))
      | none => .st
    | _, _ => .st
    else .st
  | _ => .st
theorem isLst_some {env : En} {j : Nat} (h : isLst env[j]? = true) : ∃ t, env[j]? = some (some t) ∧ ∃ xs, t = .ol xs ∨ t = .pl xs := by
  cases e : env[j]? with
  | none => rw [e] at h; cases h
  | some o =>
    cases o with
    | none => rw [e] at h; cases h
    | some t =>
      rw [e] at h
      cases t with
      | ol xs => exact ⟨_, rfl, xs, .inl rfl⟩
      | pl xs => exact ⟨_, rfl, xs, .inr rfl⟩
      | _ => cases h
def MtL (K : PySem.W.Frag) (r : V → List V → Hp → VK → Prop) (g : R → List D → Option (D × R)) : Prop := ∀ (H : Hp) (o : V) (t t' : R) (vs : List V) (ds : List D) (x : D) (Q : VK), RR K H o t → RDs H vs ds → g t ds = some (x, t') →
  t.like t' = true ∧ ((∀ v a u, o = .ref a → RD (upd H a u) v x → RR K (upd H a u) (.ref a) t' → Q v (upd H a u)) → r o vs H Q)
theorem mtl_le (hg : MtL X.K r g) {σ : L2.St} {H : Hp} {Q : VK} (h : tD (cy X W OW) (mMtL g mo ma) σ H Q) : tBM X.K "list" r (tD (cy X W OW) mo) (tA (cy X W OW) ma) σ H Q := by
  obtain ⟨H0, P, env, L, Rl, S⟩ := h
  refine ⟨H0, P, env, L, Rl, (Sat.bind S).mono fun r1 e1 _ S1 v H1 R1 => ?_⟩
  cases r1 with
  | vr j =>
    dsimp only at S1
    by_cases c : isLst e1[j]? = true
    · rw [if_pos c] at S1
      obtain ⟨t, ht, hl⟩ := isLst_some c
      obtain ⟨hv, _⟩ : σ[j]? = some (some v) ∧ ∃ r, e1[j]? = some (some r) := R1.pend (v, .vr j) List.mem_cons_self
      obtain ⟨w, hw, rr⟩ := R1.slot j t ht
      rw [hv] at hw; cases hw
      refine ⟨own_ty rr hl, H0, P, e1, (v, .vr j) :: L, R1, ((Sat.bind S1).wait fun _ _ q => q.drop).mono fun rs e2 _ S2 vs H2 hlen R2 => ?_⟩
      cases h1 : allD rs with
      | none => simp only [h1] at S2; exact S2.elim
      | some ds =>
        cases h2 : e2[j]? with
        | none => simp only [h1, h2] at S2; exact S2.elim
        | some ot =>
          cases ot with
          | none => simp only [h1, h2] at S2; exact S2.elim
          | some t2 =>
            simp only [h1, h2] at S2
            cases h3 : g t2 ds with
            | none => simp only [h3] at S2; exact S2.elim
            | some p =>
              obtain ⟨x, t'⟩ := p
              simp only [h3] at S2
              have rd := R2.allD hlen (fun p m => List.mem_append_left _ m) h1
              have R3 : Rel X.K OW H0 P e2 σ H2 L := R2.dropZ.drop
              obtain ⟨w2, hw2, rr2⟩ := R3.slot j t2 h2
              rw [hv] at hw2; cases hw2
              obtain ⟨lk, go⟩ := hg H2 v t2 t' vs ds x Q rr2 rd h3
              refine go fun u a ho ea rx rt => ?_
              subst ea
              exact S2 u _ ((R3.change h2 hv lk rt).put (RP.of (r := .d x) rx) rfl)
    · rw [if_neg c] at S1; exact S1.elim
  | _ => exact S1.elim
theorem de_mtl {id : String} (slot : Slot "list" name id) (hty : typeOf (.builtin id) = pure (.type "method_descriptor")) (hm : MtR X id r) (hg : MtL X.K r g) (ho : DE X W OW o mo) (ha : DA X W OW (e :: es) ma)
    (hbase : attributeBase o name X.env (eval o X.env) = eval o X.env := by rfl)
    (hfew : ((backTo cpos (starEach (e :: es) X.env)).all (fun x => !x.1) && (backToKw cpos (keywordEach [] X.env)).all (fun x => x.1.isSome)
      && decide ((e :: es).length + ([] : List Keyword).length + (if ([] : List Keyword).isEmpty then 0 else 1) < 30)) = true := by rfl)
    (hline : (apos.endLine == cpos.line) = true := by rfl) (hs : starEach (e :: es) X.env = (false, eval e X.env) :: starEach es X.env := by rfl) (hplain : (backTo cpos (starEach es X.env)).any (·.1) = false := by rfl) :
    DE X W OW (.Call (.Attribute o name apos) (e :: es) [] cpos) (mMtL g mo ma) := pe_le (pe_bm F.plainAttrs_list slot hty hm ho ha hbase hfew hline hs hplain) fun _ _ _ h => mtl_le hg h
end
/-- append, extend, pop -/
def gApp : R → List D → Option (D × R)
  | .ol xs, [x] => if xs.length < 16777216 then some (.none, .ol (xs ++ [x])) else none
  | .pl xs, [x] => if xs.length < 16777216 then some (.none, .pl (xs ++ [x])) else none
  | _, _ => none
def gExt : R → List D → Option (D × R)
  | .ol xs, [.list ys] => if xs.length + ys.length ≤ 16777216 then some (.none, .ol (xs ++ ys)) else none
  | _, _ => none
def gPop : R → List D → Option (D × R)
  | .ol xs, [.int i] => if decide (-9223372036854775808 ≤ i) && decide (i < 9223372036854775808) then match seqIndex? i xs.length with
      | some k => match xs[k]? with
        | some y => some (y, .ol (xs.eraseIdx k))
        | none => none
      | none => none
    else none
  | _, _ => none
theorem g_app {K : PySem.W.Frag} : MtL K rAppend gApp := by
  intro H o t t' vs ds x Q rr rd hg
  unfold gApp at hg
  split at hg
  · rename_i xs y
    obtain ⟨a, us, rfl, e, ru⟩ := rr
    by_cases c : xs.length < 16777216
    · rw [if_pos c] at hg
      cases hg
      cases rd with
      | cons rv t =>
        cases t
        refine ⟨rfl, fun q => ⟨a, us, _, rfl, rfl, e, by rw [ru.length, sizeLine_eq]; exact c, q _ a _ rfl .non ⟨a, _, rfl, upd_same, (ru.append (.cons rv .nil)).kp (Kp.write e trivial)⟩⟩⟩
    · rw [if_neg c] at hg; cases hg
  · rename_i xs y
    obtain ⟨a, us, rfl, e, ru⟩ := rr
    by_cases c : xs.length < 16777216
    · rw [if_pos c] at hg
      cases hg
      cases rd with
      | cons rv t =>
        cases t
        refine ⟨rfl, fun q => ⟨a, us, _, rfl, rfl, e, by rw [ru.length, sizeLine_eq]; exact c, q _ a _ rfl .non ⟨a, _, rfl, upd_same, (ru.append (.cons rv .nil)).kp (Kp.write e trivial)⟩⟩⟩
    · rw [if_neg c] at hg; cases hg
  · cases hg
theorem g_pop {K : PySem.W.Frag} : MtL K rPopAt gPop := by
  intro H o t t' vs ds x Q rr rd hg
  unfold gPop at hg
  split at hg
  · rename_i xs i
    obtain ⟨a, us, rfl, e, ru⟩ := rr
    by_cases c : (decide (-9223372036854775808 ≤ i) && decide (i < 9223372036854775808)) = true
    · rw [if_pos c] at hg
      simp only [Bool.and_eq_true, decide_eq_true_eq] at c
      cases h1 : seqIndex? i xs.length with
      | none => simp only [h1] at hg; cases hg
      | some k =>
        cases h2 : xs[k]? with
        | none => simp only [h1, h2] at hg; cases hg
        | some y =>
          simp only [h1, h2] at hg
          cases hg
          cases rd with
          | cons rv t =>
            cases t
            cases rv
            obtain ⟨v, hv, rx⟩ := ru.get h2
            exact ⟨rfl, fun q => ⟨a, us, i, k, v, rfl, rfl, e, by omega, by omega, by rw [ru.length]; exact h1, hv, q v a _ rfl (rx.kp (Kp.write e trivial)) ⟨a, _, rfl, upd_same, (ru.eraseIdx k).kp (Kp.write e trivial)⟩⟩⟩
    · rw [if_neg c] at hg; cases hg
  · cases hg
/-- extend by a frozen list -/
def rExtF : V → List V → Hp → VK → Prop := fun x vs H Q => ∃ l b o xs zs, x = .ref l ∧ vs = [.ref b] ∧ H l = some (.lst xs) ∧ H b = some (.frz o (.lst zs)) ∧ xs.length + zs.length ≤ sizeLine ∧ Q .non (upd H l (.lst (xs ++ zs)))
theorem mt_extF {X : Cx} : MtR X "list.extend" rExtF := by
  intro pins s σ H x vs v us Q I rx rv h
  obtain ⟨l, b, o, xs, zs, rfl, rfl, hH, hB, hz, q⟩ := h
  cases rx
  obtain ⟨u, rfl, ru⟩ := rv.one
  cases ru
  obtain ⟨z, its, n, r, hl, e⟩ := I.lstM hH
  obtain ⟨_, z2, its2, n2, r2, e2⟩ := I.hok b _ hB
  have hl2 := r2.length
  have hsz : its.toArray.size + its2.toArray.size ≤ sizeLine := by rw [List.size_toArray, List.size_toArray]; omega
  have hlong : ¬ (!its.toArray.isEmpty && Builtin.List.listTooLong (its.toArray.size + its2.toArray.size)) = true := by
    rw [notLongL hsz, Bool.and_false]
    exact Bool.false_ne_true
  refine call_meets F.slot_list_extend ⟨_, e, rfl⟩ F.entry_list_extend (F.args_list_extend_2 _ _)
    (AutoSeq1.list_extend_list_list_0 l its.toArray n b its2.toArray n2 hlong (by rw [List.size_toArray]; omega) (by omega)) ⟨e, e2, ?_⟩
  refine ⟨.non, _, I.lset (its' := its ++ its2) hH e (by simp) (r.append r2) ?_, rfl, q⟩
  rw [List.length_append]
  omega
theorem g_ext {K : PySem.W.Frag} : MtL K rExtF gExt := by
  intro H o t t' vs ds x Q rr rd hg
  unfold gExt at hg
  split at hg
  · rename_i xs ys
    obtain ⟨a, us, rfl, e, ru⟩ := rr
    by_cases c : xs.length + ys.length ≤ 16777216
    · rw [if_pos c] at hg
      cases hg
      cases rd with
      | cons rv t =>
        cases t
        cases rv with
        | lst eb rb =>
          exact ⟨rfl, fun q => ⟨a, _, _, us, _, rfl, rfl, e, eb, by rw [ru.length, rb.length, sizeLine_eq]; exact c, q _ a _ rfl .non ⟨a, _, rfl, upd_same, (ru.append rb).kp (Kp.write e trivial)⟩⟩⟩
    · rw [if_neg c] at hg; cases hg
  · cases hg
end Pw

set_option Elab.async false
set_option linter.all false
set_option maxRecDepth 100000
set_option maxHeartbeats 2000000
/-! Pw: statements. -/
namespace Pw
open PySem PySem.Spec PyProof.Rows L2

inductive RS where
  | st
  | nx (e : En)
  | rt (r : R) (e : En)
  | bk (e : En)
  | ct (e : En)
  | ex (x : Ex) (e : En)
abbrev MS := En → RS
def SatS (C : Cy) (H0 : Hp) (P : List (Option Addr)) (o : RS) (D : Ends) : Prop := match o with
  | .st => False
  | .nx e => ∀ σ' H', Rel C.K C.OW H0 P e σ' H' [] → D.nx σ' H'
  | .rt r e => ∀ σ' H' v, Rel C.K C.OW H0 P e σ' H' [(v, r)] → D.rt v H'
  | .bk e => ∀ σ' H', Rel C.K C.OW H0 P e σ' H' [] → D.bk σ' H'
  | .ct e => ∀ σ' H', Rel C.K C.OW H0 P e σ' H' [] → D.ct σ' H'
  | .ex x e => ∀ c d σ' H', Rel C.K C.OW H0 P e σ' H' [] → RX C.mg H' x c d → C.W c d σ' H'
def tSt (C : Cy) (m : MS) : TS := fun D σ H => ∃ H0 P env, Rel C.K C.OW H0 P env σ H [] ∧ SatS C H0 P (m env) D
abbrev DS (X : Cx) (W : WX) (OW : Nat → Bool) (s : Stmt) (m : MS) : Prop := PS X s (tSt (cy X W OW) m)
abbrev DSs (X : Cx) (W : WX) (OW : Nat → Bool) (s : List Stmt) (m : MS) : Prop := PSs X s (tSt (cy X W OW) m)
section
variable {X : Cx} {W : WX} {OW : Nat → Bool} {s : Stmt} {ss : List Stmt} {m : MS} {t : TS}
theorem ps_le (h : PS X s t) (k : ∀ D σ H, tSt (cy X W OW) m D σ H → t D σ H) : DS X W OW s m := ⟨fun pins sh σ H D I q => h.run pins sh σ H D I (k D σ H q)⟩
theorem pss_le (h : PSs X ss t) (k : ∀ D σ H, tSt (cy X W OW) m D σ H → t D σ H) : DSs X W OW ss m := ⟨fun pins sh σ H D I q => h.run pins sh σ H D I (k D σ H q)⟩
end
/-- an expression, then what is done with its value; an exception goes out -/
def mThen (m : ME) (f : R → En → RS) : MS := fun env => match m env with
  | .st => .st
  | .ok r e => f r e
  | .ex x e => .ex x e
def mThenT (m : MT) (f : Bool → En → RS) : MS := fun env => match m env with
  | .st => .st
  | .ok r e => f r e
  | .ex x e => .ex x e
section
variable {C : Cy} {H0 : Hp} {P : List (Option Addr)} {σ : L2.St} {D : Ends} {env : En}
theorem SatS.then {m : ME} {f : R → En → RS} (h : SatS C H0 P (mThen m f env) D) : Sat C H0 P σ [] (m env) fun r e => SatS C H0 P (f r e) D := by
  unfold mThen at h
  cases e : m env with
  | st => rw [e] at h; exact h
  | ok r e1 => rw [e] at h; exact h
  | ex x e1 => rw [e] at h; exact fun c d H' R1 rx => h c d σ H' R1 rx
theorem SatS.thenT {m : MT} {f : Bool → En → RS} (h : SatS C H0 P (mThenT m f env) D) : Sat C H0 P σ [] (m env) fun r e => SatS C H0 P (f r e) D := by
  unfold mThenT at h
  cases e : m env with
  | st => rw [e] at h; exact h
  | ok r e1 => rw [e] at h; exact h
  | ex x e1 => rw [e] at h; exact fun c d H' R1 rx => h c d σ H' R1 rx
end
def mNext : MS := fun e => .nx e
def mSeq (a b : MS) : MS := fun env => match a env with
  | .nx e => b e
  | r => r
def mStop : MS := fun _ => .st
def mBrk : MS := fun e => .bk e
def mCnt : MS := fun e => .ct e
def stOf : Option En → RS
  | some e => .nx e
  | none => .st
/-- target = value -/
def mSet (q : MQ) (m : ME) : MS := mThen m fun r e => stOf (q r e)
def mDrp (m : ME) : MS := mThen m fun _ e => .nx e
/-- own local things go out whole -/
def mRet (m : ME) : MS := mThen m fun r e => match r with
  | .vr i => match e[i]? with
    | some (some t) => if (t.own && notPl e[i]?) = true then .rt t (e.set i none) else .st
    | _ => .st
  | .pl _ => .st
  | r => .rt r e
def mRetN : MS := fun e => .rt (.d .none) e
def mIfS (c : MT) (a b : MS) : MS := mThenT c fun k e => if k = true then a e else b e
def mPar (i j : Nat) (bi bj : Bool) (ma : MA) : MS := fun env => match ma env with
  | .st => .st
  | .ex x e => .ex x e
  | .ok [r1, r2] e => match qN i bi r1 e with
    | some e1 => stOf (qN j bj r2 e1)
    | none => .st
  | _ => .st
def forGo (q : MQ) (b : MS) : List D → En → RS
  | [], e => .nx e
  | x :: xs, e => match q (.d x) e with
    | none => .st
    | some e1 => match b e1 with
      | .nx e2 => forGo q b xs e2
      | .ct e2 => forGo q b xs e2
      | .bk e2 => .nx e2
      | .rt r e2 => .rt r e2
      | .ex x e2 => .ex x e2
      | .st => .st
def mFor (mi : MI) (q : MQ) (b : MS) : MS := fun env => match mi env with
  | .st => .st
  | .ex x e => .ex x e
  | .ok ds e => forGo q b ds e
def whGo (c : MT) (b : MS) : Nat → En → RS
  | 0, _ => .st
  | n + 1, e => match c e with
    | .st => .st
    | .ex x e => .ex x e
    | .ok k e1 => if k = true then match b e1 with
        | .nx e2 => whGo c b n e2
        | .ct e2 => whGo c b n e2
        | .bk e2 => .nx e2
        | .rt r e2 => .rt r e2
        | .ex x e2 => .ex x e2
        | .st => .st
      else .nx e1
def mWh (n : Nat) (c : MT) (b : MS) : MS := fun env => whGo c b n env
section
variable {X : Cx} {W : WX} {OW : Nat → Bool} {s : Stmt} {ss : List Stmt} {m : MS} {me : ME} {mt : MT} {a b : MS} {e c : Expr} {q : MQ} {sl : List Nat} {tg iter : Expr} {pos : Pos} {mi : MI} {ma : MA}
theorem dss_nil : DSs X W OW [] mNext := pss_le pss_nil fun D σ H ⟨H0, P, env, Rl, S⟩ => S σ H Rl
theorem seq_le {D : Ends} {σ : L2.St} {H : Hp} (h : tSt (cy X W OW) (mSeq a b) D σ H) : tSeq (tSt (cy X W OW) a) (tSt (cy X W OW) b) D σ H := by
  obtain ⟨H0, P, env, Rl, S⟩ := h
  refine ⟨H0, P, env, Rl, ?_⟩
  unfold mSeq at S
  cases e : a env with
  | nx e1 => rw [e] at S; exact fun σ' H' R1 => ⟨H0, P, e1, R1, S⟩
  | st => rw [e] at S; exact S
  | rt r e1 => rw [e] at S; exact S
  | bk e1 => rw [e] at S; exact S
  | ct e1 => rw [e] at S; exact S
  | ex x e1 => rw [e] at S; exact S
theorem dss_cons (h : DS X W OW s a) (h2 : DSs X W OW ss b) : DSs X W OW (s :: ss) (mSeq a b) := pss_le (pss_cons h h2) fun D σ H q => seq_le q
theorem dss_one (h : DS X W OW s a) : DSs X W OW [s] a := pss_one h
theorem ds_pass : DS X W OW (.Pass pos) mNext := ps_le ps_pass fun D σ H ⟨H0, P, env, Rl, S⟩ => S σ H Rl
theorem ds_brk : DS X W OW (.Break pos) mBrk := ps_le ps_break fun D σ H ⟨H0, P, env, Rl, S⟩ => S σ H Rl
theorem ds_cnt : DS X W OW (.Continue pos) mCnt := ps_le ps_continue fun D σ H ⟨H0, P, env, Rl, S⟩ => S σ H Rl
/-- a statement that isn't reached -/
theorem ds_stop : DS X W OW s mStop := ps_le ps_never fun D σ H ⟨H0, P, env, Rl, S⟩ => S
theorem ds_set (he : DE X W OW e me) (hg : DQ X OW tg sl q) (hs : swapsWithSole [tg] e pos.line X.env = pure false := by rfl) (hw : swappedStores [tg] e X.env = pure none := by rfl)
    (h1 : (assignEach [tg] X.env).map (·.2) = [assign tg X.env] := by rfl) : DS X W OW (.Assign [tg] e pos) (mSet q me) := by
  refine ps_le (ps_asg he hg hs hw h1) fun D σ H ⟨H0, P, env, Rl, S⟩ => ⟨H0, P, env, [], Rl, (SatS.then S).mono fun r e1 _ S1 v H1 R1 => ?_⟩
  cases hq : q r e1 with
  | none => rw [hq] at S1; exact S1.elim
  | some e2 =>
    rw [hq] at S1
    exact ⟨H0, P, e1, [], r, e2, R1, fun p m => absurd m List.not_mem_nil, hq, fun σ' H' _ _ R2 => S1 σ' H' R2⟩
/-- name = [..] -/
theorem ds_setLc {i : Nat} {y : Str} {py : Pos} {elt : Expr} {ifs : List Expr} {scope : Scope} {own : List (Str × Nat)} {spos : Pos} {tt : MT} {mel : ME} {bi : Bool} (hc : X.calm = true) (hN : X.N.Nodup) (hb : bi = true → OW i = true) (hy : X.N[i]? = some y) (hyl : X.env.scope.names.lookup y = some .local)
    (hsw : swapsWith (.ListComp elt [⟨tg, iter, ifs, 0⟩] scope pos) (some (.Name y py)) spos.line X.env = pure true) (hi : DI X W OW tg iter mi) (ok : BlkOk X.N X.env.scope scope own)
    (hg : ∀ (s : Shared) (H : Hp) (C : Addr) (cl : List (Str × Addr)) (fp : List Addr), DQ (X.blk s H scope (compEnvC scope cl C X.env) fp) OW tg sl q)
    (ht : ∀ (s : Shared) (H : Hp) (C : Addr) (cl : List (Str × Addr)) (fp : List Addr), DTs (X.blk s H scope (compEnvC scope cl C X.env) fp) NoX OW ifs tt)
    (he : ∀ (s : Shared) (H : Hp) (C : Addr) (cl : List (Str × Addr)) (fp : List Addr), DE (X.blk s H scope (compEnvC scope cl C X.env) fp) NoX OW elt mel)
    (hO : ∀ i ∈ own.map (·.2), OW i = false) (hsub : ∀ i ∈ sl, i ∈ own.map (·.2)) (hs : ∀ x, foldedSetIterable iter X.env x = pure x := by intro _; rfl) :
    DS X W OW (.Assign [.Name y py] (.ListComp elt [⟨tg, iter, ifs, 0⟩] scope pos) spos) (mSet (qN i bi) (mLc mi q tt mel (own.map (·.2)))) := by
  refine ps_le (ps_setLc (wi := tI (cy X W OW) mi) (g := tQ (cy X NoX OW) sl q) (tt := tT (cy X NoX OW) tt) (te := tD (cy X NoX OW) mel) hc hN hy hyl hsw hi ok hg ht he hs) fun D σ H ⟨H0, P, env, Rl, S⟩ => ?_
  refine lc_le (W := W) hO hsub (Q := fun x H1 => gName i x σ H1 D.nx) ⟨H0, P, env, [], Rl, (SatS.then S).mono fun r e1 _ S1 v H1 R1 => ?_⟩
  unfold qN at S1
  by_cases c : (decide (i < e1.length) && notPl e1[i]? && okSt bi r) = true
  · rw [if_pos c] at S1
    simp only [Bool.and_eq_true, decide_eq_true_eq] at c
    obtain ⟨⟨c1, c2⟩, c3⟩ := c
    obtain ⟨o1, o2, o3⟩ := okSt_ok c3
    exact S1 _ _ (R1.store c1 c2 o1 o2 (fun p m => absurd m List.not_mem_nil) fun o => hb (o3 o))
  · rw [if_neg c] at S1; exact S1.elim
theorem ds_expr (he : DE X W OW e me) (hs : swapsWith e none pos.line X.env = pure false := by rfl) : DS X W OW (.Expr e pos) (mDrp me) :=
  ps_le (ps_expr he hs) fun D σ H ⟨H0, P, env, Rl, S⟩ => ⟨H0, P, env, [], Rl, (SatS.then S).mono fun r e1 _ S1 v H1 R1 => S1 σ H1 R1.drop⟩
theorem ds_doc {x j pos'} : DS X W OW (.Expr (.Constant (.str x) j pos) pos') mNext := ps_le ps_doc fun D σ H ⟨H0, P, env, Rl, S⟩ => S σ H Rl
theorem ds_ret (he : DE X W OW e me) : DS X W OW (.Return (some e) pos) (mRet me) := by
  refine ps_le (ps_ret he) fun D σ H ⟨H0, P, env, Rl, S⟩ => ⟨H0, P, env, [], Rl, (SatS.then S).mono fun r e1 _ S1 v H1 R1 => ?_⟩
  cases r with
  | vr i =>
    dsimp only at S1
    cases h1 : e1[i]? with
    | none => rw [h1] at S1; exact S1.elim
    | some o =>
      cases o with
      | none => rw [h1] at S1; exact S1.elim
      | some t =>
        simp only [h1] at S1
        by_cases c : (t.own && notPl (some (some t))) = true
        · rw [if_pos c] at S1
          simp only [Bool.and_eq_true] at c
          obtain ⟨hv, _⟩ : σ[i]? = some (some v) ∧ ∃ r, e1[i]? = some (some r) := R1.pend (v, .vr i) List.mem_cons_self
          exact S1 σ H1 v (R1.drop.takeOut h1 c.1 hv (by rw [h1]; exact c.2) fun p m => absurd m List.not_mem_nil)
        · rw [if_neg c] at S1; exact S1.elim
  | pl x => exact S1.elim
  | d x => exact S1 σ H1 v R1
  | ol x => exact S1 σ H1 v R1
  | oK x => exact S1 σ H1 v R1
  | oT x => exact S1 σ H1 v R1
  | kl x => exact S1 σ H1 v R1
theorem ds_retN : DS X W OW (.Return none pos) mRetN := ps_le ps_retN fun D σ H ⟨H0, P, env, Rl, S⟩ => S σ H .non (Rl.put (RP.of (r := .d .none) .non) rfl)
theorem ds_if {p q : List Stmt} (hc : DT X W OW c mt) (ha : DSs X W OW p a) (hb : DSs X W OW q b) : DS X W OW (.If c p q pos) (mIfS mt a b) := by
  refine ps_le (ps_if hc ha hb) fun D σ H ⟨H0, P, env, Rl, S⟩ => ⟨H0, P, env, [], Rl, (SatS.thenT S).mono fun k e1 _ S1 H1 R1 => ?_⟩
  cases k with
  | true => exact ⟨H0, P, e1, R1, S1⟩
  | false => exact ⟨H0, P, e1, R1, S1⟩
theorem ds_par {i j : Nat} {x y : Str} {bi bj : Bool} {e1 e2 : Expr} {px py pt : Pos} {kt k2 pt2} (hc : X.calm = true) (hN : X.N.Nodup) (hbi : bi = true → OW i = true) (hbj : bj = true → OW j = true) (ha : DA X W OW [e1, e2] ma) (hij : i ≠ j := by decide) (hi : X.N[i]? = some x := by rfl) (hj : X.N[j]? = some y := by rfl)
    (hx : X.env.scope.names.lookup x = some .local := by rfl) (hy : X.env.scope.names.lookup y = some .local := by rfl)
    (hw : swappedStores [.Tuple [.Name x px, .Name y py] kt pt] (.Tuple [e1, e2] k2 pt2) X.env = pure (some [x, y]) := by rfl)
    (hs : swapsWithSole [.Tuple [.Name x px, .Name y py] kt pt] (.Tuple [e1, e2] k2 pt2) pos.line X.env = pure false := by rfl) :
    DS X W OW (.Assign [.Tuple [.Name x px, .Name y py] kt pt] (.Tuple [e1, e2] k2 pt2) pos) (mPar i j bi bj ma) := by
  refine ps_le (ps_par hc hN hi hj hij hx hy ha hw hs) fun D σ H ⟨H0, P, env, Rl, S⟩ => ⟨H0, P, env, [], Rl, ?_⟩
  unfold mPar at S
  cases h1 : ma env with
  | st => rw [h1] at S; exact S
  | ex x e => rw [h1] at S; exact fun c d H' R1 rx => S c d σ H' R1 rx
  | ok rs ea =>
    rw [h1] at S
    intro vs H1 hl R1
    match rs, S, hl, R1 with
    | [r1, r2], S, hl, R1 =>
      match vs, hl, R1 with
      | [v, w], _, R1 =>
        refine ⟨v, w, rfl, ?_⟩
        simp only at S
        unfold qN at S
        by_cases c : (decide (i < ea.length) && notPl ea[i]? && okSt bi r1) = true
        · rw [if_pos c] at S
          dsimp only at S
          simp only [Bool.and_eq_true, decide_eq_true_eq] at c
          obtain ⟨⟨c1, c2⟩, c3⟩ := c
          obtain ⟨o1, o2, o3⟩ := okSt_ok c3
          by_cases d : (decide (j < (ea.set i (some r1)).length) && notPl (ea.set i (some r1))[j]? && okSt bj r2) = true
          · rw [if_pos d] at S
            simp only [Bool.and_eq_true, decide_eq_true_eq] at d
            obtain ⟨⟨d1, d2⟩, d3⟩ := d
            obtain ⟨p1, p2, p3⟩ := okSt_ok d3
            have R2 := R1.store c1 c2 o1 o2 (fun p m z => by
              have m' : p = (w, r2) := by simpa using m
              rw [m'] at z
              exact p1 _ z) fun o => hbi (o3 o)
            exact S _ _ (R2.store d1 d2 p1 p2 (fun p m => absurd m List.not_mem_nil) fun o => hbj (p3 o))
          · rw [if_neg d] at S; exact S.elim
        · rw [if_neg c] at S; exact S.elim
theorem for_le {D : Ends} {σ : L2.St} {H : Hp} (h : tSt (cy X W OW) (mFor mi q b) D σ H) : tFor (tI (cy X W OW) mi) (tQ (cy X NoX OW) sl q) (tSt (cy X W OW) b) D σ H := by
  obtain ⟨H0, P, env, Rl, S⟩ := h
  refine ⟨H0, P, env, [], Rl, ?_⟩
  unfold mFor at S
  cases h1 : mi env with
  | st => rw [h1] at S; exact S
  | ex x e => rw [h1] at S; exact fun c d H' R1 rx => S c d σ H' R1 rx
  | ok ds e1 =>
    rw [h1] at S
    intro H1 J R1 src
    refine ⟨fun i k σ H => k = ds.length - i ∧ i ≤ ds.length ∧ ∃ env', Rel X.K OW (baseOf H0 H1) P env' σ H [] ∧ SatS (cy X W OW) H0 P (forGo q b (ds.drop i) env') D, ⟨ds.length, rfl, Nat.zero_le _, e1, R1.moreBase, S⟩, ?_⟩
    rintro i k σ3 H3 ⟨rfl, hi, env', R5, go⟩
    have kp3 : Kp H1 H3 := R5.kpBase R1.parNot
    have bk : ∀ {e : En} {σ' : L2.St} {H' : Hp} {L : Pe}, Rel X.K OW (baseOf H0 H1) P e σ' H' L → Rel X.K OW H0 P e σ' H' L := fun r => R1.backBase r
    by_cases hlt : i < ds.length
    · have hd : ds[i]? = some ds[i] := List.getElem?_eq_getElem hlt
      have hdrop : ds.drop i = ds[i] :: ds.drop (i + 1) := List.drop_eq_getElem_cons hlt
      generalize ds[i] = d at hd hdrop
      rw [hdrop] at go
      obtain ⟨g, y⟩ := ((src H3 kp3) i).1 d hd
      refine .inr ⟨g, fun σ' H' => ∃ env', Rel X.K OW (baseOf H0 H1) P env' σ' H' [] ∧ SatS (cy X W OW) H0 P (forGo q b (ds.drop (i + 1)) env') D,
        fun σ' H' ⟨env', R, z⟩ => ⟨ds.length - (i + 1), by omega, rfl, hlt, env', R, z⟩, fun x H' yy => ?_⟩
      obtain ⟨sm, rx⟩ := y x H' yy
      unfold forGo at go
      cases hm : q (.d d) env' with
      | none => simp only [hm] at go; exact go.elim
      | some ea =>
        simp only [hm] at go
        refine ⟨_, P, env', [], .d d, ea, (R5.grow sm).put (r := .d d) rx rfl, fun p m => absurd m List.not_mem_nil, hm, fun σ4 H4 _ _ R7 => ⟨_, P, ea, R7, ?_⟩⟩
        cases hb : b ea with
        | st => simp only [hb] at go; exact go.elim
        | nx e2 => simp only [hb] at go; exact fun σ' H' R8 => ⟨e2, R8, go⟩
        | ct e2 => simp only [hb] at go; exact fun σ' H' R8 => ⟨e2, R8, go⟩
        | bk e2 => simp only [hb] at go; exact fun σ' H' R8 => go σ' H' (bk R8)
        | rt r e2 => simp only [hb] at go; exact fun σ' H' v R8 => go σ' H' v (bk R8)
        | ex x e2 => simp only [hb] at go; exact fun c d σ' H' R8 rx => go c d σ' H' (bk R8) rx
    · have e : i = ds.length := by omega
      subst e
      rw [List.drop_length] at go
      exact .inl ⟨((src H3 kp3) _).2 (Nat.le_refl _), go σ3 H3 (bk R5)⟩
theorem ds_for {body : List Stmt} (hp : PassesOwn (model X.prog X.w) X.A X.env X.xe) (hc : X.calm = true) (hi : DI X W OW tg iter mi) (hg : DQ X OW tg sl q) (hb : DSs X W OW body b) (hs : ∀ x, foldedSetIterable iter X.env x = pure x := by intro _; rfl) :
    DS X W OW (.For tg iter body [] pos) (mFor mi q b) := ps_le (ps_for hp hc hi hg hb hs) fun _ _ _ h => for_le h
theorem wh_le {n : Nat} {D : Ends} {σ : L2.St} {H : Hp} (h : tSt (cy X W OW) (mWh n mt b) D σ H) : tWhile (tT (cy X W OW) mt) (tSt (cy X W OW) b) D σ H := by
  obtain ⟨H0, P, env, Rl, S⟩ := h
  refine ⟨fun k σ H => ∃ env', Rel X.K OW H0 P env' σ H [] ∧ SatS (cy X W OW) H0 P (whGo mt b k env') D, ⟨n, env, Rl, S⟩, ?_⟩
  rintro k σ1 H1 ⟨env', R1, go⟩
  cases k with
  | zero => exact go.elim
  | succ k =>
    unfold whGo at go
    refine ⟨H0, P, env', [], R1, ?_⟩
    cases hc : mt env' with
    | st => simp only [hc] at go; exact go
    | ex x e => simp only [hc] at go; exact fun c d H' R2 rx => go c d σ1 H' R2 rx
    | ok t ea =>
      simp only [hc] at go
      intro H2 R2
      cases t with
      | false =>
        rw [if_neg Bool.false_ne_true] at go ⊢
        exact go σ1 H2 R2
      | true =>
        rw [if_pos rfl] at go ⊢
        refine ⟨fun σ' H' => ∃ env', Rel X.K OW H0 P env' σ' H' [] ∧ SatS (cy X W OW) H0 P (whGo mt b k env') D, fun σ' H' z => ⟨k, Nat.lt_succ_self k, z⟩, H0, P, ea, R2, ?_⟩
        cases hb : b ea with
        | st => simp only [hb] at go; exact go.elim
        | nx e2 => simp only [hb] at go; exact fun σ' H' R8 => ⟨e2, R8, go⟩
        | ct e2 => simp only [hb] at go; exact fun σ' H' R8 => ⟨e2, R8, go⟩
        | bk e2 => simp only [hb] at go; exact go
        | rt r e2 => simp only [hb] at go; exact go
        | ex x e2 => simp only [hb] at go; exact go
theorem ds_while {body : List Stmt} (n : Nat) (hp : PassesOwn (model X.prog X.w) X.A X.env X.xe) (hc : DT X W OW c mt) (hb : DSs X W OW body b) : DS X W OW (.While c body [] pos) (mWh n mt b) := ps_le (ps_while hp hc hb) fun _ _ _ h => wh_le h
end
end Pw

set_option Elab.async false
set_option linter.all false
set_option maxRecDepth 100000
set_option maxHeartbeats 2000000
/-! Pw: defs as programs over slots; calls. -/
namespace Pw
open PySem PySem.Spec PyProof.Rows L2

abbrev SpG := List V → Hp → VK → Prop
/-- a def's promise where no repr goes on (no exception leaves) -/
structure FnG (P : Program) (w : World) (K : PySem.W.Frag) (mg : Str → Option Value) (base : Heap) (k : Nat) (f : Addr) (fd : FuncData) (ps : List Str) (sp : SpG) : Prop where
  len : ∀ vs H Q, sp vs H Q → vs.length = ps.length
  run : ∀ (A : Around) (outer : List Env) (s : Shared) (H : Hp) (args : Args) (us : List Value) (vs : List V) (Q : VK), Room k A → A.guards = some [] → Env0 P w K mg base A outer s H → BindsTo s fd args (ps.zip us) → Vals vs us → sp vs H Q →
    codeAny (model P w) A (.call (.ref f) args) (CR CX0 outer P w H s Q E0) s
section
variable {P : Program} {w : World} {K : PySem.W.Frag} {mg : Str → Option Value} {base : Heap}
theorem FnG.mono {j k : Nat} {f : Addr} {fd : FuncData} {ps : List Str} {sp : SpG} (F : FnG P w K mg base j f fd ps sp) (h : j ≤ k) : FnG P w K mg base k f fd ps sp :=
  ⟨F.len, fun A outer s H args us vs Q hr => F.run A outer s H args us vs Q (hr.mono h)⟩
/-- a def by its body -/
theorem fng_of {x qual : Str} {st : Stmt} {f : Addr} {fd : FuncData} {N ps : List Str} {k : Nat} {sp : SpG} (F : Fun K x qual st f fd) (S : FnScope N ps (defScope st)) (len : ∀ vs H Q, sp vs H Q → vs.length = ps.length)
    (hbody : ∀ (cdv : Value) (A : Around) (outer : List Env) (s : Shared) (H : Hp) (vs : List V) (Q : VK), Room k (A.deeper (envOfC qual (defScope st) s.heap.objs.size f cdv)) → A.guards = some [] → sp vs H Q →
      ∃ t, PSs (cxOf CX0 P w K mg base N qual (defScope st) f cdv A outer s H E0).nox (defBody st) t ∧ t { nx := fun _ H' => Q .non H', rt := Q } (L2.start N vs) H) : FnG P w K mg base (k + 1) f fd ps sp := by
  obtain ⟨oc, od, kV, doc, pm, an, cdv, ct, osl, rfl, lk, hcd⟩ := F.ex
  refine ⟨len, fun A outer s H args us vs Q hr gd e0 hb rv q0 => ?_⟩
  have hl := len _ _ _ q0
  have kin : K.In s.heap := e0.mod.kin.keeps fun b o e => (e0.bs b o e).1
  have nolim : s.heap.NoLimit := e0.mod.nolimit.keeps fun b o e => (e0.bs b o e).1
  have kinds : ∀ y ∈ ps.zip us, (defScope st).names.lookup y.1 = some .local ∨ ((defScope st).names.lookup y.1 = some .cell ∧ ((cellsFrom (s.heap.objs.size + 1) (defScope st).names []).lookup y.1).isSome = true) := fun ⟨n, v⟩ hy =>
    (S.par n (List.of_mem_zip hy).1).imp id fun z => ⟨z, PySem.W.cellsFrom_some _ _ _ (.inl z)⟩
  refine codeAny_call_function hr.depth (kin _ _ lk) rfl S.co S.gen rfl (PySem.W.codeRec_of kin hcd) (hb _ _ _ _ (wpAny_newFunctionEnv_cells S.kind kinds fun env he s1 x1 => ?_))
  subst he
  refine ⟨nolim.keeps x1.toInCall.keep, codeAny_func ?_⟩
  obtain ⟨t, ht, q1⟩ := hbody cdv A outer s H vs Q (hr.deeper _) gd q0
  have I : Inv (cxOf CX0 P w K mg base N qual (defScope st) f cdv A outer s H E0) [] (L2.start N vs) H s1 := inv_start S hr.hd e0 hl rv x1
  refine wpAny_mono (ht.nox.run [] s1 (L2.start N vs) H _ I q1) (fun fl s2 h2 => ?_) fun _ _ z => z
  cases fl with
  | ret u =>
    obtain ⟨v, σ', H', J, r, z⟩ := h2
    exact ⟨v, H', J.os, J.bare, J.base, J.hok, r, z⟩
  | next =>
    obtain ⟨σ', H', J, z⟩ := h2
    exact ⟨V.non, H', J.os, J.bare, J.base, J.hok, rfl, z⟩
  | brk =>
    obtain ⟨_, _, _, z⟩ := h2
    exact z.elim
  | cont =>
    obtain ⟨_, _, _, z⟩ := h2
    exact z.elim
end

/-! ### the promise: a program over slots -/
def env0 (n : Nat) (rs : List R) : En := rs.map some ++ List.replicate (n - rs.length) none
def okRet : R → Bool
  | .vr _ => false
  | .pl _ => false
  | _ => true
def fRun (m : MS) (env : En) : Option (R × En) := match m env with
  | .rt r e => if okRet r = true then some (r, e) else none
  | .nx e => some (.d .none, e)
  | _ => none
def parOf (vs : List V) (rs : List R) : List (Option Addr) := List.zipWith (fun v r => match v, r with
  | .ref a, .pl _ => some a
  | _, _ => none) vs rs
def isDK : R → Bool
  | .d _ => true
  | .kl _ => true
  | _ => false
def argOk : List R → Bool
  | .pl _ :: rs => rs.all isDK
  | rs => rs.all isDK
def RRs (K : PySem.W.Frag) (H : Hp) : List V → List R → Prop := Paired (RR K H)
def fspec (K : PySem.W.Frag) (OW : Nat → Bool) (np n : Nat) (m : MS) : SpG := fun vs H Q => ∃ rs r e', rs.length = np ∧ RRs K H vs rs ∧ argOk rs = true ∧ fRun m (env0 n rs) = some (r, e') ∧ ∀ v H' σ', Rel K OW H (parOf vs rs) e' σ' H' [(v, r)] → Q v H'
section
variable {K : PySem.W.Frag} {OW : Nat → Bool} {H H' : Hp} {vs : List V} {rs : List R}
theorem prd_get {α β : Type} {F : α → β → Prop} : ∀ {l : List α} {m : List β} {i : Nat} {y : β}, Paired F l m → m[i]? = some y → ∃ x, l[i]? = some x ∧ F x y
  | _, _, _, _, .nil, h => by simp at h
  | _, _, 0, _, .cons r t, h => by cases h; exact ⟨_, rfl, r⟩
  | _, _, i + 1, _, .cons r t, h => by
    rw [List.getElem?_cons_succ] at h
    obtain ⟨x, h1, h2⟩ := prd_get t h
    exact ⟨x, by rw [List.getElem?_cons_succ]; exact h1, h2⟩
theorem isDK_own {r : R} (h : isDK r = true) : r.own = false := by cases r <;> first | rfl | cases h
theorem argOk_own : ∀ {rs : List R} {i : Nat} {r : R}, argOk rs = true → rs[i]? = some r → r.own = true → i = 0 ∧ ∃ xs, r = .pl xs := by
  intro rs i r h e o
  have dk : ∀ {l : List R} {j : Nat}, l.all isDK = true → l[j]? = some r → False := fun {l j} a b => by
    have q := List.all_eq_true.mp a r (List.mem_of_getElem? b)
    rw [isDK_own q] at o; cases o
  match rs, h, e with
  | [], _, e => simp at e
  | x :: l, h, e =>
    cases x with
    | pl xs =>
      cases i with
      | zero => cases e; exact ⟨rfl, xs, rfl⟩
      | succ i => exact (dk (show l.all isDK = true from h) e).elim
    | _ => exact (dk h e).elim
theorem env0_get {n : Nat} {rs : List R} {i : Nat} {r : R} (h : (env0 n rs)[i]? = some (some r)) : rs[i]? = some r := by
  unfold env0 at h
  by_cases hi : i < rs.length
  · rw [List.getElem?_append_left (by simpa using hi), List.getElem?_map] at h
    obtain ⟨x, h1, h2⟩ := Option.map_eq_some_iff.mp h
    cases h2
    exact h1
  · rw [List.getElem?_append_right (by simpa using hi), List.getElem?_replicate] at h
    split at h <;> cases h
theorem start_get {N : List Str} {i : Nat} {v : V} (h : vs[i]? = some v) : (L2.start N vs)[i]? = some (some v) := by
  unfold L2.start
  have hi := (List.getElem?_eq_some_iff.mp h).1
  rw [List.getElem?_append_left (by simpa using hi), List.getElem?_map, h] <;> rfl
theorem parOf_get {i : Nat} {a : Addr} (h : (parOf vs rs)[i]? = some (some a)) : vs[i]? = some (.ref a) ∧ ∃ xs, rs[i]? = some (.pl xs) := by
  unfold parOf at h
  rw [List.getElem?_zipWith] at h
  cases h1 : vs[i]? with
  | none => rw [h1] at h; cases h
  | some v =>
    cases h2 : rs[i]? with
    | none => rw [h1, h2] at h; cases h
    | some r =>
      rw [h1, h2] at h
      cases v <;> cases r <;> simp at h
      subst h
      exact ⟨rfl, _, rfl⟩
theorem Rel.begin {N : List Str} (hr : RRs K H vs rs) (ok : argOk rs = true) (ho : ∀ r, rs[0]? = some r → r.own = true → OW 0 = true) (hn : rs.length ≤ N.length) : Rel K OW H (parOf vs rs) (env0 N.length rs) (L2.start N vs) H [] := by
  have hl : vs.length = rs.length := prd_len hr
  refine ⟨by unfold env0 L2.start; simp only [List.length_append, List.length_map, List.length_replicate]; omega, fun i r e => ?_, fun p m => absurd m List.not_mem_nil, fun i j r r' v a b c d e f => ?_, fun i r v p a b c d => absurd d List.not_mem_nil, List.Pairwise.nil, fun a o e _ => e, fun i r a e o f => ?_, fun p m => absurd m List.not_mem_nil, fun i a e => ?_, fun i r e o => ?_, fun p m => absurd m List.not_mem_nil⟩
  · obtain ⟨v, h1, h2⟩ := prd_get hr (env0_get e)
    exact ⟨v, start_get h1, h2⟩
  · rw [(argOk_own ok (env0_get a) c).1, (argOk_own ok (env0_get b) d).1]
  · obtain ⟨v, h1, h2⟩ := prd_get hr (env0_get e)
    rw [start_get h1] at f; cases f
    obtain ⟨z, xs, ex⟩ := argOk_own ok (env0_get e) o
    subst ex
    refine .inr ?_
    unfold parOf
    rw [List.getElem?_zipWith, h1, env0_get e] <;> rfl
  · obtain ⟨h1, xs, h2⟩ := parOf_get e
    refine ⟨start_get h1, xs, ?_⟩
    unfold env0
    have hi := (List.getElem?_eq_some_iff.mp h2).1
    rw [List.getElem?_append_left (by simpa using hi), List.getElem?_map, h2] <;> rfl
  · obtain ⟨z, _⟩ := argOk_own ok (env0_get e) o
    subst z
    exact ho r (env0_get e) o
end
section
variable {P : Program} {w : World} {K : PySem.W.Frag} {mg : Str → Option Value} {base : Heap}
/-- the context of a def's body -/
abbrev bx (P : Program) (w : World) (K : PySem.W.Frag) (mg : Str → Option Value) (base : Heap) (N : List Str) (qual : Str) (st : Stmt) (f : Addr) (cdv : Value) (A : Around) (outer : List Env) (s : Shared) (H : Hp) : Cx :=
  (cxOf CX0 P w K mg base N qual (defScope st) f cdv A outer s H E0).nox
theorem fng_d {x qual : Str} {st : Stmt} {f : Addr} {fd : FuncData} {N ps : List Str} {k n : Nat} {m : MS} {OW : Nat → Bool} (F : Fun K x qual st f fd) (S : FnScope N ps (defScope st)) (hn : N.length = n) (h0 : OW 0 = true)
    (hbody : ∀ (cdv : Value) (A : Around) (outer : List Env) (s : Shared) (H : Hp), Room k (A.deeper (envOfC qual (defScope st) s.heap.objs.size f cdv)) → (A.deeper (envOfC qual (defScope st) s.heap.objs.size f cdv)).guards = some [] →
      DSs (bx P w K mg base N qual st f cdv A outer s H) NoX OW (defBody st) m) : FnG P w K mg base (k + 1) f fd ps (fspec K OW ps.length n m) := by
  have hpn : ps.length ≤ N.length := by have := congrArg List.length S.pre; rw [List.length_take] at this; omega
  refine fng_of F S (fun vs H Q ⟨rs, r, e', h1, h2, _⟩ => by rw [prd_len h2, h1]) fun cdv A outer s H vs Q hr gd ⟨rs, r, e', h1, h2, h3, h4, q⟩ => ⟨_, hbody cdv A outer s H hr gd, H, parOf vs rs, env0 n rs, ?_, ?_⟩
  · subst hn
    exact Rel.begin h2 h3 (fun _ _ _ => h0) (by omega)
  · unfold fRun at h4
    cases e : m (env0 n rs) with
    | rt r1 e1 =>
      rw [e] at h4
      simp only at h4
      by_cases c : okRet r1 = true
      · rw [if_pos c] at h4
        cases h4
        exact fun σ' H' v R1 => q v H' σ' R1
      · rw [if_neg c] at h4; cases h4
    | nx e1 =>
      rw [e] at h4
      cases h4
      exact fun σ' H' R1 => q .non H' σ' (R1.put (RP.of (r := .d .none) .non) rfl)
    | _ => rw [e] at h4; cases h4
end
/-! ### calls -/
def mCall (n : Nat) (mc : MS) (ma : MA) : ME := fun env => (ma env).bind fun rs e1 => if rs.all isDK = true then match fRun mc (env0 n rs) with
  | some (r, _) => .ok r e1
  | none => .st
  else .st
def potL : R → Option (List D)
  | .ol xs => some xs
  | .pl xs => some xs
  | _ => none
def reP (ys : List D) : R → R
  | .pl _ => .pl ys
  | _ => .ol ys
def potE (e : En) : Option (List D) := match (e[0]? : Option (Option R)) with
  | some (some (R.pl ys)) => some ys
  | _ => none
/-- the first argument is a list that the def may write -/
def mCallP (n : Nat) (mc : MS) (ma : MA) : ME := fun env => (ma env).bind fun rs e1 => match rs with
  | .vr j :: rest => if rest.all isDK = true then match e1[j]? with
    | some (some t) => match potL t with
      | some xs => match fRun mc (env0 n (.pl xs :: rest)) with
        | some (r, e') => match potE e' with
          | some ys => .ok r (e1.set j (some (reP ys t)))
          | none => .st
        | none => .st
      | none => .st
    | _ => .st
    else .st
  | .ol xs :: rest => if rest.all isDK = true then match fRun mc (env0 n (.pl xs :: rest)) with
    | some (r, _) => .ok r e1
    | none => .st
    else .st
  | _ => .st
section
variable {K : PySem.W.Frag} {OW OC : Nat → Bool} {H0 H1 H' : Hp} {P0 : List (Option Addr)} {e1 e' : En} {σ σ' : L2.St} {L : Pe} {vs : List V} {rs : List R} {v : V} {r : R} {mc : MS} {env : En}
theorem fRun_ok (h : fRun mc env = some (r, e')) : okRet r = true := by
  unfold fRun at h
  split at h
  · split at h
    · cases h; assumption
    · cases h
  · cases h; rfl
  · cases h
theorem okRet_no (h : okRet r = true) : (∀ i, r ≠ .vr i) ∧ ∀ ds, r ≠ .pl ds := ⟨fun i z => (by subst z; cases h), fun i z => (by subst z; cases h)⟩
theorem dk_par {rs : List R} (h : rs.all isDK = true) (a : Addr) : some a ∉ parOf vs rs := fun m => by
  obtain ⟨i, e⟩ := List.mem_iff_getElem?.mp m
  obtain ⟨_, xs, q⟩ := parOf_get e
  have := List.all_eq_true.mp h _ (List.mem_of_getElem? q)
  cases this
theorem dk_rrs (R1 : Rel K OW H0 P0 e1 σ H1 L) : ∀ {vs : List V} {rs : List R}, vs.length = rs.length → (∀ p ∈ vs.zip rs, p ∈ L) → rs.all isDK = true → RRs K H1 vs rs
  | [], [], _, _, _ => .nil
  | v :: vs, r :: rs, hl, hm, h => by
    rw [List.all_cons, Bool.and_eq_true] at h
    refine .cons ?_ (dk_rrs R1 (by simpa using hl) (fun p q => hm p (List.mem_cons_of_mem _ q)) h.2)
    exact (R1.pend _ (hm _ List.mem_cons_self)).rr fun i z => by
      have z' : r = .vr i := z
      rw [z'] at h; cases h.1
  | [], _ :: _, hl, _, _ => by cases hl
  | _ :: _, [], hl, _, _ => by cases hl
theorem argOk_dk {rs : List R} (h : rs.all isDK = true) : argOk rs = true := by
  unfold argOk
  split
  · rw [List.all_cons, Bool.and_eq_true] at h; cases h.1
  · exact h
/-- behind a call that writes nothing of the caller's -/
theorem post_call (hdk : rs.all isDK = true) (ok : okRet r = true) (Rc : Rel K OC H1 (parOf vs rs) e' σ' H' [(v, r)]) : Post K H1 H' v r := by
  obtain ⟨n1, n2⟩ := okRet_no ok
  refine ⟨fun a o e => Rc.keep a o e (dk_par hdk a), (Rc.pend _ List.mem_cons_self).rr n1, fun o => ?_, n2⟩
  obtain ⟨a, u, ea, _⟩ := (Rc.pend _ List.mem_cons_self).ownAt o
  exact ⟨a, ea, (Rc.newL _ List.mem_cons_self o a ea).1⟩
/-- behind a call that may have written the list at a -/
theorem pot_call {a : Addr} {us : List V} {xs ys : List D} {rest : List R} {vrest : List V} (ha : H1 a = some (.lst us)) (hdk : rest.all isDK = true) (ok : okRet r = true) (Rc : Rel K OC H1 (parOf (.ref a :: vrest) (.pl xs :: rest)) e' σ' H' [(v, r)]) (hp : potE e' = some ys) :
    ∃ us', Post K H1 (upd H' a (.lst us)) v r ∧ H' a = some (.lst us') ∧ RDs H' us' ys ∧ upd (upd H' a (.lst us)) a (.lst us') = H' := by
  obtain ⟨n1, n2⟩ := okRet_no ok
  have hP : parOf (.ref a :: vrest) (.pl xs :: rest) = some a :: parOf vrest rest := rfl
  rw [hP] at Rc
  have nin : ∀ b, b ≠ a → some b ∉ (some a :: parOf vrest rest) := fun b nb m => by
    rcases List.mem_cons.mp m with z | z
    · exact nb (Option.some.inj z)
    · exact dk_par hdk b z
  obtain ⟨q1, ds, q2⟩ := Rc.par 0 a rfl
  unfold potE at hp
  rw [q2] at hp
  cases hp
  obtain ⟨w, e1, b, us', e2, e3, e4⟩ := Rc.slot 0 _ q2
  rw [q1] at e1; cases e1
  cases e2
  refine ⟨us', ⟨fun b o e => ?_, ?_, fun o => ?_, n2⟩, e3, e4, ?_⟩
  · by_cases hb : b = a
    · subst hb
      rw [ha] at e; cases e
      exact upd_same
    · rw [upd_ne hb]
      exact Rc.keep b o e (nin b hb)
  · refine ((Rc.pend _ List.mem_cons_self).rr n1).keep (Kp.write e3 trivial) fun o b u eb hb => ?_
    have nb : b ≠ a := fun z => by
      subst z
      have := (Rc.newL _ List.mem_cons_self o b eb).1
      rw [ha] at this; cases this
    rw [upd_ne nb]; exact hb
  · obtain ⟨b, u, eb, _⟩ := (Rc.pend _ List.mem_cons_self).ownAt o
    exact ⟨b, eb, (Rc.newL _ List.mem_cons_self o b eb).1⟩
  · funext b
    by_cases hb : b = a
    · subst hb; rw [upd_same, e3]
    · rw [upd_ne hb, upd_ne hb]
end
section
variable {X : Cx} {W : WX} {OW OC : Nat → Bool} {k np n : Nat} {f : Addr} {fd : FuncData} {ps ks : List Str} {x : Str} {p pos : Pos} {e : Expr} {es : List Expr} {ma : MA} {mc : MS} {kws : List Keyword}
theorem run_g {sp : SpG} {pins : List (Addr × Obj)} {σ : L2.St} {H : Hp} {s : Shared} {Q : VK} {us : List Value} {vs : List V} {kw : List (Str × Value)} {vals : List Value} (F : FnG X.prog X.w X.K X.mg X.base k f fd ps sp) (hr : Room k X.A) (gd : X.A.guards = some []) (hb : BindsTo s fd ⟨us, kw⟩ (ps.zip vals))
    (I : Inv X pins σ H s) (r : Vals vs vals) (h : sp vs H Q) : wpAny (model X.prog X.w) X.A (call (.ref f) us kw) (EP X pins σ Q) X.xe s := by
  refine wpAny_call (codeAny_mono (F.run X.A X.stack s H ⟨us, kw⟩ vals vs Q hr gd I.env0 hb r h) fun res s' hq => ?_)
  cases res with
  | error e => exact False.elim hq
  | ok fl =>
    cases fl with
    | ret u => exact I.after hq
    | next => exact False.elim hq
    | brk => exact False.elim hq
    | cont => exact False.elim hq
def tGo (sp : SpG) (t : TA) : TE := fun σ H Q => t σ H fun vs H1 => sp vs H1 Q
theorem pe_go {sp : SpG} {t : TA} (F : FnG X.prog X.w X.K X.mg X.base k f fd ps sp) (hr : Room k X.A) (gd : X.A.guards = some []) (hg : Gl X x) (hm : X.mg x = some (.ref f)) (hk : PySem.W.keepIn X.K (.ref f) = true) (hb : Binds X.K fd ps [])
    (ha : PA X (e :: es) t) (hdb : (x == ("__debug__" : Str)) = false) (he : starEach (e :: es) X.env = (false, eval e X.env) :: starEach es X.env) (hpl : (backTo pos (starEach es X.env)).any (·.1) = false) : PE X (.Call (.Name x p) (e :: es) [] pos) (tGo sp t) := by
  refine ⟨fun pins s σ H Q I h => wpAny_Call_Name_kw (ld_glob I hg hm ?_ hdb)⟩
  refine PySem.W.callWith_K (h₀ := X.base) I.ok.mod.kin hk (thn (ha.run pos pins s σ H _ I h) fun us s1 ⟨vs, H1, I1, r, q⟩ => ⟨I1.kIn, ?_⟩) he hpl
  have bb := hb s1 us I1.kIn (by rw [List.append_nil, ← r.length]; exact F.len _ _ _ q)
  rw [List.append_nil] at bb
  exact run_g F hr gd bb I1 r q
theorem call_le {σ : L2.St} {H : Hp} {Q : VK} (h : tD (cy X W OW) (mCall n mc ma) σ H Q) (hnp : ∀ env rs e', ma env = .ok rs e' → rs.length = np) : tGo (fspec X.K OC np n mc) (tA (cy X W OW) ma) σ H Q := by
  obtain ⟨H0, P, env, L, Rl, S⟩ := h
  refine ⟨H0, P, env, L, Rl, (Sat.bind S).mono fun rs e1 em S1 vs H1 hl R1 => ?_⟩
  by_cases c : rs.all isDK = true
  · rw [if_pos c] at S1
    cases hf : fRun mc (env0 n rs) with
    | none => simp only [hf] at S1; exact S1.elim
    | some p =>
      obtain ⟨r, e'⟩ := p
      simp only [hf] at S1
      exact ⟨rs, r, e', hnp _ _ _ em, dk_rrs R1 hl (fun p m => List.mem_append_left _ m) c, argOk_dk c, hf, fun v H' σ' Rc => S1 v H' (R1.dropZ.post (post_call c (fRun_ok hf) Rc))⟩
  · rw [if_neg c] at S1; exact S1.elim
theorem callP_le {σ : L2.St} {H : Hp} {Q : VK} (h : tD (cy X W OW) (mCallP n mc ma) σ H Q) (hnp : ∀ env rs e', ma env = .ok rs e' → rs.length = np) : tGo (fspec X.K OC np n mc) (tA (cy X W OW) ma) σ H Q := by
  obtain ⟨H0, P, env, L, Rl, S⟩ := h
  refine ⟨H0, P, env, L, Rl, (Sat.bind S).mono fun rs e1 em S1 vs H1 hl R1 => ?_⟩
  have hlen := hnp _ _ _ em
  match rs, S1, hl, R1, hlen with
  | .vr j :: rest, S1, hl, R1, hlen =>
    match vs, hl, R1 with
    | va :: vrest, hl, R1 =>
      dsimp only at S1
      by_cases c : rest.all isDK = true
      · rw [if_pos c] at S1
        cases h1 : e1[j]? with
        | none => simp only [h1] at S1; exact S1.elim
        | some o =>
          cases o with
          | none => simp only [h1] at S1; exact S1.elim
          | some t =>
            simp only [h1] at S1
            cases h2 : potL t with
            | none => simp only [h2] at S1; exact S1.elim
            | some xs =>
              simp only [h2] at S1
              cases hf : fRun mc (env0 n (.pl xs :: rest)) with
              | none => simp only [hf] at S1; exact S1.elim
              | some p =>
                obtain ⟨r, e'⟩ := p
                simp only [hf] at S1
                cases hp : potE e' with
                | none => simp only [hp] at S1; exact S1.elim
                | some ys =>
                  simp only [hp] at S1
                  obtain ⟨hv, _⟩ : σ[j]? = some (some va) ∧ ∃ r, e1[j]? = some (some r) := R1.pend (va, .vr j) List.mem_cons_self
                  obtain ⟨w, hw, rr⟩ := R1.slot j t h1
                  rw [hv] at hw; cases hw
                  have ex : ∃ a us, va = .ref a ∧ H1 a = some (.lst us) ∧ RDs H1 us xs ∧ t.like (reP ys t) = true := by
                    cases t with
                    | ol zs => cases h2; obtain ⟨a, us, x1, x2, x3⟩ := rr; exact ⟨a, us, x1, x2, x3, rfl⟩
                    | pl zs => cases h2; obtain ⟨a, us, x1, x2, x3⟩ := rr; exact ⟨a, us, x1, x2, x3, rfl⟩
                    | _ => cases h2
                  obtain ⟨a, us, ea, eh, rd, lk⟩ := ex
                  subst ea
                  have hd : (vrest.zip rest).length ≤ (vrest.zip rest).length := Nat.le_refl _
                  refine ⟨.pl xs :: rest, r, e', by simpa using hlen, .cons ⟨a, us, rfl, eh, rd⟩ (dk_rrs R1 (by simpa using hl) (fun p m => List.mem_cons_of_mem _ (List.mem_append_left _ m)) c), c, hf, fun v H' σ' Rc => ?_⟩
                  obtain ⟨us', po, q1, q2, q3⟩ := pot_call eh c (fRun_ok hf) Rc hp
                  have R2 : Rel X.K OW H0 P e1 σ H1 L := R1.drop.dropZ
                  have R3 := R2.post po
                  have R4 := R3.change (u := .lst us') h1 hv lk (by
                    rw [q3]
                    cases t with
                    | ol zs => exact ⟨a, us', rfl, q1, q2⟩
                    | pl zs => exact ⟨a, us', rfl, q1, q2⟩
                    | _ => cases h2)
                  rw [q3] at R4
                  exact S1 v H' R4
      · rw [if_neg c] at S1; exact S1.elim
  | .ol xs :: rest, S1, hl, R1, hlen =>
    match vs, hl, R1 with
    | va :: vrest, hl, R1 =>
      dsimp only at S1
      by_cases c : rest.all isDK = true
      · rw [if_pos c] at S1
        cases hf : fRun mc (env0 n (.pl xs :: rest)) with
        | none => simp only [hf] at S1; exact S1.elim
        | some p =>
          obtain ⟨r, e'⟩ := p
          simp only [hf] at S1
          have rr : RR X.K H1 va (.ol xs) := R1.pend (va, .ol xs) List.mem_cons_self
          obtain ⟨a, us, ea, eh, rd⟩ := rr
          subst ea
          refine ⟨.pl xs :: rest, r, e', by simpa using hlen, .cons ⟨a, us, rfl, eh, rd⟩ (dk_rrs R1 (by simpa using hl) (fun p m => List.mem_cons_of_mem _ (List.mem_append_left _ m)) c), c, hf, fun v H' σ' Rc => ?_⟩
          have hpe : ∃ ys, potE e' = some ys := by
            obtain ⟨q1, ds, q2⟩ := Rc.par 0 a rfl
            exact ⟨ds, by unfold potE; rw [q2]⟩
          obtain ⟨ys, hp⟩ := hpe
          obtain ⟨us', po, q1, q2, q3⟩ := pot_call eh c (fRun_ok hf) Rc hp
          have R2 : Rel X.K OW H0 P e1 σ H1 ((.ref a, .ol xs) :: L) := R1.sub (List.Sublist.cons_cons _ (List.sublist_append_right _ _))
          have R3 := (R2.post po).perm (List.Perm.swap (v, r) (V.ref a, Pw.R.ol xs) L)
          have R4 := R3.changeP (u := .lst us') (r' := .ol ys) rfl (by rw [q3]; exact ⟨a, us', rfl, q1, q2⟩)
          rw [q3] at R4
          exact S1 v H' R4.drop
      · rw [if_neg c] at S1; exact S1.elim
  | [], S1, _, _, _ => exact S1.elim
  | .d _ :: _, S1, _, _, _ => exact S1.elim
  | .kl _ :: _, S1, _, _, _ => exact S1.elim
  | .pl _ :: _, S1, _, _, _ => exact S1.elim
  | .oK _ :: _, S1, _, _, _ => exact S1.elim
  | .oT _ :: _, S1, _, _, _ => exact S1.elim
theorem de_call (F : FnG X.prog X.w X.K X.mg X.base k f fd ps (fspec X.K OC np n mc)) (hr : Room k X.A) (gd : X.A.guards = some []) (hm : X.mg x = some (.ref f)) (hk : PySem.W.keepIn X.K (.ref f) = true) (hb : Binds X.K fd ps [])
    (ha : DA X W OW (e :: es) ma) (hnp : ∀ env rs e', ma env = .ok rs e' → rs.length = np) (hg : Gl X x := by rfl) (hdb : (x == ("__debug__" : Str)) = false := by decide) (he : starEach (e :: es) X.env = (false, eval e X.env) :: starEach es X.env := by rfl) (hpl : (backTo pos (starEach es X.env)).any (·.1) = false := by rfl) :
    DE X W OW (.Call (.Name x p) (e :: es) [] pos) (mCall n mc ma) := pe_le (pe_go F hr gd hg hm hk hb ha hdb he hpl) fun _ _ _ h => call_le h hnp
theorem de_callP (F : FnG X.prog X.w X.K X.mg X.base k f fd ps (fspec X.K OC np n mc)) (hr : Room k X.A) (gd : X.A.guards = some []) (hm : X.mg x = some (.ref f)) (hk : PySem.W.keepIn X.K (.ref f) = true) (hb : Binds X.K fd ps [])
    (ha : DA X W OW (e :: es) ma) (hnp : ∀ env rs e', ma env = .ok rs e' → rs.length = np) (hg : Gl X x := by rfl) (hdb : (x == ("__debug__" : Str)) = false := by decide) (he : starEach (e :: es) X.env = (false, eval e X.env) :: starEach es X.env := by rfl) (hpl : (backTo pos (starEach es X.env)).any (·.1) = false := by rfl) :
    DE X W OW (.Call (.Name x p) (e :: es) [] pos) (mCallP n mc ma) := pe_le (pe_go F hr gd hg hm hk hb ha hdb he hpl) fun _ _ _ h => callP_le h hnp
/-- the length of an argument list -/
def ALen (n : Nat) (ma : MA) : Prop := ∀ env rs e', ma env = .ok rs e' → rs.length = n
theorem alen_nil : ALen 0 mANil := fun env rs e' h => by cases h; rfl
theorem alen_cons {m : ME} (h : ALen n ma) : ALen (n + 1) (mACons m ma) := fun env rs e' q => by
  unfold mACons at q
  cases h1 : m env with
  | st => rw [h1] at q; cases q
  | ex _ _ => rw [h1] at q; cases q
  | ok r e1 =>
    rw [h1] at q
    have q' : ((ma e1).bind fun rs e2 => .ok (r :: rs) e2) = Res.ok rs e' := q
    cases h2 : ma e1 with
    | st => rw [h2] at q'; cases q'
    | ex _ _ => rw [h2] at q'; cases q'
    | ok rs2 e2 =>
      rw [h2] at q'
      cases q'
      rw [List.length_cons, h e1 _ _ h2]
end
end Pw

set_option Elab.async false
set_option linter.all false
set_option maxRecDepth 100000
set_option maxHeartbeats 2000000
/-! Pw: calls by names; the law's own end. -/
namespace Pw
open PySem PySem.Spec PyProof.Rows L2

def pick {α : Type} (perm : List Nat) (l : List α) : List α := perm.filterMap fun i => l[i]?
theorem prd_none {α β : Type} {F : α → β → Prop} : ∀ {l : List α} {m : List β} {i : Nat}, Paired F l m → m[i]? = none → l[i]? = none
  | _, _, _, .nil, _ => by simp
  | _, _, 0, .cons r t, h => by simp at h
  | _, _, i + 1, .cons r t, h => by
    rw [List.getElem?_cons_succ] at h ⊢
    exact prd_none t h
theorem prd_pick {α β : Type} {F : α → β → Prop} {l : List α} {m : List β} (h : Paired F l m) : ∀ perm : List Nat, Paired F (pick perm l) (pick perm m)
  | [] => .nil
  | i :: perm => by
    have ih := prd_pick h perm
    unfold pick at ih ⊢
    rw [List.filterMap_cons, List.filterMap_cons]
    cases e : m[i]? with
    | none =>
      rw [prd_none h e]
      exact ih
    | some y =>
      obtain ⟨x, h1, h2⟩ := prd_get h e
      rw [h1]
      exact .cons h2 ih
theorem vals_pick {vs : List V} {us : List Value} (h : Vals vs us) (perm : List Nat) : Vals (pick perm vs) (pick perm us) := by
  have q : Paired RelV vs us := by
    induction h with
    | nil => exact .nil
    | cons r t ih => exact .cons r ih
  have z := prd_pick q perm
  generalize pick perm vs = a at z
  generalize pick perm us = b at z
  induction z with
  | nil => exact .nil
  | cons r t ih => exact .cons r ih
theorem dk_pick {rs : List R} (h : rs.all isDK = true) (perm : List Nat) : (pick perm rs).all isDK = true := by
  refine List.all_eq_true.mpr fun r m => ?_
  obtain ⟨i, _, e⟩ := List.mem_filterMap.mp m
  exact List.all_eq_true.mp h r (List.mem_of_getElem? e)
abbrev DK (X : Cx) (W : WX) (OW : Nat → Bool) (ks : List Keyword) (m : MA) : Prop := PK X ks (tA (cy X W OW) m)
def mCallK (perm : List Nat) (n : Nat) (mc : MS) (ma : MA) : ME := fun env => (ma env).bind fun rs e1 => if rs.all isDK = true then match fRun mc (env0 n (pick perm rs)) with
  | some (r, _) => .ok r e1
  | none => .st
  else .st
section
variable {X : Cx} {W : WX} {OW OC : Nat → Bool} {k np n : Nat} {f : Addr} {fd : FuncData} {ps ks : List Str} {x : Str} {p pos kpos : Pos} {e : Expr} {m : ME} {ma : MA} {mc : MS} {kws : List Keyword} {nm : Option Str} {perm : List Nat}
theorem dk_nil : DK X W OW [] mANil := ⟨fun pos pins s σ H Q I ⟨H0, P, env, L, Rl, S⟩ => pk_nil.run pos pins s σ H Q I (S [] H rfl Rl)⟩
theorem dk_cons (h : DE X W OW e m) (ha : DK X W OW kws ma) : DK X W OW (⟨nm, e, kpos⟩ :: kws) (mACons m ma) := by
  refine ⟨fun pos pins s σ H Q I ⟨H0, P, env, L, Rl, S⟩ => (pk_cons h ha).run pos pins s σ H Q I ?_⟩
  refine ⟨H0, P, env, L, Rl, (Sat.bind S).mono fun r e1 _ S1 v H1 R1 => ⟨H0, P, e1, (v, r) :: L, R1, ?_⟩⟩
  refine ((Sat.bind S1).wait fun _ _ q => q.drop).mono fun rs e2 _ S2 vs H2 hl R2 => ?_
  refine S2 (v :: vs) H2 (by rw [List.length_cons, List.length_cons, hl]) (R2.perm ?_)
  show (v, r) :: (vs.zip rs ++ L) |>.Perm (vs.zip rs ++ (v, r) :: L)
  exact List.perm_middle.symm
/-- f(a = .., b = ..) -/
theorem de_callK (F : FnG X.prog X.w X.K X.mg X.base k f fd ps (fspec X.K OC np n mc)) (hr : Room k X.A) (gd : X.A.guards = some []) (hm : X.mg x = some (.ref f)) (hk : PySem.W.keepIn X.K (.ref f) = true)
    (hb : ∀ (s : Shared) (ws : List Value), ws.length = ks.length → BindsTo s fd ⟨[], ks.zip ws⟩ (ps.zip (pick perm ws))) (ha : DK X W OW kws ma) (hlen : ∀ env rs e', ma env = .ok rs e' → rs.length = ks.length) (hnp : ∀ rs : List R, rs.length = ks.length → (pick perm rs).length = np) (hg : Gl X x := by rfl)
    (hall : (backToKw pos (keywordEach kws X.env)).all (·.1.isSome) = true := by rfl) (hks : (backToKw pos (keywordEach kws X.env)).filterMap (·.1) = ks := by rfl) (hdb : (x == ("__debug__" : Str)) = false := by decide)
    (hpl : ((backTo pos (starEach [] X.env)).any (·.1) || (backToKw pos (keywordEach kws X.env)).any (·.1.isNone)) = false := by rfl) : DE X W OW (.Call (.Name x p) [] kws pos) (mCallK perm n mc ma) := by
  refine ⟨fun pins s σ H Q I ⟨H0, P, env, L, Rl, S⟩ => wpAny_Call_Name_kw (ld_glob I hg hm ?_ hdb)⟩
  refine PySem.W.callWith_KW0 (h₀ := X.base) I.ok.mod.kin hk hall (thn (ha.run pos pins s σ H (fun vs H1 => fspec X.K OC np n mc (pick perm vs) H1 Q ∧ vs.length = ks.length) I ⟨H0, P, env, L, Rl, (Sat.bind S).mono fun rs e1 em S1 vs H1 hl R1 => ?_⟩) fun ws s2 ⟨zs, H2, I2, rz, q2, q3⟩ => ⟨I2.kIn, ?_⟩) hpl
  · by_cases c : rs.all isDK = true
    · rw [if_pos c] at S1
      cases hf : fRun mc (env0 n (pick perm rs)) with
      | none => simp only [hf] at S1; exact S1.elim
      | some p =>
        obtain ⟨r, e'⟩ := p
        simp only [hf] at S1
        have c2 := dk_pick c perm
        exact ⟨⟨pick perm rs, r, e', hnp rs (hlen _ _ _ em), prd_pick (dk_rrs R1 hl (fun p m => List.mem_append_left _ m) c) perm, argOk_dk c2, hf, fun v H' σ' Rc => S1 v H' (R1.dropZ.post (post_call c2 (fRun_ok hf) Rc))⟩, by rw [hl, hlen _ _ _ em]⟩
    · rw [if_neg c] at S1; exact S1.elim
  · rw [hks]
    exact run_g (us := []) F hr gd (hb s2 ws (by rw [← rz.length]; exact q3)) I2 (vals_pick rz perm) q2
end
section
variable {P : Program} {w : World} {K : PySem.W.Frag} {mg : Str → Option Value} {base : Heap}
theorem fun_bindsK {x qual : Str} {st : Stmt} {f : Addr} {fd : FuncData} {ps ks : List Str} {perm : List Nat} (F : Fun K x qual st f fd)
    (h : ∀ (kV doc pm : Value) (an : Option Addr) (cdv ct : Value) (ws : List Value), ws.length = ks.length → bindArgs (PySem.W.fnOf x qual (defArgs st) (defBody st) (defScope st) .none kV doc pm an cdv ct) ⟨[], ks.zip ws⟩ = pure (ps.zip (pick perm ws))) :
    ∀ (s : Shared) (ws : List Value), ws.length = ks.length → BindsTo s fd ⟨[], ks.zip ws⟩ (ps.zip (pick perm ws)) := by
  obtain ⟨oc, od, kV, doc, pm, an, cdv, ct, osl, rfl, lk, hcd⟩ := F.ex
  exact fun s ws hl => .of_eq (h kV doc pm an cdv ct ws hl)
end
/-! ### the law -/
/-- the script as it stands: a list of ints that is read alone -/
theorem script_rr {K : PySem.W.Frag} {H : Hp} {a : Addr} {ns : List Int} (hO : Only H) (h : SqL K H a (ns.map V.int)) : RR K H (.ref a) (.kl (ns.map PyData.int)) := by
  refine ⟨a, ns.map V.int, rfl, ?_, RDs.of_ints ns⟩
  rcases h with (h | ⟨o, h⟩) | h
  · rcases hO a with z | ⟨o, xs, z⟩ <;> (rw [h] at z; cases z)
  · exact .inl ⟨o, h⟩
  · exact .inr h
theorem law_go {P : Program} {w : World} {K : PySem.W.Frag} {mg mb : Str → Option Value} {k : Nat} {fa a : Addr} {fd : FuncData} {x : Str} {sp : SpG} {s₁ : Shared} {vs : List Value} {ns : List Int}
    (KX : K.In s₁.heap) (hns : s₁.heap.Ns mainGlobals mg) (hb : s₁.heap.Ns builtinsNs mb) (hbb : ∀ x : Str, x ≠ "__name__" → mb x = bootBuiltins x) (hlim : s₁.heap.NoLimit) (hg : s₁.gens = #[])
    (ha : s₁.heap.get? a = some { cls := .type "list", data := .seq vs.toArray }) (hi : IntsAre vs ns) (hl : ns.length ≤ sizeLine) (hr : Room k callerA)
    (F : ∀ base : Heap, K.In base → base.Ns mainGlobals mg → FnG P w K mg base k fa fd [x] sp) (hbind : ∀ (s : Shared) (u : Value), BindsTo s fd ⟨[u], []⟩ [(x, u)])
    (hsp : ∀ H : Hp, Only H → SqL K H a (ns.map V.int) → sp [.ref a] H (fun v _ => v = .bl true)) :
    codeAny (model P w) callerA (.call (.ref fa) ⟨[.ref a], []⟩) (fun r s' => r = .ok (.ret (.bool true)) ∧ OldK s₁.heap s'.heap ∧ s'.os = s₁.os ∧ AllBare s'.gens) s₁ := by
  have rv := vals_ints hi
  have hlv := hi.length
  have main : ∀ H : Hp, Only H → SqL K H a (ns.map V.int) → HOk P w H s₁.heap → (∀ b, H b ≠ none → b = a ∧ K.lookup a = none) →
      codeAny (model P w) callerA (.call (.ref fa) ⟨[.ref a], []⟩) (fun r s' => r = .ok (.ret (.bool true)) ∧ OldK s₁.heap s'.heap ∧ s'.os = s₁.os ∧ AllBare s'.gens) s₁ := by
    intro H hO hS hok only
    have free_dict : ∀ {b : Addr} {o : Obj} {es : Array DictEntry} {ep : Nat}, s₁.heap.get? b = some o → o.data = .dict es ep → H b = none := fun {b o es ep} e d => by
      cases q : H b with
      | none => rfl
      | some u =>
        obtain ⟨z, _⟩ := only b (by rw [q]; simp)
        rw [z, ha] at e; cases e
        exact absurd (show Data.seq vs.toArray _ = Data.dict es ep from d) (by simp)
    have ns_hid : ∀ {b : Addr} {m : Str → Option Value}, s₁.heap.Ns b m → (hidT s₁.heap H).Ns b m := fun {b m} ⟨o, es, ep, e, d, r⟩ => ⟨o, es, ep, hidT_get e (free_dict e d), d, r⟩
    have k_hid : K.In (hidT s₁.heap H) := fun b o e => by
      refine hidT_get (KX b o e) ?_
      cases q : H b with
      | none => rfl
      | some u =>
        obtain ⟨z, z2⟩ := only b (by rw [q]; simp)
        rw [z, z2] at e; cases e
    have md : Mod K mg (hidT s₁.heap H) := ⟨k_hid, ns_hid hns, ⟨mb, ns_hid hb, hbb⟩, let ⟨mc, h1, h2⟩ := hlim; ⟨mc, ns_hid h1, h2⟩⟩
    have e0 : Env0 P w K mg (hidT s₁.heap H) callerA [] s₁ H := ⟨rfl, md, fun b o e => of_hidT e, Nat.le_of_eq (hidT_size _ _), trivial, fun b hb => absurd (show b ∈ ([] : List Addr) from hb) (by simp), hok, .of_eq hg⟩
    refine codeAny_mono ((F _ k_hid (ns_hid hns)).run callerA [] s₁ H ⟨[.ref a], []⟩ [.ref a] [.ref a] _ hr rfl e0 (hbind s₁ (.ref a)) (.cons rfl .nil) (hsp H hO hS)) fun r s2 h2 => ?_
    cases r with
    | error e => exact False.elim h2
    | ok fl =>
      cases fl with
      | ret u =>
        obtain ⟨v, H', os, bare, un, hok', r', q⟩ := h2
        have q' : v = .bl true := q
        rw [q'] at r'
        obtain rfl : u = Value.bool true := r'
        refine ⟨rfl, OldK.of_keep fun b o e => ?_, os, bare⟩
        cases q : H b with
        | none => exact un.keep b o e q (fun z => absurd (show b ∈ ([] : List Addr) from z) (by simp)) (by simp)
        | some u =>
          rcases hO b with z | ⟨ob, xs, z⟩
          · rw [q] at z; cases z
          · obtain ⟨e1, _⟩ := hok b _ z
            obtain ⟨e2, _⟩ := hok' b _ (un.frzs b ob _ z)
            rw [e] at e1; cases e1
            exact e2
      | next => exact False.elim h2
      | brk => exact False.elim h2
      | cont => exact False.elim h2
  cases hk : K.lookup a with
  | some o =>
    have e := KX a o hk
    rw [ha] at e
    cases e
    exact main (fun _ => none) (fun _ => .inl rfl) (.inr ⟨_, vs.toArray, _, hk, rfl, rfl, rfl, by rw [List.size_toArray, hlv]; exact hl, by simpa using rv⟩) (fun b u z => by cases (show (none : Option HO) = some u from z)) fun b z => absurd rfl z
  | none =>
    have at_a : ∀ {b : Addr} {u : HO}, (if b = a then some (HO.frz { cls := .type "list", data := .seq vs.toArray } (.lst (ns.map V.int))) else none) = some u → b = a ∧ u = .frz { cls := .type "list", data := .seq vs.toArray } (.lst (ns.map V.int)) := fun {b u} z => by
      by_cases hb : b = a
      · rw [if_pos hb] at z; cases z; exact ⟨hb, rfl⟩
      · rw [if_neg hb] at z; cases z
    refine main (fun b => if b = a then some (.frz { cls := .type "list", data := .seq vs.toArray } (.lst (ns.map V.int))) else none) (fun b => ?_) (.inl (.inr ⟨{ cls := .type "list", data := .seq vs.toArray }, if_pos rfl⟩)) (fun b u z => ?_) fun b z => ?_
    · by_cases hb : b = a
      · exact .inr ⟨_, _, if_pos hb⟩
      · exact .inl (if_neg hb)
    · obtain ⟨z1, z2⟩ := at_a z
      subst z1 z2
      exact ⟨ha, by rw [List.length_map]; exact hl, vs, _, rv, ha⟩
    · by_cases hb : b = a
      · exact ⟨hb, hk⟩
      · exact absurd (if_neg hb) z
theorem walk_d {l : PySem.W.OpenLaw} {n k nN : Nat} {q : Program} {loose : List Str} {XP : (Str → Option Value) → Heap → Prop} {YP : World → Heap → Prop} {d : DefRec} {K : Params → PySem.W.Frag} {x : Str} {OW : Nat → Bool} {m : MS}
    (hn : l.most = some n) (hn2 : n ≤ sizeLine) (hdf : d.params.defaults = []) (hr : Room k callerA) (hY : ∀ (w : World) (h : Heap), YP w h → (K w.params).In h)
    (F : ∀ (w : World) (mg : Str → Option Value) (fa : Addr) (h : Heap), (K w.params).In h → h.Ns mainGlobals mg → mg d.name = some (.ref fa) →
      ∃ fd : FuncData, (∀ (s : Shared) (u : Value), BindsTo s fd ⟨[u], []⟩ [(x, u)]) ∧ ∀ base : Heap, (K w.params).In base → base.Ns mainGlobals mg → FnG l.prog w (K w.params) mg base k fa fd [x] (fspec (K w.params) OW 1 nN m))
    (hm : ∀ ns : List Int, ns.length ≤ n → (∀ z ∈ ns, Builtin.Int.intBits z ≤ 1048576) → ∃ e', fRun m (env0 nN [.kl (ns.map PyData.int)]) = some (.d (.bool true), e')) :
    PySem.W.WalkO q loose XP YP l.row.toRowW d [] (fun f vs => PySem.call f vs) := by
  refine Att.attach_callB hn hdf fun w s₀ s₁ mg mb fa o pm cd doc a vs ns G Y ho hd hcd hmg hobj hints hlen hbits hg => ?_
  obtain ⟨fd, hb, hF⟩ := F w mg fa _ (hY w _ Y) G.T.g hmg
  obtain ⟨e', hrun⟩ := hm ns hlen hbits
  refine law_go (hY w _ Y) G.T.g G.T.b G.T.builtins G.T.nolimit hg hobj hints (Nat.le_trans hlen hn2) hr hF hb fun H hO hS => ⟨[.kl (ns.map PyData.int)], .d (.bool true), e', rfl, .cons (script_rr hO hS) .nil, rfl, hrun, fun v H' σ' Rc => ?_⟩
  have rv : RD H' v (.bool true) := Rc.pend (v, .d (.bool true)) List.mem_cons_self
  cases rv
  rfl
end Pw

set_option Elab.async false
set_option linter.all false
set_option maxRecDepth 100000
set_option maxHeartbeats 2000000
/-! Pw: how many different ints; texts of any data. -/
namespace Pw
open PySem PySem.Spec PyProof.Rows L2

/-- each once -/
def dd : List Int → List Int
  | [] => []
  | x :: r => if x ∈ r then dd r else x :: dd r
theorem mem_dd {y : Int} : ∀ {l : List Int}, y ∈ dd l ↔ y ∈ l
  | [] => by simp [dd]
  | x :: r => by
    unfold dd
    split
    · rename_i h
      rw [mem_dd (l := r), List.mem_cons]
      constructor
      · exact .inr
      · rintro (e | e)
        · rw [e]; exact h
        · exact e
    · rw [List.mem_cons, List.mem_cons, mem_dd (l := r)]
theorem dd_nodup : ∀ l : List Int, (dd l).Nodup
  | [] => List.nodup_nil
  | x :: r => by
    unfold dd
    split
    · exact dd_nodup r
    · rename_i h
      exact List.nodup_cons.mpr ⟨fun m => h (mem_dd.mp m), dd_nodup r⟩
theorem dd_len {l k : List Int} (nd : k.Nodup) (h : ∀ y, y ∈ k ↔ y ∈ l) : k.length = (dd l).length :=
  ((List.perm_ext_iff_of_nodup nd (dd_nodup l)).mpr fun y => (h y).trans mem_dd.symm).length_eq
theorem dd_self {l : List Int} (nd : l.Nodup) : dd l = l := by
  induction l with
  | nil => rfl
  | cons x r ih =>
    obtain ⟨h1, h2⟩ := List.nodup_cons.mp nd
    unfold dd
    rw [if_neg h1, ih h2]
theorem step_nodup {σ : List Int} {k : Int} (nd : σ.Nodup) : (step_dedup σ k).Nodup := by
  unfold step_dedup
  split
  · exact nd
  · rename_i h
    refine List.nodup_append.mpr ⟨nd, by simp, fun a ha b hb e => h ?_⟩
    rw [List.mem_singleton] at hb
    subst hb
    subst e
    exact List.any_eq_true.mpr ⟨a, ha, by simp⟩
theorem first_nodup (val : Nat → Int) : ∀ i, (firstMet val i).Nodup
  | 0 => List.nodup_nil
  | i + 1 => by rw [firstMet_succ]; exact step_nodup (first_nodup val i)
theorem getD_range : ∀ ns : List Int, (List.range ns.length).map (fun i => ns.getD i 0) = ns := fun ns => by
  refine List.ext_getElem? fun i => ?_
  rw [List.getElem?_map]
  by_cases h : i < ns.length
  · rw [List.getElem?_range h, List.getElem?_eq_getElem h]
    simp [List.getD_eq_getElem?_getD, h]
  · rw [List.getElem?_eq_none (by simpa using h), List.getElem?_eq_none (by simpa using h)] <;> rfl
def lenSet (x : D) : Option R := match x with
  | .list xs => match asInts xs with
    | some ns => if ns.length < 1000 then some (.d (.int ((dd ns).length : Nat))) else none
    | none => none
  | .tuple xs => match asInts xs with
    | some ns => if ns.length < 1000 then some (.d (.int ((dd ns).length : Nat))) else none
    | none => none
  | _ => none
section
variable {X : Cx} {W : WX} {OW : Nat → Bool} {a : Expr} {m : ME} {p p2 q pos : Pos}
theorem pe_lenSet {ta : TE} (hc : X.calm = true) (hg : Gl X "len") (hm : X.mg "len" = none) (hg2 : Gl X "set") (hm2 : X.mg "set" = none) (ha : PE X a ta) (na : starEach [a] X.env = (false, eval a X.env) :: starEach [] X.env) :
    PE X (.Call (.Name "len" p) [.Call (.Name "set" p2) [a] [] q] [] pos) (fun σ H Q => ta σ H fun x H1 => ∃ (l : Addr) (ns : List Int), x = V.ref l ∧ (SqL X.K H1 l (ns.map V.int) ∨ SqT X.K H1 l (ns.map V.int)) ∧ ns.length < 1000 ∧ Q (.int ((dd ns).length : Nat)) H1) := by
  refine ⟨fun pins s σ H Q I h => ?_⟩
  refine Call_ (ld_blt I hg hm PySem.boot_len (PyProof.Rows.callWith_builtin1 (PyProof.Rows.args_cons ?_ rfl) rfl rfl))
  refine Call_ (ld_blt I hg2 hm2 PyProof.Rows.boot_set (PyProof.Rows.callWith_type1 (PyProof.Rows.args_cons (thn (ha.run pins s σ H _ I h) fun v s1 ⟨x, H1, I1, r1, q1⟩ => PyProof.Rows.args_nil ?_) na) na rfl))
  obtain ⟨l, ns, rfl, hq, h1, q1⟩ := q1
  cases r1
  refine (?_ : wpAny (model X.prog X.w) X.A (call (.type "set") [.ref l]) _ X.xe s1)
  rcases hq with hq | hq
  · obtain ⟨its, r, pl, hz⟩ := I1.list hq
    have hl : its.toArray.size = ns.length := by rw [List.size_toArray, ← r.length, List.length_map]
    refine call_set_list (I1.ok.hd hc) pl.isList (ns := ns) (by simpa using r.ints) (by unfold scanBound; omega) fun h' tk hS hk => PyProof.Rows.args_nil ?_
    rw [hl] at hS
    obtain ⟨o, es, ep, t, ho, hex, hd, _, _, _, hf, hn⟩ := hS
    have I2 : Inv X pins σ H1 { s1 with heap := h', toks := tk } := I1.kept fun b o e => hk b o (Heap.lt_size e) e
    have hc2 : (firstMet (fun i => ns.getD i 0) ns.length).length = (dd ns).length := dd_len (first_nodup _ _) fun y => by
      have z := firstMet_any (fun i => ns.getD i 0) ns.length y
      rw [getD_range] at z
      rw [Bool.eq_iff_iff, List.any_eq_true, List.any_eq_true] at z
      constructor
      · intro hy
        obtain ⟨u, hu, e⟩ := z.mp ⟨y, hy, by simp⟩
        rw [← (beq_iff_eq.mp e)]; exact hu
      · intro hy
        obtain ⟨u, hu, e⟩ := z.mpr ⟨y, hy, by simp⟩
        rw [← (beq_iff_eq.mp e)]; exact hu
    have hle := firstMet_length_le (fun i => ns.getD i 0) ns.length
    exact call_len_set ho hex hd hf (by rw [hn]; omega) ⟨.int ((dd ns).length : Nat), H1, I2.tok _, ⟨_, by rw [hn, hc2]⟩, q1⟩
  · obtain ⟨its, r, pt, hz⟩ := I1.tuple hq
    have hi : IntsAre its.toArray.toList ns := by simpa using r.ints
    refine call_set_tupI ns (I1.ok.hd hc) (show s1.heap.IsTuple l its.toArray from pt) hi (by unfold scanBound; omega) fun h' tk c R1 hcn k => PyProof.Rows.args_nil ?_
    obtain ⟨o, es, ep, t, ho, hex, hdt, g, nd, hm3, hb, hf, hn, hr, hl2⟩ := R1
    have I2 : Inv X pins σ H1 { s1 with heap := h', toks := tk } := I1.kept k
    have hc2 : c = (dd ns).length := by
      have z := dd_len (l := ns) nd fun y => by rw [← hm3 y, decide_eq_true_eq]
      rw [List.length_map, Array.length_toList, hn] at z
      exact z
    exact call_len_set ho hex hdt hf (by rw [hn]; omega) ⟨.int ((dd ns).length : Nat), H1, I2.tok _, ⟨_, by rw [hn, hc2]⟩, q1⟩
theorem de_lenSet (hc : X.calm = true) (hm : X.mg "len" = none) (hm2 : X.mg "set" = none) (ha : DE X W OW a m) (hg : Gl X "len" := by rfl) (hg2 : Gl X "set" := by rfl) (na : starEach [a] X.env = (false, eval a X.env) :: starEach [] X.env := by rfl) :
    DE X W OW (.Call (.Name "len" p) [.Call (.Name "set" p2) [a] [] q] [] pos) (m1 true lenSet m) := by
  refine pe_le (pe_lenSet hc hg hm hg2 hm2 ha na) fun σ H Q ⟨H0, P, env, L, Rl, S⟩ => ⟨H0, P, env, L, Rl, (Sat.bind S).mono fun r e1 _ S1 v H1 R1 => ?_⟩
  cases hd : r.dat true e1 with
  | none => simp only [hd] at S1; exact S1.elim
  | some x =>
    simp only [hd] at S1
    have dv := R1.dv List.mem_cons_self hd
    unfold lenSet at S1
    cases x with
    | list xs =>
      simp only at S1
      cases ha : asInts xs with
      | none => simp only [ha] at S1; exact S1.elim
      | some ns =>
        simp only [ha] at S1
        by_cases c : ns.length < 1000
        · rw [if_pos c] at S1
          obtain ⟨l, vs, rfl, sq, rd⟩ := dv.sq
          rw [asInts_map ha] at rd
          rw [rd.ints] at sq
          exact ⟨l, ns, rfl, .inl sq, c, S1 _ _ (R1.drop.post (Post.dat (.int _)))⟩
        · rw [if_neg c] at S1; exact S1.elim
    | tuple xs =>
      simp only at S1
      cases ha : asInts xs with
      | none => simp only [ha] at S1; exact S1.elim
      | some ns =>
        simp only [ha] at S1
        by_cases c : ns.length < 1000
        · rw [if_pos c] at S1
          obtain ⟨l, vs, rfl, sq, rd⟩ := dv
          rw [asInts_map ha] at rd
          rw [rd.ints] at sq
          exact ⟨l, ns, rfl, .inr (.inl (.inl sq)), c, S1 _ _ (R1.drop.post (Post.dat (.int _)))⟩
        · rw [if_neg c] at S1; exact S1.elim
    | _ => exact S1.elim
end
/-! ### repr of any data without dicts -/
def showAll (d : D) : Bool := okD 40 d && d.showable && decide (d.shown.length ≤ 16777216)
def pShow : List D → Option R
  | [d] => if showAll d = true then some (.d (.str d.shown)) else none
  | _ => none
def rShowD (K : PySem.W.Frag) : List V → Hp → VK → Prop := fun xs H Q => ∃ v d, xs = [v] ∧ DV K false H v d ∧ showAll d = true ∧ Q (.str d.shown) H
section
variable {X : Cx}
theorem o_show (hg : X.A.guards = some []) (hu : X.A.units + 64 < cLine) : CallR X (.builtin "repr") (rShowD X.K) := by
  intro pins s σ H xs us Q I r h
  obtain ⟨v, d, rfl, hv, ok, q⟩ := h
  by_cases sq : isSq d = true
  · refine o_repr hg hu pins s σ H [v] us Q I r ⟨v, d, rfl, hv, ?_, q⟩
    unfold showAll at ok
    unfold showOk
    rw [sq, Bool.true_and]
    exact ok
  · unfold showAll at ok
    simp only [Bool.and_eq_true, decide_eq_true_eq] at ok
    obtain ⟨⟨okd, sh⟩, ln⟩ := ok
    obtain ⟨u, rfl, ru⟩ := vals1 r
    cases d with
    | none =>
      cases hv
      cases ru
      simp only [PyData.shown] at q
      exact P.repr_of_none ⟨.str _, H, I.tok _, ⟨_, rfl⟩, q⟩
    | bool b =>
      cases hv
      cases ru
      simp only [PyData.shown] at q
      exact P.repr_of_bool ⟨.str _, H, I.tok _, ⟨_, rfl⟩, q⟩
    | int i =>
      cases hv
      obtain ⟨t, rfl⟩ := ru
      simp only [PyData.shown] at q
      exact P.repr_of_int (by simpa [PyData.showable] using sh) ⟨.str _, H, I.tok _, ⟨_, rfl⟩, q⟩
    | str x =>
      cases hv
      obtain ⟨t, rfl⟩ := ru
      simp only [PyData.shown] at q ln
      exact P.repr_of_str ⟨.str _, H, I.tok _, ⟨_, rfl⟩, q⟩ (by rw [sizeLine_eq]; exact ln)
    | list xs => exact absurd rfl sq
    | tuple xs => exact absurd rfl sq
    | dict kvs => simp [okD] at okd
theorem g_show {K : PySem.W.Frag} : OpN K false (rShowD K) pShow := by
  intro H vs xs res Q h e q
  match xs, e with
  | [d], e =>
    have e' : (if showAll d = true then some (R.d (.str d.shown)) else none) = some res := e
    by_cases c : showAll d = true
    · rw [if_pos c] at e'
      cases e'
      obtain ⟨v, rfl, hv⟩ := h.one
      exact ⟨v, d, rfl, hv, c, q _ _ (Post.dat (.str _))⟩
    · rw [if_neg c] at e'; cases e'
end
end Pw

set_option Elab.async false
set_option linter.all false
set_option maxRecDepth 100000
set_option maxHeartbeats 2000000
/-! Pw: texts of displays; defs that aren't run. -/
namespace Pw
open PySem PySem.Spec PyProof.Rows L2

/-- repr([..]): the items may be looked at where they stand -/
def mShowL (ma : MA) : ME := fun env => (ma env).bind fun rs e => match datL false e rs with
  | some ds => if (showAll (.list ds) && decide (ds.length ≤ 16777216)) = true then .ok (.d (.str (PyData.list ds).shown)) e else .st
  | none => .st
theorem dvs_dp {K : PySem.W.Frag} {H : Hp} {n : Nat} : ∀ {vs : List V} {ds : List D}, DVs K false H vs ds → okDs n ds = true → DpAll K H vs ds
  | _, _, .nil, _ => .nil
  | _, d :: ds, .cons r t, e => by
    have e' : okD n d = true ∧ okDs n ds = true := by simpa [okDs] using e
    exact .cons (r.dp e'.1) (dvs_dp t e'.2)
def rShowP (K : PySem.W.Frag) : List V → Hp → VK → Prop := fun xs H Q => ∃ a ds, xs = [.ref a] ∧ Dp K H (.ref a) (.list ds) ∧ showAll (.list ds) = true ∧ Q (.str (PyData.list ds).shown) H
section
variable {X : Cx} {W : WX} {OW : Nat → Bool} {es : List Expr} {ma : MA} {p pos lp : Pos}
theorem o_showP (hg : X.A.guards = some []) (hu : X.A.units + 64 < cLine) : CallR X (.builtin "repr") (rShowP X.K) := by
  intro pins s σ H xs us Q I r h
  obtain ⟨a, ds, rfl, hv, ok, q⟩ := h
  unfold showAll at ok
  simp only [Bool.and_eq_true, decide_eq_true_eq] at ok
  obtain ⟨⟨okd, sh⟩, ln⟩ := ok
  obtain ⟨u, rfl, ru⟩ := vals1 r
  obtain ⟨as, rd⟩ := Dp.reads I (.list ds) (.ref a) u hv ru
  obtain ⟨lay, dep⟩ := okD_lay 40 _ okd
  cases ru
  exact repr_of_reads' rd sh (PyData.noDict_hsm (PyData.hasDict_of_canLay _ lay)) hg (by omega) (fun _ _ e => e) (fun h' t tk hk => ⟨.str (PyData.list ds).shown, H, I.kept hk, ⟨t, rfl⟩, q⟩) (by rw [sizeLine_eq]; exact ln)
theorem de_showL (gd : X.A.guards = some []) (hu : X.A.units + 64 < cLine) (hm : X.mg "repr" = none) (ha : DA X W OW es ma) (hg : Gl X "repr" := by rfl) : DE X W OW (.Call (.Name "repr" p) [.List es lp] [] pos) (mShowL ma) := by
  refine pe_le (pe_callB (o_showP gd hu) hg hm (by decide +kernel) (pa_cons (pe_lst ha) pa_nil rfl) (by decide) (by decide) rfl rfl) fun σ H Q ⟨H0, P, env, L, Rl, S⟩ => ⟨H0, P, env, L, Rl, (Sat.bind S).mono fun rs e1 _ S1 vs H1 hl R1 => ?_⟩
  cases hd : datL false e1 rs with
  | none => simp only [hd] at S1; exact S1.elim
  | some ds =>
    simp only [hd] at S1
    by_cases c : (showAll (.list ds) && decide (ds.length ≤ 16777216)) = true
    · rw [if_pos c] at S1
      simp only [Bool.and_eq_true, decide_eq_true_eq] at c
      have dv0 := R1.datL hl (fun p m => List.mem_append_left _ m) hd
      have hlen : vs.length = ds.length := prd_len dv0
      refine ⟨by rw [hlen, sizeLine_eq]; exact c.2, fun a na => ?_⟩
      have R2 := R1.grow (same_new (u := .lst vs) na)
      have dv := R2.datL hl (fun p m => List.mem_append_left _ m) hd
      have ok : okDs 39 ds = true := by
        have z := c.1
        unfold showAll at z
        simp only [Bool.and_eq_true] at z
        simpa [okD] using z.1.1
      exact ⟨a, ds, rfl, .lst (.inl (.inl upd_same)) (dvs_dp dv ok), c.1, S1 _ _ (R2.dropZ.post (Post.dat (.str _)))⟩
    · rw [if_neg c] at S1; exact S1.elim
end
/-- a def that isn't run -/
theorem fng_stop {P : Program} {w : World} {K : PySem.W.Frag} {mg : Str → Option Value} {base : Heap} {x qual : Str} {st : Stmt} {f : Addr} {fd : FuncData} {N ps : List Str} {k np n : Nat} {OW : Nat → Bool} (_ : Fun K x qual st f fd) (_ : FnScope N ps (defScope st)) : FnG P w K mg base k f fd ps (fspec K OW np n mStop) :=
  ⟨fun vs H Q ⟨rs, r, e', _, _, _, h, _⟩ => (by cases h), fun A outer s H args us vs Q _ _ _ _ _ ⟨rs, r, e', _, _, _, h, _⟩ => (by cases h)⟩
end Pw

set_option Elab.async false
set_option linter.all false
set_option maxRecDepth 100000
set_option maxHeartbeats 2000000
/-! Pw: three names at once. -/
namespace Pw
open PySem PySem.Spec PyProof.Rows L2

/-- ==, != of texts, of data -/
def pEqT (x y : D) : Option R := match x, y with
  | .str a, .str b => some (bR (decide (a = b)))
  | x, y => pEq x y
def pNeT (x y : D) : Option R := match x, y with
  | .str a, .str b => some (bR (!decide (a = b)))
  | x, y => pNe x y
section
variable {X : Cx} {K : PySem.W.Frag} {kl : Bool}
theorem o_eqT (hu : X.A.units + 64 < cLine) : OpR X (compareOp .Eq) (fun x y H Q => rEq x y H Q ∨ rDat X.K pEq x y H Q) := OpR.or op_eq (o_eq hu)
theorem o_neT (hu : X.A.units + 64 < cLine) : OpR X (compareOp .NotEq) (fun x y H Q => rNe x y H Q ∨ rDat X.K pNe x y H Q) := OpR.or op_ne (o_ne hu)
theorem str_dec (a b : Str) : decide (V.str a = V.str b) = decide (a = b) := by
  rw [Bool.eq_iff_iff]
  simp
theorem g_eqT : Op2 K kl (fun x y H Q => rEq x y H Q ∨ rDat K pEq x y H Q) pEqT := by
  intro H v1 v2 x y res Q h1 h2 e q
  unfold pEqT at e
  split at e
  · cases h1; cases h2; cases e
    exact .inl ⟨rfl, by rw [str_dec]; exact q _ _ (Post.dat (.bl _))⟩
  · exact .inr (g_eq (kl := kl) H v1 v2 _ _ res Q h1 h2 e q)
theorem g_neT : Op2 K kl (fun x y H Q => rNe x y H Q ∨ rDat K pNe x y H Q) pNeT := by
  intro H v1 v2 x y res Q h1 h2 e q
  unfold pNeT at e
  split at e
  · cases h1; cases h2; cases e
    exact .inl ⟨rfl, by rw [str_dec]; exact q _ _ (Post.dat (.bl _))⟩
  · exact .inr (g_ne (kl := kl) H v1 v2 _ _ res Q h1 h2 e q)
end
def mPar3 (i j l : Nat) (bi bj bl : Bool) (ma : MA) : MS := fun env => match ma env with
  | .st => .st
  | .ex x e => .ex x e
  | .ok [r1, r2, r3] e => match qN i bi r1 e with
    | some e1 => match qN j bj r2 e1 with
      | some e2 => if okSt bl r3 = true then stOf (qN l bl r3 e2) else .st
      | none => .st
    | none => .st
  | _ => .st
theorem qN_some {i : Nat} {b : Bool} {r : R} {e e' : En} (h : qN i b r e = some e') : i < e.length ∧ notPl e[i]? = true ∧ okSt b r = true ∧ e' = e.set i (some r) := by
  unfold qN at h
  by_cases c : (decide (i < e.length) && notPl e[i]? && okSt b r) = true
  · rw [if_pos c] at h
    cases h
    simp only [Bool.and_eq_true, decide_eq_true_eq] at c
    exact ⟨c.1.1, c.1.2, c.2, rfl⟩
  · rw [if_neg c] at h; cases h
section
variable {X : Cx} {W : WX} {OW : Nat → Bool} {pos : Pos} {ma : MA}
theorem ds_par3 {i j l : Nat} {x y z : Str} {bi bj bl : Bool} {e1 e2 e3 : Expr} {px py pz pt : Pos} {kt k2 pt2} (hc : X.calm = true) (hN : X.N.Nodup) (hbi : bi = true → OW i = true) (hbj : bj = true → OW j = true) (hbl : bl = true → OW l = true) (ha : DA X W OW [e1, e2, e3] ma) (hij : i ≠ j := by decide) (hil : i ≠ l := by decide) (hjl : j ≠ l := by decide)
    (hi : X.N[i]? = some x := by rfl) (hj : X.N[j]? = some y := by rfl) (hl : X.N[l]? = some z := by rfl) (hx : X.env.scope.names.lookup x = some .local := by rfl) (hy : X.env.scope.names.lookup y = some .local := by rfl) (hz : X.env.scope.names.lookup z = some .local := by rfl)
    (hw : swappedStores [.Tuple [.Name x px, .Name y py, .Name z pz] kt pt] (.Tuple [e1, e2, e3] k2 pt2) X.env = pure (some [x, y, z]) := by rfl)
    (hs : swapsWithSole [.Tuple [.Name x px, .Name y py, .Name z pz] kt pt] (.Tuple [e1, e2, e3] k2 pt2) pos.line X.env = pure false := by rfl) :
    DS X W OW (.Assign [.Tuple [.Name x px, .Name y py, .Name z pz] kt pt] (.Tuple [e1, e2, e3] k2 pt2) pos) (mPar3 i j l bi bj bl ma) := by
  refine ps_le (ps_par3 hc hN hi hj hl hij hil hjl hx hy hz ha hw hs) fun D σ H ⟨H0, P, env, Rl, S⟩ => ⟨H0, P, env, [], Rl, ?_⟩
  unfold mPar3 at S
  cases h1 : ma env with
  | st => rw [h1] at S; exact S
  | ex x e => rw [h1] at S; exact fun c d H' R1 rx => S c d σ H' R1 rx
  | ok rs ea =>
    rw [h1] at S
    intro vs H1 hlen R1
    match rs, S, hlen, R1 with
    | [r1, r2, r3], S, hlen, R1 =>
      match vs, hlen, R1 with
      | [v1, v2, v3], _, R1 =>
        refine ⟨v1, v2, v3, rfl, ?_⟩
        simp only at S
        cases q1 : qN i bi r1 ea with
        | none => simp only [q1] at S; exact S.elim
        | some eb =>
          simp only [q1] at S
          cases q2 : qN j bj r2 eb with
          | none => simp only [q2] at S; exact S.elim
          | some ec =>
            simp only [q2] at S
            by_cases ok3 : okSt bl r3 = true
            · rw [if_pos ok3] at S
              cases q3 : qN l bl r3 ec with
              | none => rw [q3] at S; exact S.elim
              | some ed =>
                rw [q3] at S
                obtain ⟨a1, a2, a3, a4⟩ := qN_some q1
                obtain ⟨b1, b2, b3, b4⟩ := qN_some q2
                obtain ⟨c1, c2, c3, c4⟩ := qN_some q3
                obtain ⟨o1, o2, o3⟩ := okSt_ok a3
                obtain ⟨p1, p2, p3⟩ := okSt_ok b3
                obtain ⟨t1, t2, t3⟩ := okSt_ok c3
                subst a4 b4 c4
                have R2 := R1.store a1 a2 o1 o2 (fun p m w => by
                  have m' : p = (v2, r2) ∨ p = (v3, r3) := by simpa using m
                  rcases m' with m' | m'
                  · rw [m'] at w; exact p1 _ w
                  · rw [m'] at w; exact t1 _ w) fun o => hbi (o3 o)
                have R3 := R2.store b1 b2 p1 p2 (fun p m w => by
                  have m' : p = (v3, r3) := by simpa using m
                  rw [m'] at w; exact t1 _ w) fun o => hbj (p3 o)
                exact S _ _ (R3.store c1 c2 t1 t2 (fun p m => absurd m List.not_mem_nil) fun o => hbl (t3 o))
            · rw [if_neg ok3] at S; exact S.elim
end
end Pw

set_option Elab.async false
set_option linter.all false
set_option maxRecDepth 100000
set_option maxHeartbeats 2000000
/-! Pw: reckoning with programs over slots. -/
namespace Pw
open PySem PySem.Spec PyProof.Rows L2

/-! ### values that are data: a program that gives d and leaves the slots -/
/-- it gives r, the slots stay -/
def Ev (m : ME) (env : En) (r : R) : Prop := m env = .ok r env
def EvT (m : MT) (env : En) (b : Bool) : Prop := m env = .ok b env
def EvA (m : MA) (env : En) (rs : List R) : Prop := m env = .ok rs env
section
variable {env : En} {m ma mb mc : ME} {ta tb : MT} {as : MA} {r r1 r2 : R} {rs : List R} {x y z : D} {xs : List D} {a b : Bool} {kl kl' : Bool}
theorem ev_var {i : Nat} (h : env[i]? = some (some r) := by rfl) (ho : r.own = false := by rfl) : Ev (mVar i) env r := by
  unfold Ev mVar
  rw [h]
  simp only [ho, Bool.false_eq_true, if_false]
theorem ev_own {i : Nat} (h : env[i]? = some (some r) := by rfl) (ho : r.own = true := by rfl) : Ev (mVar i) env (.vr i) := by
  unfold Ev mVar
  rw [h]
  simp only [ho, if_true]
theorem ev_c : Ev (mC x) env (.d x) := rfl
theorem ev_m1 {g : D → Option R} (h : Ev m env r1) (hg : g x = some r) (hd : r1.dat kl env = some x := by rfl) : Ev (m1 kl g m) env r := by
  unfold Ev m1
  rw [show m env = .ok r1 env from h]
  simp only [Res.bind, hd, hg]
theorem ev_m2 {g : D → D → Option R} (h1 : Ev ma env r1) (h2 : Ev mb env r2) (hg : g x y = some r) (d1 : r1.dat kl env = some x := by rfl) (d2 : r2.dat kl env = some y := by rfl) : Ev (m2 kl g ma mb) env r := by
  unfold Ev m2
  rw [show ma env = .ok r1 env from h1]
  simp only [Res.bind]
  rw [show mb env = .ok r2 env from h2]
  simp only [d1, d2, hg]
theorem ea_nil : EvA mANil env [] := rfl
theorem ea_cons (h : Ev m env r) (ha : EvA as env rs) : EvA (mACons m as) env (r :: rs) := by
  unfold EvA mACons
  rw [show m env = .ok r env from h]
  simp only [Res.bind]
  rw [show as env = .ok rs env from ha]
theorem ev_mN {g : List D → Option R} (h : EvA as env rs) (hg : g xs = some r) (hd : datL kl env rs = some xs := by rfl) : Ev (mN kl g as) env r := by
  unfold Ev mN
  rw [show as env = .ok rs env from h]
  simp only [Res.bind, hd, hg]
theorem et_tst (h : Ev m env (.d (.bool a))) : EvT (mTst m) env a := by
  unfold EvT mTst
  rw [show m env = .ok _ env from h] <;> rfl
theorem et_and (h1 : EvT ta env a) (h2 : a = true → EvT tb env b) : EvT (mAndT ta tb) env (a && b) := by
  unfold EvT mAndT
  rw [show ta env = .ok a env from h1]
  cases a with
  | true => simpa [Res.bind, Ev, EvT] using h2 rfl
  | false => simp [Res.bind]
theorem et_or (h1 : EvT ta env a) (h2 : a = false → EvT tb env b) : EvT (mOrT ta tb) env (a || b) := by
  unfold EvT mOrT
  rw [show ta env = .ok a env from h1]
  cases a with
  | false => simpa [Res.bind, Ev, EvT] using h2 rfl
  | true => simp [Res.bind]
theorem et_not (h1 : EvT ta env a) : EvT (mNotT ta) env (!a) := by
  unfold EvT mNotT
  rw [show ta env = .ok a env from h1] <;> rfl
theorem ev_bv (h1 : EvT ta env a) : Ev (mBV ta) env (.d (.bool a)) := by
  unfold Ev mBV
  rw [show ta env = .ok a env from h1] <;> rfl
theorem ev_andB (h1 : EvT ta env a) (h2 : a = true → Ev mb env (.d (.bool b))) : Ev (mAndV ta mb) env (.d (.bool (a && b))) := by
  unfold Ev mAndV
  rw [show ta env = .ok a env from h1]
  cases a with
  | true => simpa [Res.bind, Ev, EvT] using h2 rfl
  | false => simp [Res.bind]
theorem ev_orB (h1 : EvT ta env a) (h2 : a = false → Ev mb env (.d (.bool b))) : Ev (mOrV ta mb) env (.d (.bool (a || b))) := by
  unfold Ev mOrV
  rw [show ta env = .ok a env from h1]
  cases a with
  | false => simpa [Res.bind, Ev, EvT] using h2 rfl
  | true => simp [Res.bind]
theorem ev_if (h1 : EvT ta env a) (h2 : a = true → Ev ma env r) (h3 : a = false → Ev mb env r) : Ev (mIf ta ma mb) env r := by
  unfold Ev mIf
  rw [show ta env = .ok a env from h1]
  cases a with
  | true => simpa [Res.bind, Ev, EvT] using h2 rfl
  | false => simpa [Res.bind, Ev, EvT] using h3 rfl
theorem ev_ch {g g' : D → D → Option R} {r3 : R} {y' : D} (h1 : Ev ma env r1) (h2 : Ev mb env r2) (h3 : a = true → Ev mc env r3) (hg : g x y = some (.d (.bool a))) (hg' : a = true → g' y' z = some (.d (.bool b)))
    (d1 : r1.dat kl env = some x := by rfl) (d2 : r2.dat kl env = some y := by rfl) (d2' : r2.dat kl' env = some y' := by rfl) (d3 : r3.dat kl' env = some z := by rfl) : Ev (mCh g g' kl kl' ma mb mc) env (.d (.bool (a && b))) := by
  unfold Ev mCh
  rw [show ma env = .ok r1 env from h1]
  simp only [Res.bind]
  rw [show mb env = .ok r2 env from h2]
  simp only [d1, d2, hg]
  cases a with
  | false => simp
  | true =>
    simp only [if_true]
    rw [show mc env = .ok r3 env from h3 rfl]
    simp only [d2', d3, hg' rfl, Bool.true_and]
/-- frozen already, or no own thing -/
theorem ev_frz (h : Ev m env (.d x)) : Ev (mFrz m) env (.d x) := by
  unfold Ev mFrz
  rw [show m env = .ok _ env from h] <;> rfl
theorem ev_frzL (h : Ev m env (.ol xs)) : Ev (mFrz m) env (.d (.list xs)) := by
  unfold Ev mFrz
  rw [show m env = .ok _ env from h] <;> rfl
theorem allD_map : ∀ xs : List D, allD (xs.map R.d) = some xs
  | [] => rfl
  | x :: xs => by
    show (allD (xs.map R.d)).map (fun ds => x :: ds) = _
    rw [allD_map xs] <;> rfl
theorem ev_tup (h : EvA as env rs) (hd : allD rs = some xs := by rfl) (hl : xs.length ≤ 16777216 := by simp) : Ev (mTup as) env (.d (.tuple xs)) := by
  unfold Ev mTup
  rw [show as env = .ok rs env from h]
  simp only [Res.bind, hd, if_pos hl]
theorem ev_lst (h : EvA as env rs) (hd : allD rs = some xs := by rfl) (hl : xs.length ≤ 16777216 := by simp) : Ev (mLst as) env (.ol xs) := by
  unfold Ev mLst
  rw [show as env = .ok rs env from h]
  simp only [Res.bind, hd, if_pos hl]
theorem ev_call {n : Nat} {mc : MS} {e' : En} (h : EvA as env rs) (hr : fRun mc (env0 n rs) = some (r, e')) (hd : rs.all isDK = true := by rfl) : Ev (mCall n mc as) env r := by
  unfold Ev mCall
  rw [show as env = .ok rs env from h]
  simp only [Res.bind, hd, if_true, hr]
theorem ev_callK {perm : List Nat} {n : Nat} {mc : MS} {e' : En} (h : EvA as env rs) (hr : fRun mc (env0 n (pick perm rs)) = some (r, e')) (hd : rs.all isDK = true := by rfl) : Ev (mCallK perm n mc as) env r := by
  unfold Ev mCallK
  rw [show as env = .ok rs env from h]
  simp only [Res.bind, hd, if_true, hr]
/-! ### statements -/
theorem run_ret {e' : En} (h : m env = .ok r e') (hr : (match r with | .vr _ => false | .pl _ => false | _ => true) = true := by rfl) : fRun (mRet m) env = some (r, e') := by
  unfold fRun mRet mThen
  rw [h]
  cases r <;> first | rfl | cases hr
theorem ret_ev {e' : En} (h : m env = .ok r e') (hr : (match r with | .vr _ => false | .pl _ => false | _ => true) = true := by rfl) : mRet m env = .rt r e' := by
  unfold mRet mThen
  rw [h]
  cases r <;> first | rfl | cases hr
theorem run_rt {ms : MS} {e' : En} (h : ms env = .rt r e') (hr : okRet r = true := by rfl) : fRun ms env = some (r, e') := by
  unfold fRun
  rw [h]
  simp only [hr, if_true]
theorem run_nx {ms : MS} {e' : En} (h : ms env = .nx e') : fRun ms env = some (.d .none, e') := by
  unfold fRun
  rw [h]
theorem seq_nx {p q : MS} {e' : En} {o : RS} (h : p env = .nx e') (h2 : q e' = o) : mSeq p q env = o := by
  unfold mSeq
  rw [h]
  exact h2
theorem seq_rt {p q : MS} {e' : En} (h : p env = .rt r e') : mSeq p q env = .rt r e' := by
  unfold mSeq
  rw [h]
theorem if_t {p q : MS} {e' : En} {o : RS} (h : ta env = .ok true e') (h2 : p e' = o) : mIfS ta p q env = o := by
  unfold mIfS mThenT
  rw [h]
  simpa using h2
theorem if_f {p q : MS} {e' : En} {o : RS} (h : ta env = .ok false e') (h2 : q e' = o) : mIfS ta p q env = o := by
  unfold mIfS mThenT
  rw [h]
  simpa using h2
theorem set_ev {q : MQ} {e' e2 : En} (h : m env = .ok r e') (hq : q r e' = some e2 := by rfl) : mSet q m env = .nx e2 := by
  unfold mSet mThen
  rw [h]
  show stOf (q r e') = _
  rw [hq] <;> rfl
theorem drp_ev {e' : En} (h : m env = .ok r e') : mDrp m env = .nx e' := by
  unfold mDrp mThen
  rw [h]
/-! ### comparisons of ints, of data -/
end
theorem okD_int (n : Nat) (i : Int) : okD n (.int i) = true := by cases n <;> simp [okD]
theorem okD_bool (n : Nat) (i : Bool) : okD n (.bool i) = true := by cases n <;> simp [okD]
theorem okD_none (n : Nat) : okD n .none = true := by cases n <;> simp [okD]
theorem pLe_int (i j : Int) : pLe (.int i) (.int j) = some (.d (.bool (decide (i ≤ j)))) := by
  unfold pLe pCmp
  rw [okD_int, okD_int]
  have e : (!ltD (.int j) (.int i)) = decide (i ≤ j) := by
    show (!decide (j < i)) = _
    by_cases h : i ≤ j
    · rw [decide_eq_true h, decide_eq_false (by omega)] <;> rfl
    · rw [decide_eq_false h, decide_eq_true (by omega)] <;> rfl
  dsimp only
  rw [e]
  simp [PySem.W.alike, notNone, bR]
theorem pLt_int (i j : Int) : pLt (.int i) (.int j) = some (.d (.bool (decide (i < j)))) := by
  unfold pLt pCmp
  rw [okD_int, okD_int]
  simp [PySem.W.alike, notNone, bR, ltD]
theorem pGt_int (i j : Int) : pGt (.int i) (.int j) = some (.d (.bool (decide (j < i)))) := by
  unfold pGt pCmp
  rw [okD_int, okD_int]
  simp [PySem.W.alike, notNone, bR, ltD]
theorem pGe_int (i j : Int) : pGe (.int i) (.int j) = some (.d (.bool (decide (j ≤ i)))) := by
  unfold pGe pCmp
  rw [okD_int, okD_int]
  have e : (!ltD (.int i) (.int j)) = decide (j ≤ i) := by
    show (!decide (i < j)) = _
    by_cases h : j ≤ i
    · rw [decide_eq_true h, decide_eq_false (by omega)] <;> rfl
    · rw [decide_eq_false h, decide_eq_true (by omega)] <;> rfl
  dsimp only
  rw [e]
  simp [PySem.W.alike, notNone, bR]
theorem pEq_int (i j : Int) : pEq (.int i) (.int j) = some (.d (.bool (decide (i = j)))) := by
  unfold pEq
  rw [okD_int, okD_int]
  simp only [Bool.and_self, if_true, bR, PyData.eqv, Bool.beq_eq_decide_eq]
theorem pNe_int (i j : Int) : pNe (.int i) (.int j) = some (.d (.bool (!decide (i = j)))) := by
  unfold pNe
  rw [okD_int, okD_int]
  simp only [Bool.and_self, if_true, bR, PyData.eqv, Bool.beq_eq_decide_eq]
/-! ### the kinds -/
theorem kit1 : kitB "NoneType" "int" = some false ∧ kitB "bool" "int" = some true ∧ kitB "int" "int" = some true ∧ kitB "str" "int" = some false ∧ kitB "list" "int" = some false ∧ kitB "tuple" "int" = some false := by decide +kernel
theorem kit2 : kitB "NoneType" "bool" = some false ∧ kitB "bool" "bool" = some true ∧ kitB "int" "bool" = some false ∧ kitB "str" "bool" = some false ∧ kitB "list" "bool" = some false ∧ kitB "tuple" "bool" = some false := by decide +kernel
theorem kit3 : kitB "NoneType" "str" = some false ∧ kitB "bool" "str" = some false ∧ kitB "int" "str" = some false ∧ kitB "str" "str" = some true ∧ kitB "list" "str" = some false ∧ kitB "tuple" "str" = some false := by decide +kernel
theorem kit4 : kitB "NoneType" "tuple" = some false ∧ kitB "bool" "tuple" = some false ∧ kitB "int" "tuple" = some false ∧ kitB "str" "tuple" = some false ∧ kitB "list" "tuple" = some false ∧ kitB "tuple" "tuple" = some true := by decide +kernel
theorem kit5 : kitB "NoneType" "list" = some false ∧ kitB "bool" "list" = some false ∧ kitB "int" "list" = some false ∧ kitB "str" "list" = some false ∧ kitB "list" "list" = some true ∧ kitB "tuple" "list" = some false := by decide +kernel
def isBl : D → Bool | .bool _ => true | _ => false
def isIn : D → Bool | .int _ => true | _ => false
def isSt : D → Bool | .str _ => true | _ => false
def isTu : D → Bool | .tuple _ => true | _ => false
def isLi : D → Bool | .list _ => true | _ => false
theorem isi_int {x : D} (h : noDict x = true) : isiD "int" x = some (.d (.bool (isBl x || isIn x))) := by
  obtain ⟨h1, h2, h3, h4, h5, h6⟩ := kit1
  cases x <;> first | (cases h; done) | simp only [isiD, noDict, if_true, tyD, h1, h2, h3, h4, h5, h6, Option.map_some, bR, isBl, isIn, Bool.or_true, Bool.true_or, Bool.or_false]
theorem isi_bool {x : D} (h : noDict x = true) : isiD "bool" x = some (.d (.bool (isBl x))) := by
  obtain ⟨h1, h2, h3, h4, h5, h6⟩ := kit2
  cases x <;> first | (cases h; done) | simp only [isiD, noDict, if_true, tyD, h1, h2, h3, h4, h5, h6, Option.map_some, bR, isBl]
theorem isi_str {x : D} (h : noDict x = true) : isiD "str" x = some (.d (.bool (isSt x))) := by
  obtain ⟨h1, h2, h3, h4, h5, h6⟩ := kit3
  cases x <;> first | (cases h; done) | simp only [isiD, noDict, if_true, tyD, h1, h2, h3, h4, h5, h6, Option.map_some, bR, isSt]
theorem isi_tuple {x : D} (h : noDict x = true) : isiD "tuple" x = some (.d (.bool (isTu x))) := by
  obtain ⟨h1, h2, h3, h4, h5, h6⟩ := kit4
  cases x <;> first | (cases h; done) | simp only [isiD, noDict, if_true, tyD, h1, h2, h3, h4, h5, h6, Option.map_some, bR, isTu]
theorem isi_list {x : D} (h : noDict x = true) : isiD "list" x = some (.d (.bool (isLi x))) := by
  obtain ⟨h1, h2, h3, h4, h5, h6⟩ := kit5
  cases x <;> first | (cases h; done) | simp only [isiD, noDict, if_true, tyD, h1, h2, h3, h4, h5, h6, Option.map_some, bR, isLi]
theorem isi2_lt {x : D} (h : noDict x = true) : isi2D "list" "tuple" x = some (.d (.bool (isLi x || isTu x))) := by
  obtain ⟨h1, h2, h3, h4, h5, h6⟩ := kit5
  obtain ⟨g1, g2, g3, g4, g5, g6⟩ := kit4
  cases x <;> first | (cases h; done) | simp only [isi2D, noDict, if_true, tyD, h1, h2, h3, h4, h5, h6, g1, g2, g3, g4, g5, g6, bR, isLi, isTu, Bool.or_true, Bool.true_or, Bool.or_false]
/-! ### comprehensions, loops -/
section
variable {q : MQ} {tt : MT} {me : ME} {vs : List Nat} {env : En}
/-- each item by itself, the slots as they were -/
theorem lc_map {f : D → Bool} {g : D → D} : ∀ {xs acc : List D}, (∀ x ∈ xs, ∃ e1, q (.d x) env = some e1 ∧ tt e1 = .ok (f x) e1 ∧ (f x = true → me e1 = .ok (.d (g x)) e1) ∧ wipeE e1 vs = env) → acc.length + xs.length ≤ 16777216 →
    lcGo q tt me vs acc xs env = .ok (acc ++ (xs.filter f).map g) env
  | [], acc, _, _ => by simp [lcGo]
  | x :: xs, acc, h, hl => by
    obtain ⟨e1, h1, h2, h3, h4⟩ := h x List.mem_cons_self
    have ht := fun y hy => h y (List.mem_cons_of_mem _ hy)
    simp only [List.length_cons] at hl
    unfold lcGo
    simp only [h1, h2]
    cases hf : f x with
    | false =>
      simp only [h4]
      rw [lc_map ht (by omega), List.filter_cons_of_neg (by rw [hf]; decide)]
    | true =>
      simp only [h3 hf]
      rw [if_pos (by omega), h4, lc_map ht (by simp only [List.length_append, List.length_singleton]; omega), List.filter_cons_of_pos hf]
      simp
/-- by a word on the slots -/
theorem lc_inv {Iv : En → Prop} {Y : D → Prop} : ∀ {xs acc : List D} {env : En}, Iv env → (∀ x ∈ xs, ∀ e, Iv e → ∃ e1 e2 y e3, q (.d x) e = some e1 ∧ tt e1 = .ok true e2 ∧ me e2 = .ok (.d y) e3 ∧ Iv (wipeE e3 vs) ∧ Y y) → acc.length + xs.length ≤ 16777216 →
    ∃ ys e', lcGo q tt me vs acc xs env = .ok (acc ++ ys) e' ∧ Iv e' ∧ ys.length = xs.length ∧ ∀ y ∈ ys, Y y
  | [], acc, env, h0, _, _ => ⟨[], env, by simp [lcGo], h0, rfl, fun y m => nomatch m⟩
  | x :: xs, acc, env, h0, h, hl => by
    obtain ⟨e1, e2, y, e3, h1, h2, h3, h4, h5⟩ := h x List.mem_cons_self env h0
    simp only [List.length_cons] at hl
    obtain ⟨ys, e', g1, g2, g3, g4⟩ := lc_inv (acc := acc ++ [y]) h4 (fun z hz => h z (List.mem_cons_of_mem _ hz)) (by simp only [List.length_append, List.length_singleton]; omega)
    refine ⟨y :: ys, e', ?_, g2, by simp [g3], fun z hz => ?_⟩
    · unfold lcGo
      simp only [h1, h2, h3]
      rw [if_pos (by omega), g1]
      simp
    · rcases List.mem_cons.mp hz with e | e
      · rw [e]; exact h5
      · exact g4 z e
theorem for_inv {Iv : Nat → En → Prop} {b : MS} : ∀ {xs : List D} {env : En} (i : Nat), Iv i env → (∀ j x e, xs[j]? = some x → Iv (i + j) e → ∃ e1, q (.d x) e = some e1 ∧ ∃ e2, b e1 = .nx e2 ∧ Iv (i + j + 1) e2) → ∃ e', forGo q b xs env = .nx e' ∧ Iv (i + xs.length) e'
  | [], env, i, h0, _ => ⟨env, rfl, h0⟩
  | x :: xs, env, i, h0, h => by
    obtain ⟨e1, h1, e2, h2, h3⟩ := h 0 x env rfl h0
    obtain ⟨e', g1, g2⟩ := for_inv (xs := xs) (env := e2) (i + 1) (by simpa using h3) fun j y e hy hi => by
      have z := h (j + 1) y e (by simpa using hy) (by rw [show i + (j + 1) = i + 1 + j by omega]; exact hi)
      rw [show i + (j + 1) + 1 = i + 1 + j + 1 by omega] at z
      exact z
    refine ⟨e', ?_, by rw [List.length_cons, show i + (xs.length + 1) = i + 1 + xs.length by omega]; exact g2⟩
    unfold forGo
    simp only [h1, h2]
    exact g1
end
end Pw

set_option Elab.async false
set_option linter.all false
set_option maxRecDepth 100000
set_option maxHeartbeats 2000000
/-! Pw: more reckoning: sources, comprehensions, places; small data. -/
namespace Pw
open PySem PySem.Spec PyProof.Rows L2
section
variable {env : En} {m ma mb : ME} {as : MA} {r r1 r2 : R} {xs ys : List D} {x y : D} {q : MQ} {tt : MT} {me : ME} {mi : MI} {vs : List Nat} {i j : Int}
theorem es_tup (h : Ev m env (.d (.tuple xs))) : mSq m env = .ok xs env := by
  unfold mSq
  rw [show m env = .ok _ env from h] <;> rfl
theorem es_lst (h : Ev m env (.d (.list xs))) : mSq m env = .ok xs env := by
  unfold mSq
  rw [show m env = .ok _ env from h] <;> rfl
theorem eg_1 (h : Ev m env (.d (.int i))) : mG1 m env = .ok (0, i) env := by
  unfold mG1
  rw [show m env = .ok _ env from h] <;> rfl
theorem eg_2 (h : Ev ma env (.d (.int i))) (h2 : Ev mb env (.d (.int j))) : mG2 ma mb env = .ok (i, j) env := by
  unfold mG2
  rw [show ma env = .ok _ env from h]
  simp only [Res.bind]
  rw [show mb env = .ok _ env from h2] <;> rfl
theorem rgOk_small {a b : Int} (h1 : 0 ≤ a) (h2 : a ≤ 1000000) (h3 : -1000000 ≤ b) (h4 : b ≤ 1000000) : rgOk a b = true := by
  unfold rgOk
  simp only [Bool.and_eq_true, decide_eq_true_eq]
  omega
theorem es_rg {g : MG} (h : g env = .ok (i, j) env) (ok : rgOk i j = true) : mRgI g env = .ok (rgD i j) env := by
  unfold mRgI
  rw [h]
  simp only [Res.bind, ok, if_true]
theorem ev_rgT {g : MG} (h : g env = .ok (i, j) env) (ok : rgOk i j = true) : Ev (mRgT g) env (.d (.tuple (rgD i j))) := by
  unfold Ev mRgT
  rw [h]
  simp only [Res.bind, ok, if_true]
theorem es_enum (h : mSq m env = .ok xs env) : mEnum m env = .ok (numD xs) env := by
  unfold mEnum
  rw [h] <;> rfl
theorem es_zipT (h : Ev ma env (.d (.tuple xs))) (h2 : Ev mb env (.d (.tuple ys))) : mZip ma mb env = .ok (zipD xs ys) env := by
  unfold mZip
  rw [show ma env = .ok _ env from h]
  simp only [Res.bind]
  rw [show mb env = .ok _ env from h2] <;> rfl
theorem ev_lc {f : D → Bool} {g : D → D} (hi : mi env = .ok xs env) (h : ∀ x ∈ xs, ∃ e1, q (.d x) env = some e1 ∧ tt e1 = .ok (f x) e1 ∧ (f x = true → me e1 = .ok (.d (g x)) e1) ∧ wipeE e1 vs = env) (hl : xs.length ≤ 16777216) (hw : wipeE env vs = env := by rfl) :
    Ev (mLc mi q tt me vs) env (.ol ((xs.filter f).map g)) := by
  unfold Ev mLc
  rw [hi]
  simp only [Res.bind, hw]
  rw [lc_map h (by simpa using hl)]
  simp
/-- no test -/
theorem ev_lcA {g : D → D} (hi : mi env = .ok xs env) (h : ∀ x ∈ xs, ∃ e1, q (.d x) env = some e1 ∧ me e1 = .ok (.d (g x)) e1 ∧ wipeE e1 vs = env) (hl : xs.length ≤ 16777216) (hw : wipeE env vs = env := by rfl) :
    Ev (mLc mi q mYes me vs) env (.ol (xs.map g)) := by
  have z := ev_lc (tt := mYes) (f := fun _ => true) (g := g) hi (fun x hx => by
    obtain ⟨e1, h1, h2, h3⟩ := h x hx
    exact ⟨e1, h1, rfl, fun _ => h2, h3⟩) hl hw
  rw [List.filter_eq_self.mpr (fun _ _ => rfl)] at z
  exact z
theorem ev_lcI {Iv : En → Prop} {Y : D → Prop} {env1 : En} (hi : mi env = .ok xs env1) (h0 : Iv (wipeE env1 vs)) (h : ∀ x ∈ xs, ∀ e, Iv e → ∃ e1 e2 y e3, q (.d x) e = some e1 ∧ tt e1 = .ok true e2 ∧ me e2 = .ok (.d y) e3 ∧ Iv (wipeE e3 vs) ∧ Y y) (hl : xs.length ≤ 16777216) :
    ∃ ys e', mLc mi q tt me vs env = .ok (.ol ys) e' ∧ Iv e' ∧ ys.length = xs.length ∧ ∀ y ∈ ys, Y y := by
  obtain ⟨ys, e', h1, h2, h3, h4⟩ := lc_inv (acc := []) h0 h (by simpa using hl)
  refine ⟨ys, e', ?_, h2, h3, h4⟩
  unfold mLc
  rw [hi]
  simp only [Res.bind]
  rw [h1]
  simp
end
theorem pAll_map {α : Type} (f : α → Bool) (l : List α) : pAll [.list (l.map fun x => PyData.bool (f x))] = some (.d (.bool (l.all f))) := by
  show (asBls (l.map fun x => PyData.bool (f x))).map (fun ns => bR (ns.all id)) = _
  have e : (l.map fun x => PyData.bool (f x)) = (l.map f).map PyData.bool := by rw [List.map_map]; rfl
  rw [e, asBls_of]
  simp [bR, List.all_map]
theorem pEqT_int (i j : Int) : pEqT (.int i) (.int j) = some (.d (.bool (decide (i = j)))) := pEq_int i j
theorem pNeT_int (i j : Int) : pNeT (.int i) (.int j) = some (.d (.bool (!decide (i = j)))) := pNe_int i j
theorem pEqT_str (a b : Str) : pEqT (.str a) (.str b) = some (.d (.bool (decide (a = b)))) := rfl
theorem pNeT_str (a b : Str) : pNeT (.str a) (.str b) = some (.d (.bool (!decide (a = b)))) := rfl
theorem pIs_none (x : D) : pIs x .none = some (.d (.bool (isN x))) := rfl
theorem pIsNot_none (x : D) : pIsNot x .none = some (.d (.bool (!isN x))) := rfl
theorem pIx_tup {xs : List D} {k : Nat} {y : D} (h : xs[k]? = some y) : pIx (.tuple xs) (.int (k : Nat)) = some (.d y) := by
  show (atI xs ((k : Nat) : Int)).map R.d = _
  rw [atI_nat h] <;> rfl
theorem pIx_lst {xs : List D} {k : Nat} {y : D} (h : xs[k]? = some y) : pIx (.list xs) (.int (k : Nat)) = some (.d y) := by
  show (atI xs ((k : Nat) : Int)).map R.d = _
  rw [atI_nat h] <;> rfl
theorem pIx_0 {x : D} {xs : List D} : pIx (.tuple (x :: xs)) (.int 0) = some (.d x) := pIx_tup (k := 0) rfl
theorem pIx_1 {w x : D} {xs : List D} : pIx (.tuple (w :: x :: xs)) (.int 1) = some (.d x) := pIx_tup (k := 1) rfl
theorem pIx_2 {u w x : D} {xs : List D} : pIx (.tuple (u :: w :: x :: xs)) (.int 2) = some (.d x) := pIx_tup (k := 2) rfl
theorem pIx_3 {t u w x : D} {xs : List D} : pIx (.tuple (t :: u :: w :: x :: xs)) (.int 3) = some (.d x) := pIx_tup (k := 3) rfl
theorem pLen_tup (xs : List D) : pLen [.tuple xs] = some (.d (.int xs.length)) := rfl
theorem pLen_lst (xs : List D) : pLen [.list xs] = some (.d (.int xs.length)) := rfl
theorem pAdd_int (i j : Int) : pAdd (.int i) (.int j) = some (.d (.int (i + j))) := rfl
theorem pSub_int (i j : Int) : pSub (.int i) (.int j) = some (.d (.int (i - j))) := rfl
theorem pMul_int {i j : Int} (h : small64 i = true ∨ small64 j = true) : pMul (.int i) (.int j) = some (.d (.int (i * j))) := by
  show (if (small64 i || small64 j) = true then some (R.d (.int (i * j))) else none) = _
  rw [if_pos]
  rcases h with h | h <;> simp [h]
theorem pMod_int {i j : Int} (h : 0 < j) : pMod (.int i) (.int j) = some (.d (.int (i % j))) := by
  show (if 0 < j then some (R.d (.int (i % j))) else none) = _
  rw [if_pos h]
theorem pDiv_int {i j : Int} (h : 0 < j) (h2 : j < 1073741824) : pDiv (.int i) (.int j) = some (.d (.int (i / j))) := by
  show (if (decide (0 < j) && decide (j < 1073741824)) = true then some (R.d (.int (i / j))) else none) = _
  rw [if_pos (by simp [h, h2])]
theorem small64_of {i : Int} (h : -18446744073709551616 < i) (h2 : i < 18446744073709551616) : small64 i = true := by
  unfold small64
  simp only [Bool.and_eq_true, decide_eq_true_eq]
  exact ⟨h, h2⟩

/-! ### data within bounds: lengths by the level, ints small, words of few -/
def okW (x : Str) : Bool := decide (x ∈ (["up", "down", "off", "run", "bells", "x"] : List Str))
def bdl : List Nat → D → Bool
  | _, .none => true
  | _, .bool _ => true
  | _, .int i => decide (-1 ≤ i) && decide (i ≤ 99)
  | _, .str x => okW x
  | [], .list _ => false
  | [], .tuple _ => false
  | L :: Ls, .list xs => decide (xs.length ≤ L) && xs.attach.all fun x => bdl Ls x.1
  | L :: Ls, .tuple xs => decide (xs.length ≤ L) && xs.attach.all fun x => bdl Ls x.1
  | _, .dict _ => false
termination_by l _ => l.length
theorem bdl_list {L : Nat} {Ls : List Nat} {xs : List D} : bdl (L :: Ls) (.list xs) = true ↔ xs.length ≤ L ∧ ∀ x ∈ xs, bdl Ls x = true := by
  rw [bdl]
  simp
theorem bdl_tuple {L : Nat} {Ls : List Nat} {xs : List D} : bdl (L :: Ls) (.tuple xs) = true ↔ xs.length ≤ L ∧ ∀ x ∈ xs, bdl Ls x = true := by
  rw [bdl]
  simp
theorem bdl_int {Ls : List Nat} {i : Int} : bdl Ls (.int i) = true ↔ -1 ≤ i ∧ i ≤ 99 := by
  cases Ls <;> (rw [bdl]; simp)
theorem bdl_str {Ls : List Nat} {x : Str} : bdl Ls (.str x) = okW x := by
  cases Ls <;> rw [bdl]
theorem bdl_none {Ls : List Nat} : bdl Ls .none = true := by
  cases Ls <;> rw [bdl]
theorem bdl_bool {Ls : List Nat} {b : Bool} : bdl Ls (.bool b) = true := by
  cases Ls <;> rw [bdl]
theorem bdl_dict {Ls : List Nat} {b : List (D × D)} : bdl Ls (.dict b) = false := by
  cases Ls <;> rw [bdl]
theorem bdl_nolist {xs : List D} : bdl [] (.list xs) = false := by rw [bdl]
theorem bdl_notuple {xs : List D} : bdl [] (.tuple xs) = false := by rw [bdl]
theorem bdl_noDict {Ls : List Nat} {x : D} (h : bdl Ls x = true) : noDict x = true := by
  cases x with
  | dict kvs => rw [bdl_dict] at h; cases h
  | _ => rfl
/-- the weight at most -/
def wl : List Nat → Nat
  | [] => 14
  | L :: Ls => max 14 (L * (wl Ls + 1))
theorem okW_all : ∀ x ∈ (["up", "down", "off", "run", "bells", "x"] : List Str), PyData.strOk x = true ∧ x.cps.size ≤ 14 := by decide +kernel
theorem wl_ge : ∀ Ls : List Nat, 14 ≤ wl Ls
  | [] => Nat.le_refl _
  | L :: Ls => Nat.le_max_left _ _
theorem int_small : ∀ k : Fin 101, (PyData.shown (.int ((k.1 : Int) - 1))).length ≤ 13 := by decide +kernel
theorem int_show {i : Int} (h1 : -1 ≤ i) (h2 : i ≤ 99) : (PyData.shown (.int i)).length ≤ 13 := by
  have z := int_small ⟨(i + 1).toNat, by omega⟩
  have e : (((i + 1).toNat : Nat) : Int) - 1 = i := by omega
  simp only [e] at z
  exact z
theorem log_small {i : Int} (h1 : -1 ≤ i) (h2 : i ≤ 99) : i.natAbs.log2 ≤ 6 := by
  have h : i.natAbs < 2 ^ 7 := by
    have : i.natAbs ≤ 99 := by omega
    omega
  by_cases h0 : i.natAbs = 0
  · rw [h0]; decide
  · have := (Nat.log2_lt h0).mpr h
    omega
theorem wAll {c : Nat} : ∀ {xs : List D}, (∀ x ∈ xs, PyData.weight x ≤ c) → PyData.weightAll xs ≤ xs.length * (c + 1)
  | [], _ => by simp [PyData.weightAll]
  | x :: xs, h => by
    have h1 := h x List.mem_cons_self
    have h2 := wAll (c := c) fun y hy => h y (List.mem_cons_of_mem _ hy)
    simp only [PyData.weightAll, List.length_cons, Nat.add_mul, Nat.one_mul]
    omega
structure Good (n w : Nat) (d : D) : Prop where
  ok : okD n d = true
  sh : d.showable = true
  is : d.intsShort 13 = true
  we : PyData.weight d ≤ w
theorem bdl_good : ∀ (Ls : List Nat) (d : D), bdl Ls d = true → Good Ls.length (wl Ls) d
  | Ls, .none, _ => ⟨okD_none _, by simp [PyData.showable], by simp [PyData.intsShort], by simp [PyData.weight]⟩
  | Ls, .bool b, _ => ⟨okD_bool _ b, by simp [PyData.showable], by simp [PyData.intsShort], by simp [PyData.weight]⟩
  | Ls, .int i, h => by
    obtain ⟨h1, h2⟩ := bdl_int.mp h
    have hl := log_small h1 h2
    refine ⟨okD_int _ i, by simp [PyData.showable]; omega, by simpa [PyData.intsShort] using int_show h1 h2, ?_⟩
    have := wl_ge Ls
    simp only [PyData.weight]
    split <;> omega
  | Ls, .str x, h => by
    rw [bdl_str] at h
    obtain ⟨h1, h2⟩ := okW_all x (by simpa [okW] using h)
    exact ⟨by cases Ls.length <;> simpa [okD] using h1, by simp [PyData.showable], by simp [PyData.intsShort], by
      have := wl_ge Ls
      simp only [PyData.weight]
      omega⟩
  | [], .list xs, h => by rw [bdl_nolist] at h; cases h
  | [], .tuple xs, h => by rw [bdl_notuple] at h; cases h
  | Ls, .dict kvs, h => by rw [bdl_dict] at h; cases h
  | L :: Ls, .list xs, h => by
    obtain ⟨h1, h2⟩ := bdl_list.mp h
    have g := fun x hx => bdl_good Ls x (h2 x hx)
    refine ⟨?_, ?_, ?_, ?_⟩
    · show okD (Ls.length + 1) (.list xs) = true
      simpa [okD] using okDs_all.mpr fun x hx => (g x hx).ok
    · simp only [PyData.showable]
      clear h h1
      induction xs with
      | nil => simp [PyData.showableAll]
      | cons x xs ih => simp [PyData.showableAll, (g x List.mem_cons_self).sh, ih (fun y hy => h2 y (List.mem_cons_of_mem _ hy)) (fun y hy => g y (List.mem_cons_of_mem _ hy))]
    · simp only [PyData.intsShort]
      clear h h1
      induction xs with
      | nil => simp [PyData.intsShortAll]
      | cons x xs ih => simp [PyData.intsShortAll, (g x List.mem_cons_self).is, ih (fun y hy => h2 y (List.mem_cons_of_mem _ hy)) (fun y hy => g y (List.mem_cons_of_mem _ hy))]
    · have z := wAll fun x hx => (g x hx).we
      have z2 := Nat.mul_le_mul_right (wl Ls + 1) h1
      simp only [PyData.weight, wl]
      omega
  | L :: Ls, .tuple xs, h => by
    obtain ⟨h1, h2⟩ := bdl_tuple.mp h
    have g := fun x hx => bdl_good Ls x (h2 x hx)
    refine ⟨?_, ?_, ?_, ?_⟩
    · show okD (Ls.length + 1) (.tuple xs) = true
      simpa [okD] using okDs_all.mpr fun x hx => (g x hx).ok
    · simp only [PyData.showable]
      clear h h1
      induction xs with
      | nil => simp [PyData.showableAll]
      | cons x xs ih => simp [PyData.showableAll, (g x List.mem_cons_self).sh, ih (fun y hy => h2 y (List.mem_cons_of_mem _ hy)) (fun y hy => g y (List.mem_cons_of_mem _ hy))]
    · simp only [PyData.intsShort]
      clear h h1
      induction xs with
      | nil => simp [PyData.intsShortAll]
      | cons x xs ih => simp [PyData.intsShortAll, (g x List.mem_cons_self).is, ih (fun y hy => h2 y (List.mem_cons_of_mem _ hy)) (fun y hy => g y (List.mem_cons_of_mem _ hy))]
    · have z := wAll fun x hx => (g x hx).we
      have z2 := Nat.mul_le_mul_right (wl Ls + 1) h1
      simp only [PyData.weight, wl]
      omega
theorem bdl_show {Ls : List Nat} {d : D} (h : bdl Ls d = true) (hn : Ls.length ≤ 40) (hw : wl Ls ≤ 1048576) : showAll d = true := by
  obtain ⟨h1, h2, h3, h4⟩ := bdl_good Ls d h
  obtain ⟨l1, l2⟩ := okD_lay _ d h1
  have lay : PyData.layable0 d = true := by
    show (PyData.canLay0 d && decide (PyData.depth d ≤ 64) && decide (PyData.weight d ≤ 2 ^ 20)) = true
    simp only [Bool.and_eq_true, decide_eq_true_eq]
    exact ⟨⟨l1, by omega⟩, by omega⟩
  have z := PyProof.Rows.shown_le13 lay h3
  unfold showAll
  simp only [Bool.and_eq_true, decide_eq_true_eq]
  exact ⟨⟨okD_mono hn h1, h2⟩, by omega⟩
theorem bdl_ok {Ls : List Nat} {d : D} (h : bdl Ls d = true) (hn : Ls.length ≤ 40 := by decide) : okD 40 d = true := okD_mono hn (bdl_good Ls d h).ok
end Pw

set_option Elab.async false
set_option linter.all false
set_option maxRecDepth 100000
set_option maxHeartbeats 4000000
namespace Pwk91
open PySem PySem.Spec PyProof.Rows L2 Pw
def topS (i : Nat) : Stmt := PySem.Challenge.pw_pealworks_k91_any_value_as_a_mark.main.body.getD i (.Pass ⟨0, 0, 0, 0⟩)
abbrev s__law_pot : Stmt := topS 36
abbrev nm__law_pot : List Str := ["script", "k", "cell"]
abbrev n__law_pot : Nat := 3
def ow__law_pot : Nat → Bool := fun i => [0].contains i
def m__law_pot : MS := (mSeq (mSet (qN 2 false) (mIf (mTst (m2 true pLt (mVar 1) (mN true pLen (mACons (mVar 0) mANil)))) (mN true pAbs (mACons (m2 true pIx (mVar 0) (mVar 1)) mANil)) (m2 false pAdd (m2 false pMul (mC (.int 751)) (mVar 1)) (mC (.int 1361))))) (mRet (mLst (mACons (mN true pMax2 (mACons (mC (.int 0)) (mACons (m2 true pSub (mVar 2) (m2 true pPow (mC (.int 10)) (mC (.int 18)))) mANil))) (mACons (m2 false pAdd (m2 true pMod (mN true pInt (mACons (m2 false pAdd (m2 false pAdd (m2 false pMul (m2 true pMod (mN true pInt (mACons (mVar 2) mANil)) (mC (.int 2147483549))) (mC (.int 40693))) (m2 false pMul (mC (.int 1871)) (mVar 1))) (mC (.int 1361))) mANil)) (mC (.int 2147483563))) (mC (.int 1))) mANil)))))
abbrev s_is_integer : Stmt := topS 1
abbrev nm_is_integer : List Str := ["value"]
abbrev n_is_integer : Nat := 1
def ow_is_integer : Nat → Bool := fun i => [0].contains i
def m_is_integer : MS := (mRet (mAndV (mTst (m1 false (isiD "int") (mVar 0))) (mBV (mNotT (mTst (m1 false (isiD "bool") (mVar 0)))))))
abbrev s_is_within : Stmt := topS 2
abbrev nm_is_within : List Str := ["value", "least", "most"]
abbrev n_is_within : Nat := 3
def ow_is_within : Nat → Bool := fun i => [0].contains i
def m_is_within : MS := (mRet (mAndV (mTst (mCall n_is_integer m_is_integer (mACons (mVar 0) mANil))) (mCh pLe pLe true true (mVar 1) (mVar 0) (mVar 2))))
abbrev s_is_bells : Stmt := topS 15
abbrev nm_is_bells : List Str := ["value"]
abbrev n_is_bells : Nat := 1
def ow_is_bells : Nat → Bool := fun i => [0].contains i
def m_is_bells : MS := (mRet (mCall n_is_within m_is_within (mACons (mVar 0) (mACons (mC (.int 3)) (mACons (mC (.int 6)) mANil)))))
abbrev s_want_bells : Stmt := topS 17
abbrev nm_want_bells : List Str := ["bells"]
abbrev n_want_bells : Nat := 1
def ow_want_bells : Nat → Bool := fun i => [0].contains i
def m_want_bells : MS := (mIfS (mNotT (mTst (mCall n_is_bells m_is_bells (mACons (mVar 0) mANil)))) mStop mNext)
abbrev s_is_tuple : Stmt := topS 4
abbrev nm_is_tuple : List Str := ["value", "many"]
abbrev n_is_tuple : Nat := 2
def ow_is_tuple : Nat → Bool := fun i => [0].contains i
def m_is_tuple : MS := (mRet (mAndV (mTst (m1 false (isiD "tuple") (mVar 0))) (m2 true pEqT (mN true pLen (mACons (mVar 0) mANil)) (mVar 1))))
abbrev s_are_places : Stmt := topS 26
abbrev nm_are_places : List Str := ["bells", "value", "told", "one"]
abbrev n_are_places : Nat := 4
def ow_are_places : Nat → Bool := fun i => [0, 2].contains i
def m_are_places : MS := (mSeq (mIfS (mOrT (mNotT (mTst (mCall n_is_tuple m_is_tuple (mACons (mVar 1) (mACons (mVar 0) mANil))))) (mNotT (mTst (mN true pAll (mACons (mLc (mSq (mVar 1)) (qN 3 false) mYes (mOrV (mTst (m2 true pIs (mVar 3) (mC .none))) (mCall n_is_within m_is_within (mACons (mVar 3) (mACons (mC (.int 0)) (mACons (m2 true pSub (mVar 0) (mC (.int 1))) mANil))))) [3]) mANil))))) (mRet (mC (.bool false))) mNext) (mSeq (mSet (qN 2 true) (mLc (mSq (mVar 1)) (qN 3 false) (mTst (m2 true pIsNot (mVar 3) (mC .none))) (mVar 3) [3])) (mRet (mAndV (mTst (m2 true pGt (mN true pLen (mACons (mVar 2) mANil)) (mC (.int 0)))) (m2 true pEqT (m1 true lenSet (mVar 2)) (mN true pLen (mACons (mVar 2) mANil)))))))
abbrev s_is_mark_of : Stmt := topS 27
abbrev nm_is_mark_of : List Str := ["bells", "value"]
abbrev n_is_mark_of : Nat := 2
def ow_is_mark_of : Nat → Bool := fun i => [0].contains i
def m_is_mark_of : MS := (mSeq (mIfS (mOrT (mNotT (mTst (m1 false (isiD "tuple") (mVar 1)))) (mOrT (mTst (m2 false pNotIn (mN true pLen (mACons (mVar 1) mANil)) (mTup (mACons (mC (.int 2)) (mACons (mC (.int 4)) mANil))))) (mNotT (mTst (m1 false (isiD "str") (m2 true pIx (mVar 1) (mC (.int 0)))))))) (mRet (mC (.bool false))) mNext) (mSeq (mIfS (mTst (m2 true pEqT (m2 true pIx (mVar 1) (mC (.int 0))) (mC (.str "bells")))) (mRet (mAndV (mTst (m2 true pEqT (mN true pLen (mACons (mVar 1) mANil)) (mC (.int 2)))) (mCall n_are_places m_are_places (mACons (mVar 0) (mACons (m2 true pIx (mVar 1) (mC (.int 1))) mANil))))) mNext) (mSeq (mIfS (mOrT (mTst (m2 true pNeT (m2 true pIx (mVar 1) (mC (.int 0))) (mC (.str "run")))) (mOrT (mTst (m2 true pNeT (mN true pLen (mACons (mVar 1) mANil)) (mC (.int 4)))) (mOrT (mNotT (mTst (m1 false (isiD "str") (m2 true pIx (mVar 1) (mC (.int 1)))))) (mTst (m2 false pNotIn (m2 true pIx (mVar 1) (mC (.int 1))) (mTup (mACons (mC (.str "up")) (mACons (mC (.str "down")) mANil)))))))) (mRet (mC (.bool false))) mNext) (mSeq (mIfS (mNotT (mTst (mCall n_is_within m_is_within (mACons (m2 true pIx (mVar 1) (mC (.int 2))) (mACons (mC (.int 0)) (mACons (m2 true pSub (mVar 0) (mC (.int 2))) mANil)))))) (mRet (mC (.bool false))) mNext) (mRet (mCall n_is_within m_is_within (mACons (m2 true pIx (mVar 1) (mC (.int 3))) (mACons (mC (.int 2)) (mACons (m2 true pSub (mVar 0) (m2 true pIx (mVar 1) (mC (.int 2)))) mANil)))))))))
abbrev s_is_mark : Stmt := topS 32
abbrev nm_is_mark : List Str := ["bells", "value"]
abbrev n_is_mark : Nat := 2
def ow_is_mark : Nat → Bool := fun i => [0].contains i
def m_is_mark : MS := (mSeq (mDrp (mCall n_want_bells m_want_bells (mACons (mVar 0) mANil))) (mRet (mCall n_is_mark_of m_is_mark_of (mACons (mVar 0) (mACons (mVar 1) mANil)))))
abbrev s__law_draw : Stmt := topS 37
abbrev nm__law_draw : List Str := ["pot", "many", "digit"]
abbrev n__law_draw : Nat := 3
def ow__law_draw : Nat → Bool := fun i => [0].contains i
def m__law_draw : MS := (mSeq (mIfS (mTst (m2 true pGt (m2 true pIx (mVar 0) (mC (.int 0))) (mC (.int 0)))) (mSeq (mSet (qTup 2 (qCons (qSub (mVar 0) (mC (.int 0))) (qCons (qN 2 false) qNil))) (mN true pDivmod (mACons (m2 true pIx (mVar 0) (mC (.int 0))) (mACons (mVar 1) mANil)))) (mRet (mVar 2))) mNext) (mSeq (mSet (qSub (mVar 0) (mC (.int 1))) (m2 true pMod (mN true pInt (mACons (m2 false pAdd (m2 false pMul (m2 true pIx (mVar 0) (mC (.int 1))) (mC (.int 39373))) (mC (.int 733))) mANil)) (mC (.int 2147483587)))) (mRet (m2 true pMod (mN true pInt (mACons (m2 true pDiv (m2 true pMod (mN true pInt (mACons (m2 false pMul (m2 true pIx (mVar 0) (mC (.int 1))) (m2 true pIx (mVar 0) (mC (.int 1)))) mANil)) (mC (.int 2147483563))) (mC (.int 29))) mANil)) (mVar 1)))))
abbrev s__law_pick : Stmt := topS 38
abbrev nm__law_pick : List Str := ["pot", "some"]
abbrev n__law_pick : Nat := 2
def ow__law_pick : Nat → Bool := fun i => [0].contains i
def m__law_pick : MS := (mRet (m2 true pIx (mVar 1) (mCallP n__law_draw m__law_draw (mACons (mVar 0) (mACons (mN true pLen (mACons (mVar 1) mANil)) mANil)))))
abbrev s__law_all : Stmt := topS 45
abbrev nm__law_all : List Str := ["bells", "found", "turn", "late", "row", "bell"]
abbrev n__law_all : Nat := 6
def ow__law_all : Nat → Bool := fun i => [0, 1, 3].contains i
def m__law_all : MS := (mSeq (mSet (qN 1 true) (mLst (mACons (mTup mANil) mANil))) (mSeq (mFor (mRgI (mG1 (mVar 0))) (qN 2 false) (mSeq (mSet (qN 3 true) (mLst mANil)) (mSeq (mFor (mSq (mFrz (mVar 1))) (qN 4 false) (mDrp (mMtL gExt (mVar 3) (mACons (mFrz (mLc (mRgI (mG1 (mVar 0))) (qN 5 false) (mTst (m2 false pNotIn (mVar 5) (mVar 4))) (m2 false pAdd (mVar 4) (mTup (mACons (mVar 5) mANil))) [5])) mANil)))) (mSet (qN 1 true) (mFrz (mVar 3)))))) (mRet (mVar 1))))
abbrev s__law_mark : Stmt := topS 47
abbrev nm__law_mark : List Str := ["pot", "bells", "place", "row", "places", "spot", "at", "bell"]
abbrev n__law_mark : Nat := 8
def ow__law_mark : Nat → Bool := fun i => [0].contains i
def m__law_mark : MS := (mSeq (mIfS (mTst (m2 true pEqT (mCallP n__law_draw m__law_draw (mACons (mVar 0) (mACons (mC (.int 3)) mANil))) (mC (.int 0)))) (mSeq (mSet (qN 2 false) (mCallP n__law_draw m__law_draw (mACons (mVar 0) (mACons (m2 true pSub (mVar 1) (mC (.int 1))) mANil)))) (mRet (mTup (mACons (mC (.str "run")) (mACons (mCallP n__law_pick m__law_pick (mACons (mVar 0) (mACons (mFrz (mLst (mACons (mC (.str "up")) (mACons (mC (.str "down")) mANil)))) mANil))) (mACons (mVar 2) (mACons (m2 false pAdd (mC (.int 2)) (mCallP n__law_draw m__law_draw (mACons (mVar 0) (mACons (m2 true pSub (m2 true pSub (mVar 1) (mVar 2)) (mC (.int 1))) mANil)))) mANil))))))) mNext) (mSeq (mSet (qTup 2 (qCons (qN 3 false) (qCons (qN 4 false) qNil))) (mTup (mACons (mCallP n__law_pick m__law_pick (mACons (mVar 0) (mACons (mFrz (mCall n__law_all m__law_all (mACons (mVar 1) mANil))) mANil))) (mACons (mFrz (mLc (mRgI (mG1 (mVar 1))) (qN 2 false) mYes (mCallP n__law_draw m__law_draw (mACons (mVar 0) (mACons (mC (.int 3)) mANil))) [2])) mANil)))) (mSeq (mSet (qN 5 false) (mCallP n__law_draw m__law_draw (mACons (mVar 0) (mACons (mVar 1) mANil)))) (mRet (mTup (mACons (mC (.str "bells")) (mACons (mN true pTup (mACons (mLc (mEnum (mVar 3)) (qTup 2 (qCons (qN 6 false) (qCons (qN 7 false) qNil))) mYes (mIf (mOrT (mTst (m2 true pEqT (m2 true pIx (mVar 4) (mVar 6)) (mC (.int 0)))) (mTst (m2 true pEqT (mVar 6) (mVar 5)))) (mVar 7) (mC .none)) [6, 7]) mANil)) mANil)))))))
abbrev s__law_is_number : Stmt := topS 51
abbrev nm__law_is_number : List Str := ["value", "least", "most"]
abbrev n__law_is_number : Nat := 3
def ow__law_is_number : Nat → Bool := fun i => [0].contains i
def m__law_is_number : MS := (mRet (mAndV (mTst (m1 false (isiD "int") (mVar 0))) (mAndV (mTst (mBV (mNotT (mTst (m1 false (isiD "bool") (mVar 0)))))) (mCh pLe pLe true true (mVar 1) (mVar 0) (mVar 2)))))
abbrev s__law_is_mark : Stmt := topS 52
abbrev nm__law_is_mark : List Str := ["bells", "value", "told", "one"]
abbrev n__law_is_mark : Nat := 4
def ow__law_is_mark : Nat → Bool := fun i => [0, 2].contains i
def m__law_is_mark : MS := (mSeq (mIfS (mOrT (mNotT (mTst (m1 false (isiD "tuple") (mVar 1)))) (mOrT (mTst (m2 true pEqT (mVar 1) (mTup mANil))) (mNotT (mTst (m1 false (isiD "str") (m2 true pIx (mVar 1) (mC (.int 0)))))))) (mRet (mC (.bool false))) mNext) (mSeq (mIfS (mTst (m2 true pEqT (m2 true pIx (mVar 1) (mC (.int 0))) (mC (.str "bells")))) (mSeq (mIfS (mOrT (mTst (m2 true pNeT (mN true pLen (mACons (mVar 1) mANil)) (mC (.int 2)))) (mOrT (mNotT (mTst (m1 false (isiD "tuple") (m2 true pIx (mVar 1) (mC (.int 1)))))) (mTst (m2 true pNeT (mN true pLen (mACons (m2 true pIx (mVar 1) (mC (.int 1))) mANil)) (mVar 0))))) (mRet (mC (.bool false))) mNext) (mSeq (mSet (qN 2 true) (mLc (mSq (m2 true pIx (mVar 1) (mC (.int 1)))) (qN 3 false) (mTst (m2 true pIsNot (mVar 3) (mC .none))) (mVar 3) [3])) (mRet (mAndV (mTst (m2 true pNeT (mVar 2) (mLst mANil))) (mAndV (mTst (mN true pAll (mACons (mLc (mSq (mFrz (mVar 2))) (qN 3 false) mYes (mCall n__law_is_number m__law_is_number (mACons (mVar 3) (mACons (mC (.int 0)) (mACons (m2 true pSub (mVar 0) (mC (.int 1))) mANil)))) [3]) mANil))) (m2 true pEqT (m1 true lenSet (mVar 2)) (mN true pLen (mACons (mVar 2) mANil)))))))) mNext) (mSeq (mIfS (mOrT (mTst (m2 true pNeT (m2 true pIx (mVar 1) (mC (.int 0))) (mC (.str "run")))) (mOrT (mTst (m2 true pNeT (mN true pLen (mACons (mVar 1) mANil)) (mC (.int 4)))) (mOrT (mNotT (mTst (m1 false (isiD "str") (m2 true pIx (mVar 1) (mC (.int 1)))))) (mTst (m2 false pNotIn (m2 true pIx (mVar 1) (mC (.int 1))) (mTup (mACons (mC (.str "up")) (mACons (mC (.str "down")) mANil)))))))) (mRet (mC (.bool false))) mNext) (mRet (mAndV (mTst (mCall n__law_is_number m__law_is_number (mACons (m2 true pIx (mVar 1) (mC (.int 2))) (mACons (mC (.int 0)) (mACons (mVar 0) mANil))))) (mAndV (mTst (mCall n__law_is_number m__law_is_number (mACons (m2 true pIx (mVar 1) (mC (.int 3))) (mACons (mC (.int 2)) (mACons (mVar 0) mANil))))) (m2 true pLe (m2 false pAdd (m2 true pIx (mVar 1) (mC (.int 2))) (m2 true pIx (mVar 1) (mC (.int 3)))) (mVar 0))))))))
abbrev s__law_bent : Stmt := topS 53
abbrev nm__law_bent : List Str := ["pot", "value", "at", "way", "some"]
abbrev n__law_bent : Nat := 5
def ow__law_bent : Nat → Bool := fun i => [0, 4].contains i
def m__law_bent : Nat → MS
  | 0 => mStop
  | n + 1 => (mSeq (mIfS (mAndT (mTst (m1 false (isiD "tuple") (mVar 1))) (mAndT (mTst (m2 true pGt (mN true pLen (mACons (mVar 1) mANil)) (mC (.int 0)))) (mTst (m2 true pGt (mCallP n__law_draw m__law_draw (mACons (mVar 0) (mACons (mC (.int 5)) mANil))) (mC (.int 0)))))) (mSeq (mPar3 2 3 4 false false true (mACons (mCallP n__law_draw m__law_draw (mACons (mVar 0) (mACons (mN true pLen (mACons (mVar 1) mANil)) mANil))) (mACons (mCallP n__law_draw m__law_draw (mACons (mVar 0) (mACons (mC (.int 7)) mANil))) (mACons (mN true pLst (mACons (mVar 1) mANil)) mANil)))) (mSeq (mIfS (mTst (m2 true pEqT (mVar 3) (mC (.int 0)))) (mSet (qN 4 true) (m2 false pAdd (mCut (mVar 4) mNo (mSo (mVar 2))) (mCut (mVar 4) (mSo (m2 false pAdd (mVar 2) (mC (.int 1)))) mNo))) (mIfS (mTst (m2 true pEqT (mVar 3) (mC (.int 1)))) (mSet (qN 4 true) (m2 false pAdd (mVar 4) (mLst (mACons (m2 true pIx (mVar 4) (mVar 2)) mANil)))) (mIfS (mTst (m2 true pEqT (mVar 3) (mC (.int 2)))) (mRet (mVar 4)) (mSet (qSub (mVar 4) (mVar 2)) (mFrz (mCallP n__law_bent (m__law_bent n) (mACons (mVar 0) (mACons (m2 true pIx (mVar 4) (mVar 2)) mANil)))))))) (mRet (mN true pTup (mACons (mVar 4) mANil))))) mNext) (mRet (mCallP n__law_pick m__law_pick (mACons (mVar 0) (mACons (mFrz (mLst (mACons (mC .none) (mACons (mC (.int 0)) (mACons (mC (.int 1)) (mACons (mC (.int 2)) (mACons (mC (.int 3)) (mACons (mC (.int 5)) (mACons (mC (.int 6)) (mACons (m1 true pNeg (mC (.int 1))) (mACons (mC (.bool true)) (mACons (mC (.bool false)) (mACons (mC (.str "up")) (mACons (mC (.str "down")) (mACons (mC (.str "run")) (mACons (mC (.str "bells")) (mACons (mTup mANil) (mACons (mC (.str "x")) mANil)))))))))))))))))) mANil)))))
abbrev s_is_row_of : Stmt := topS 16
abbrev nm_is_row_of : List Str := ["bells", "value", "one"]
abbrev n_is_row_of : Nat := 3
def ow_is_row_of : Nat → Bool := fun i => [0].contains i
def m_is_row_of : MS := (mSeq (mIfS (mOrT (mNotT (mTst (m1 false (isiD "tuple") (mVar 1)))) (mOrT (mTst (m2 true pNeT (mN true pLen (mACons (mVar 1) mANil)) (mVar 0))) (mNotT (mTst (mN true pAll (mACons (mLc (mSq (mVar 1)) (qN 2 false) mYes (mCall n_is_within m_is_within (mACons (mVar 2) (mACons (mC (.int 0)) (mACons (m2 true pSub (mVar 0) (mC (.int 1))) mANil)))) [2]) mANil)))))) (mRet (mC (.bool false))) mNext) (mRet (m2 true pEqT (m1 true lenSet (mVar 1)) (mVar 0))))
abbrev s_want_row : Stmt := topS 18
abbrev nm_want_row : List Str := ["bells", "row"]
abbrev n_want_row : Nat := 2
def ow_want_row : Nat → Bool := fun i => [0].contains i
def m_want_row : MS := (mIfS (mNotT (mTst (mCall n_is_row_of m_is_row_of (mACons (mVar 0) (mACons (mVar 1) mANil))))) mStop mNext)
abbrev s_want_mark : Stmt := topS 28
abbrev nm_want_mark : List Str := ["bells", "mark"]
abbrev n_want_mark : Nat := 2
def ow_want_mark : Nat → Bool := fun i => [0].contains i
def m_want_mark : MS := (mIfS (mNotT (mTst (mCall n_is_mark_of m_is_mark_of (mACons (mVar 0) (mACons (mVar 1) mANil))))) mStop mNext)
abbrev s_does_have : Stmt := topS 30
abbrev nm_does_have : List Str := ["row", "mark", "word", "way", "place", "size", "by", "at", "told", "bell"]
abbrev n_does_have : Nat := 10
def ow_does_have : Nat → Bool := fun i => [0].contains i
def m_does_have : MS := (mSeq (mIfS (mTst (m2 true pEqT (m2 true pIx (mVar 1) (mC (.int 0))) (mC (.str "bells")))) (mRet (mN true pAll (mACons (mLc (mZip (m2 true pIx (mVar 1) (mC (.int 1))) (mVar 0)) (qTup 2 (qCons (qN 8 false) (qCons (qN 9 false) qNil))) mYes (mOrV (mTst (m2 true pIs (mVar 8) (mC .none))) (m2 true pEqT (mVar 8) (mVar 9))) [8, 9]) mANil))) mNext) (mSeq (mSet (qTup 4 (qCons (qN 2 false) (qCons (qN 3 false) (qCons (qN 4 false) (qCons (qN 5 false) qNil))))) (mVar 1)) (mSeq (mSet (qN 6 false) (mIf (mTst (m2 true pEqT (mVar 3) (mC (.str "up")))) (mC (.int 1)) (m1 true pNeg (mC (.int 1))))) (mRet (mN true pAll (mACons (mLc (mRgI (mG2 (mVar 4) (m2 true pSub (m2 false pAdd (mVar 4) (mVar 5)) (mC (.int 1))))) (qN 7 false) mYes (m2 true pEqT (m2 true pIx (mVar 0) (m2 false pAdd (mVar 7) (mC (.int 1)))) (m2 false pAdd (m2 true pIx (mVar 0) (mVar 7)) (mVar 6))) [7]) mANil))))))
abbrev s_has_mark : Stmt := topS 33
abbrev nm_has_mark : List Str := ["bells", "row", "mark"]
abbrev n_has_mark : Nat := 3
def ow_has_mark : Nat → Bool := fun i => [0].contains i
def m_has_mark : MS := (mSeq (mDrp (mCall n_want_bells m_want_bells (mACons (mVar 0) mANil))) (mSeq (mDrp (mCall n_want_row m_want_row (mACons (mVar 0) (mACons (mVar 1) mANil)))) (mSeq (mDrp (mCall n_want_mark m_want_mark (mACons (mVar 0) (mACons (mVar 2) mANil)))) (mRet (mCall n_does_have m_does_have (mACons (mVar 1) (mACons (mVar 2) mANil)))))))
abbrev s_is_list : Stmt := topS 3
abbrev nm_is_list : List Str := ["value"]
abbrev n_is_list : Nat := 1
def ow_is_list : Nat → Bool := fun i => [0].contains i
def m_is_list : MS := (mRet (m1 false (isi2D "list" "tuple") (mVar 0)))
abbrev s_want_marks : Stmt := topS 29
abbrev nm_want_marks : List Str := ["bells", "marks", "one"]
abbrev n_want_marks : Nat := 3
def ow_want_marks : Nat → Bool := fun i => [0].contains i
def m_want_marks : MS := (mIfS (mOrT (mNotT (mTst (mCall n_is_list m_is_list (mACons (mVar 1) mANil)))) (mOrT (mTst (m2 true pGt (mN true pLen (mACons (mVar 1) mANil)) (mC (.int 8)))) (mNotT (mTst (mN true pAll (mACons (mLc (mSq (mVar 1)) (qN 2 false) mYes (mCall n_is_mark_of m_is_mark_of (mACons (mVar 0) (mACons (mVar 2) mANil))) [2]) mANil)))))) mStop mNext)
abbrev s_rounds_of : Stmt := topS 14
abbrev nm_rounds_of : List Str := ["bells"]
abbrev n_rounds_of : Nat := 1
def ow_rounds_of : Nat → Bool := fun i => [0].contains i
def m_rounds_of : MS := (mRet (mRgT (mG1 (mVar 0))))
abbrev s_all_rows : Stmt := topS 31
abbrev nm_all_rows : List Str := ["bells", "found", "turn", "late", "row", "bell"]
abbrev n_all_rows : Nat := 6
def ow_all_rows : Nat → Bool := fun i => [0, 1, 3].contains i
def m_all_rows : MS := (mSeq (mSet (qN 1 true) (mLst (mACons (mTup mANil) mANil))) (mSeq (mFor (mRgI (mG1 (mVar 0))) (qN 2 false) (mSeq (mSet (qN 3 true) (mLst mANil)) (mSeq (mFor (mSq (mFrz (mVar 1))) (qN 4 false) (mDrp (mMtL gExt (mVar 3) (mACons (mFrz (mLc (mSq (mCall n_rounds_of m_rounds_of (mACons (mVar 0) mANil))) (qN 5 false) (mTst (m2 false pNotIn (mVar 5) (mVar 4))) (m2 false pAdd (mVar 4) (mTup (mACons (mVar 5) mANil))) [5])) mANil)))) (mSet (qN 1 true) (mFrz (mVar 3)))))) (mRet (mVar 1))))
abbrev s_rows_with : Stmt := topS 34
abbrev nm_rows_with : List Str := ["bells", "marks", "row", "mark"]
abbrev n_rows_with : Nat := 4
def ow_rows_with : Nat → Bool := fun i => [0].contains i
def m_rows_with : MS := (mSeq (mDrp (mCall n_want_bells m_want_bells (mACons (mVar 0) mANil))) (mSeq (mDrp (mCall n_want_marks m_want_marks (mACons (mVar 0) (mACons (mVar 1) mANil)))) (mRet (mLc (mSq (mFrz (mCall n_all_rows m_all_rows (mACons (mVar 0) mANil)))) (qN 2 false) (mTst (mN true pAll (mACons (mLc (mSq (mVar 1)) (qN 3 false) mYes (mCall n_does_have m_does_have (mACons (mVar 2) (mACons (mVar 3) mANil))) [3]) mANil))) (mVar 2) [2]))))
abbrev s__law_has : Stmt := topS 46
abbrev nm__law_has : List Str := ["row", "mark", "some", "at", "told"]
abbrev n__law_has : Nat := 5
def ow__law_has : Nat → Bool := fun i => [0, 2].contains i
def m__law_has : MS := (mSeq (mIfS (mTst (m2 true pEqT (m2 true pIx (mVar 1) (mC (.int 0))) (mC (.str "bells")))) (mRet (mN true pAll (mACons (mLc (mEnum (m2 true pIx (mVar 1) (mC (.int 1)))) (qTup 2 (qCons (qN 3 false) (qCons (qN 4 false) qNil))) mYes (mOrV (mTst (m2 true pIs (mVar 4) (mC .none))) (m2 true pEqT (m2 true pIx (mVar 0) (mVar 3)) (mVar 4))) [3, 4]) mANil))) mNext) (mSeq (mSet (qN 2 true) (mCut (mVar 0) (mSo (m2 true pIx (mVar 1) (mC (.int 2)))) (mSo (m2 false pAdd (m2 true pIx (mVar 1) (mC (.int 2))) (m2 true pIx (mVar 1) (mC (.int 3))))))) (mRet (m2 true pEqT (mVar 2) (mN true pTup (mACons (mLc (mRgI (mG1 (m2 true pIx (mVar 1) (mC (.int 3))))) (qN 3 false) mYes (mFrz (m2 false pAdd (m2 true pIx (mVar 2) (mC (.int 0))) (mIf (mTst (m2 true pEqT (m2 true pIx (mVar 1) (mC (.int 1))) (mC (.str "up")))) (mVar 3) (m2 true pSub (mC (.int 0)) (mVar 3))))) [3]) mANil))))))
abbrev s__law_marks_right : Stmt := topS 54
abbrev nm__law_marks_right : List Str := ["pot", "bells", "marks", "rows", "row", "mark", "due", "shown", "told", "one"]
abbrev n__law_marks_right : Nat := 10
def ow__law_marks_right : Nat → Bool := fun i => [0, 3, 6, 8].contains i
def m__law_marks_right : MS := (mSeq (mSet (qN 3 true) (mCall n__law_all m__law_all (mACons (mVar 1) mANil))) (mSeq (mPar 6 7 true false (mACons (mLc (mSq (mFrz (mVar 3))) (qN 4 false) (mTst (mN true pAll (mACons (mLc (mSq (mVar 2)) (qN 5 false) mYes (mCall n__law_has m__law_has (mACons (mVar 4) (mACons (mVar 5) mANil))) [5]) mANil))) (mVar 4) [4]) (mACons (mN false pShow (mACons (mVar 2) mANil)) mANil))) (mSeq (mSet (qN 8 true) (mCall n_rows_with m_rows_with (mACons (mVar 1) (mACons (mVar 2) mANil)))) (mSeq (mIfS (mTst (m2 true pNeT (mShowL (mACons (mVar 8) (mACons (mCallK [1, 0] n_rows_with m_rows_with (mACons (mN true pTup (mACons (mVar 2) mANil)) (mACons (mVar 1) mANil))) mANil))) (mShowL (mACons (mVar 6) (mACons (mVar 6) mANil))))) (mRet (mC (.bool false))) mNext) (mSeq (mDrp (mMtL gApp (mVar 8) (mACons (mC .none) mANil))) (mSeq (mSet (qN 4 false) (mCallP n__law_pick m__law_pick (mACons (mVar 0) (mACons (mFrz (mVar 3)) mANil)))) (mSeq (mFor (mSq (mVar 2)) (qN 5 false) (mSeq (mSet (qN 9 false) (mCall n__law_has m__law_has (mACons (mVar 4) (mACons (mVar 5) mANil)))) (mIfS (mTst (m2 true pNeT (mShowL (mACons (mCall n_has_mark m_has_mark (mACons (mVar 1) (mACons (mVar 4) (mACons (mVar 5) mANil)))) (mACons (mCallK [2, 1, 0] n_has_mark m_has_mark (mACons (mVar 5) (mACons (mVar 4) (mACons (mVar 1) mANil)))) mANil))) (mShowL (mACons (mVar 9) (mACons (mVar 9) mANil))))) (mRet (mC (.bool false))) mNext))) (mRet (mAndV (mTst (m2 true pEqT (mN false pShow (mACons (mCall n_rows_with m_rows_with (mACons (mVar 1) (mACons (mVar 2) mANil))) mANil)) (mN false pShow (mACons (mVar 6) mANil)))) (m2 true pEqT (mN false pShow (mACons (mVar 2) mANil)) (mVar 7)))))))))))
abbrev s__law_six_right : Stmt := topS 55
abbrev nm__law_six_right : List Str := ["pot", "size", "many", "place", "one", "row", "told", "runs", "at"]
abbrev n__law_six_right : Nat := 9
def ow__law_six_right : Nat → Bool := fun i => [0, 7].contains i
def m__law_six_right : MS := (mSeq (mSet (qTup 2 (qCons (qN 1 false) (qCons (qN 2 false) qNil))) (mTup (mACons (m2 false pAdd (mC (.int 2)) (mCallP n__law_draw m__law_draw (mACons (mVar 0) (mACons (mC (.int 5)) mANil)))) (mACons (mC (.int 1)) mANil)))) (mSeq (mSet (qN 3 false) (mCallP n__law_draw m__law_draw (mACons (mVar 0) (mACons (m2 true pSub (mC (.int 7)) (mVar 1)) mANil)))) (mSeq (mFor (mRgI (mG1 (m2 true pSub (mC (.int 6)) (mVar 1)))) (qN 4 false) (mSet (qN 2 false) (m2 false pMul (mVar 2) (m2 false pAdd (mVar 4) (mC (.int 1)))))) (mSeq (mSet (qN 5 false) (mN true pTup (mACons (mLc (mRgI (mG1 (mC (.int 6)))) (qN 8 false) mYes (m2 true pSub (mC (.int 5)) (mVar 8)) [8]) mANil))) (mSeq (mSet (qN 6 false) (mTup (mACons (mC (.str "bells")) (mACons (mN true pTup (mACons (mLc (mRgI (mG1 (mC (.int 6)))) (qN 8 false) mYes (mIf (mTst (mCh pLe pLt true true (mVar 3) (mVar 8) (m2 false pAdd (mVar 3) (mVar 1)))) (m2 true pIx (mVar 5) (mVar 8)) (mC .none)) [8]) mANil)) mANil)))) (mSeq (mSet (qN 7 true) (mCall n_rows_with m_rows_with (mACons (mC (.int 6)) (mACons (mFrz (mLst (mACons (mTup (mACons (mC (.str "run")) (mACons (mCallP n__law_pick m__law_pick (mACons (mVar 0) (mACons (mFrz (mLst (mACons (mC (.str "up")) (mACons (mC (.str "down")) mANil)))) mANil))) (mACons (mVar 3) (mACons (mVar 1) mANil))))) mANil))) mANil)))) (mRet (mAndV (mTst (m2 true pEqT (mN true pLen (mACons (mCall n_rows_with m_rows_with (mACons (mC (.int 6)) (mACons (mFrz (mLst (mACons (mVar 6) mANil))) mANil))) mANil)) (mVar 2))) (m2 true pEqT (mN true pLen (mACons (mVar 7) mANil)) (m2 false pMul (mVar 2) (m2 true pSub (mC (.int 7)) (mVar 1))))))))))))
abbrev s__law_right : Stmt := topS 56
abbrev nm__law_right : List Str := ["pot", "bells", "marks", "values", "way", "place", "value", "due", "before", "turn", "one", "size"]
abbrev n__law_right : Nat := 12
def ow__law_right : Nat → Bool := fun i => [0, 2, 3].contains i
def m__law_right : MS := (mSeq (mSet (qN 1 false) (m2 false pAdd (mC (.int 3)) (mCallP n__law_draw m__law_draw (mACons (mVar 0) (mACons (mC (.int 3)) mANil))))) (mSeq (mSet (qN 2 true) (mLc (mRgI (mG1 (mCallP n__law_draw m__law_draw (mACons (mVar 0) (mACons (mC (.int 4)) mANil))))) (qN 9 false) mYes (mCallP n__law_mark m__law_mark (mACons (mVar 0) (mACons (mVar 1) mANil))) [9])) (mSeq (mSet (qN 3 true) (m2 false pAdd (m2 false pAdd (mVar 2) (mLc (mSq (mFrz (mVar 2))) (qN 10 false) mYes (mFrz (mN true pLst (mACons (mVar 10) mANil))) [10])) (mLst (mACons (mC .none) (mACons (mC (.int 0)) (mACons (mC (.str "bells")) (mACons (mTup mANil) (mACons (mTup (mACons (mC (.str "bells")) mANil)) (mACons (mTup (mACons (mC (.str "run")) (mACons (mC (.str "up")) (mACons (mC (.int 0)) mANil)))) (mACons (mTup (mACons (mC (.str "bells")) (mACons (m2 false pMul (mTup (mACons (mC .none) mANil)) (mVar 1)) mANil))) (mACons (mTup (mACons (mC (.str "bells")) (mACons (m2 false pMul (mTup (mACons (mC (.int 0)) mANil)) (mVar 1)) mANil))) (mACons (mTup (mACons (mC (.str "bells")) (mACons (mRgT (mG1 (m2 false pAdd (mVar 1) (mC (.int 1))))) mANil))) mANil)))))))))))) (mSeq (mFor (mSq (mTup (mACons (mC (.str "up")) (mACons (mC (.str "down")) (mACons (mC (.str "off")) mANil))))) (qN 4 false) (mFor (mSq (mTup (mACons (mC (.int 0)) (mACons (m2 true pSub (mVar 1) (mC (.int 2))) (mACons (m2 true pSub (mVar 1) (mC (.int 1))) (mACons (m1 true pNeg (mC (.int 1))) mANil)))))) (qN 5 false) (mDrp (mMtL gExt (mVar 3) (mACons (mFrz (mLc (mSq (mTup (mACons (mC (.int 1)) (mACons (mC (.int 2)) (mACons (mC (.int 3)) (mACons (mVar 1) (mACons (m2 false pAdd (mVar 1) (mC (.int 1))) (mACons (mC (.bool true)) mANil)))))))) (qN 11 false) mYes (mTup (mACons (mC (.str "run")) (mACons (mVar 4) (mACons (mVar 5) (mACons (mVar 11) mANil))))) [11])) mANil))))) (mSeq (mFor (mSq (mFrz (m2 false pAdd (mVar 3) (mLc (mRgI (mG1 (mC (.int 14)))) (qN 9 false) mYes (mFrz (mCallP n__law_bent (m__law_bent 4) (mACons (mVar 0) (mACons (mCallP n__law_mark m__law_mark (mACons (mVar 0) (mACons (mVar 1) mANil))) mANil)))) [9])))) (qN 6 false) (mSeq (mPar 7 8 false false (mACons (mCall n__law_is_mark m__law_is_mark (mACons (mVar 1) (mACons (mVar 6) mANil))) (mACons (mN false pShow (mACons (mVar 6) mANil)) mANil))) (mIfS (mOrT (mTst (m2 true pNeT (mShowL (mACons (mCall n_is_mark m_is_mark (mACons (mVar 1) (mACons (mVar 6) mANil))) (mACons (mCallK [1, 0] n_is_mark m_is_mark (mACons (mVar 6) (mACons (mVar 1) mANil))) mANil))) (mShowL (mACons (mVar 7) (mACons (mVar 7) mANil))))) (mTst (m2 true pNeT (mN false pShow (mACons (mVar 6) mANil)) (mVar 8)))) (mRet (mC (.bool false))) mNext))) (mRet (mAndV (mTst (mCallP n__law_marks_right m__law_marks_right (mACons (mVar 0) (mACons (mVar 1) (mACons (mFrz (mVar 2)) mANil))))) (mOrV (mTst (m2 true pGt (mCallP n__law_draw m__law_draw (mACons (mVar 0) (mACons (mC (.int 4)) mANil))) (mC (.int 0)))) (mCallP n__law_six_right m__law_six_right (mACons (mVar 0) mANil))))))))))
abbrev s_law : Stmt := topS 57
abbrev nm_law : List Str := ["script", "k"]
abbrev n_law : Nat := 2
def ow_law : Nat → Bool := fun i => [0].contains i
def m_law : MS := (mRet (mN true pAll (mACons (mLc (mRgI (mG1 (mN true pMax2 (mACons (mC (.int 1)) (mACons (mN true pMin2 (mACons (mC (.int 2)) (mACons (mN true pLen (mACons (mVar 0) mANil)) mANil))) mANil))))) (qN 1 false) mYes (mCallP n__law_right m__law_right (mACons (mCall n__law_pot m__law_pot (mACons (mVar 0) (mACons (mVar 1) mANil))) mANil)) [1]) mANil)))
end Pwk91

set_option Elab.async false
set_option linter.all false
set_option maxRecDepth 100000
set_option maxHeartbeats 4000000
namespace Pwk91
open PySem PySem.Spec PyProof.Rows L2 Pw
theorem sc__law_pot : FnScope nm__law_pot ["script", "k"] (defScope s__law_pot) := ⟨rfl, rfl, rfl, by decide +kernel, rfl, by decide +kernel, by decide +kernel⟩
theorem sc_is_integer : FnScope nm_is_integer ["value"] (defScope s_is_integer) := ⟨rfl, rfl, rfl, by decide +kernel, rfl, by decide +kernel, by decide +kernel⟩
theorem sc_is_within : FnScope nm_is_within ["value", "least", "most"] (defScope s_is_within) := ⟨rfl, rfl, rfl, by decide +kernel, rfl, by decide +kernel, by decide +kernel⟩
theorem sc_is_bells : FnScope nm_is_bells ["value"] (defScope s_is_bells) := ⟨rfl, rfl, rfl, by decide +kernel, rfl, by decide +kernel, by decide +kernel⟩
theorem sc_want_bells : FnScope nm_want_bells ["bells"] (defScope s_want_bells) := ⟨rfl, rfl, rfl, by decide +kernel, rfl, by decide +kernel, by decide +kernel⟩
theorem sc_is_tuple : FnScope nm_is_tuple ["value", "many"] (defScope s_is_tuple) := ⟨rfl, rfl, rfl, by decide +kernel, rfl, by decide +kernel, by decide +kernel⟩
theorem sc_are_places : FnScope nm_are_places ["bells", "value"] (defScope s_are_places) := ⟨rfl, rfl, rfl, by decide +kernel, rfl, by decide +kernel, by decide +kernel⟩
theorem sc_is_mark_of : FnScope nm_is_mark_of ["bells", "value"] (defScope s_is_mark_of) := ⟨rfl, rfl, rfl, by decide +kernel, rfl, by decide +kernel, by decide +kernel⟩
theorem sc_is_mark : FnScope nm_is_mark ["bells", "value"] (defScope s_is_mark) := ⟨rfl, rfl, rfl, by decide +kernel, rfl, by decide +kernel, by decide +kernel⟩
theorem sc__law_draw : FnScope nm__law_draw ["pot", "many"] (defScope s__law_draw) := ⟨rfl, rfl, rfl, by decide +kernel, rfl, by decide +kernel, by decide +kernel⟩
theorem sc__law_pick : FnScope nm__law_pick ["pot", "some"] (defScope s__law_pick) := ⟨rfl, rfl, rfl, by decide +kernel, rfl, by decide +kernel, by decide +kernel⟩
theorem sc__law_all : FnScope nm__law_all ["bells"] (defScope s__law_all) := ⟨rfl, rfl, rfl, by decide +kernel, rfl, by decide +kernel, by decide +kernel⟩
theorem sc__law_mark : FnScope nm__law_mark ["pot", "bells"] (defScope s__law_mark) := ⟨rfl, rfl, rfl, by decide +kernel, rfl, by decide +kernel, by decide +kernel⟩
theorem sc__law_is_number : FnScope nm__law_is_number ["value", "least", "most"] (defScope s__law_is_number) := ⟨rfl, rfl, rfl, by decide +kernel, rfl, by decide +kernel, by decide +kernel⟩
theorem sc__law_is_mark : FnScope nm__law_is_mark ["bells", "value"] (defScope s__law_is_mark) := ⟨rfl, rfl, rfl, by decide +kernel, rfl, by decide +kernel, by decide +kernel⟩
theorem sc__law_bent : FnScope nm__law_bent ["pot", "value"] (defScope s__law_bent) := ⟨rfl, rfl, rfl, by decide +kernel, rfl, by decide +kernel, by decide +kernel⟩
theorem sc_is_row_of : FnScope nm_is_row_of ["bells", "value"] (defScope s_is_row_of) := ⟨rfl, rfl, rfl, by decide +kernel, rfl, by decide +kernel, by decide +kernel⟩
theorem sc_want_row : FnScope nm_want_row ["bells", "row"] (defScope s_want_row) := ⟨rfl, rfl, rfl, by decide +kernel, rfl, by decide +kernel, by decide +kernel⟩
theorem sc_want_mark : FnScope nm_want_mark ["bells", "mark"] (defScope s_want_mark) := ⟨rfl, rfl, rfl, by decide +kernel, rfl, by decide +kernel, by decide +kernel⟩
theorem sc_does_have : FnScope nm_does_have ["row", "mark"] (defScope s_does_have) := ⟨rfl, rfl, rfl, by decide +kernel, rfl, by decide +kernel, by decide +kernel⟩
theorem sc_has_mark : FnScope nm_has_mark ["bells", "row", "mark"] (defScope s_has_mark) := ⟨rfl, rfl, rfl, by decide +kernel, rfl, by decide +kernel, by decide +kernel⟩
theorem sc_is_list : FnScope nm_is_list ["value"] (defScope s_is_list) := ⟨rfl, rfl, rfl, by decide +kernel, rfl, by decide +kernel, by decide +kernel⟩
theorem sc_want_marks : FnScope nm_want_marks ["bells", "marks"] (defScope s_want_marks) := ⟨rfl, rfl, rfl, by decide +kernel, rfl, by decide +kernel, by decide +kernel⟩
theorem sc_rounds_of : FnScope nm_rounds_of ["bells"] (defScope s_rounds_of) := ⟨rfl, rfl, rfl, by decide +kernel, rfl, by decide +kernel, by decide +kernel⟩
theorem sc_all_rows : FnScope nm_all_rows ["bells"] (defScope s_all_rows) := ⟨rfl, rfl, rfl, by decide +kernel, rfl, by decide +kernel, by decide +kernel⟩
theorem sc_rows_with : FnScope nm_rows_with ["bells", "marks"] (defScope s_rows_with) := ⟨rfl, rfl, rfl, by decide +kernel, rfl, by decide +kernel, by decide +kernel⟩
theorem sc__law_has : FnScope nm__law_has ["row", "mark"] (defScope s__law_has) := ⟨rfl, rfl, rfl, by decide +kernel, rfl, by decide +kernel, by decide +kernel⟩
theorem sc__law_marks_right : FnScope nm__law_marks_right ["pot", "bells", "marks"] (defScope s__law_marks_right) := ⟨rfl, rfl, rfl, by decide +kernel, rfl, by decide +kernel, by decide +kernel⟩
theorem sc__law_six_right : FnScope nm__law_six_right ["pot"] (defScope s__law_six_right) := ⟨rfl, rfl, rfl, by decide +kernel, rfl, by decide +kernel, by decide +kernel⟩
theorem sc__law_right : FnScope nm__law_right ["pot"] (defScope s__law_right) := ⟨rfl, rfl, rfl, by decide +kernel, rfl, by decide +kernel, by decide +kernel⟩
theorem sc_law : FnScope nm_law ["script"] (defScope s_law) := ⟨rfl, rfl, rfl, by decide +kernel, rfl, by decide +kernel, by decide +kernel⟩
/-- what the top has written -/
structure TB (K : PySem.W.Frag) (mg : Str → Option Value) where
  f__law_pot : Addr
  d__law_pot : FuncData
  F__law_pot : Fun K "_law_pot" "_law_pot" s__law_pot f__law_pot d__law_pot
  g__law_pot : mg "_law_pot" = some (.ref f__law_pot)
  b__law_pot : Binds K d__law_pot ["script", "k"] []
  f_is_integer : Addr
  d_is_integer : FuncData
  F_is_integer : Fun K "is_integer" "is_integer" s_is_integer f_is_integer d_is_integer
  g_is_integer : mg "is_integer" = some (.ref f_is_integer)
  b_is_integer : Binds K d_is_integer ["value"] []
  f_is_within : Addr
  d_is_within : FuncData
  F_is_within : Fun K "is_within" "is_within" s_is_within f_is_within d_is_within
  g_is_within : mg "is_within" = some (.ref f_is_within)
  b_is_within : Binds K d_is_within ["value", "least", "most"] []
  f_is_bells : Addr
  d_is_bells : FuncData
  F_is_bells : Fun K "is_bells" "is_bells" s_is_bells f_is_bells d_is_bells
  g_is_bells : mg "is_bells" = some (.ref f_is_bells)
  b_is_bells : Binds K d_is_bells ["value"] []
  f_want_bells : Addr
  d_want_bells : FuncData
  F_want_bells : Fun K "want_bells" "want_bells" s_want_bells f_want_bells d_want_bells
  g_want_bells : mg "want_bells" = some (.ref f_want_bells)
  b_want_bells : Binds K d_want_bells ["bells"] []
  f_is_tuple : Addr
  d_is_tuple : FuncData
  F_is_tuple : Fun K "is_tuple" "is_tuple" s_is_tuple f_is_tuple d_is_tuple
  g_is_tuple : mg "is_tuple" = some (.ref f_is_tuple)
  b_is_tuple : Binds K d_is_tuple ["value", "many"] []
  f_are_places : Addr
  d_are_places : FuncData
  F_are_places : Fun K "are_places" "are_places" s_are_places f_are_places d_are_places
  g_are_places : mg "are_places" = some (.ref f_are_places)
  b_are_places : Binds K d_are_places ["bells", "value"] []
  f_is_mark_of : Addr
  d_is_mark_of : FuncData
  F_is_mark_of : Fun K "is_mark_of" "is_mark_of" s_is_mark_of f_is_mark_of d_is_mark_of
  g_is_mark_of : mg "is_mark_of" = some (.ref f_is_mark_of)
  b_is_mark_of : Binds K d_is_mark_of ["bells", "value"] []
  f_is_mark : Addr
  d_is_mark : FuncData
  F_is_mark : Fun K "is_mark" "is_mark" s_is_mark f_is_mark d_is_mark
  g_is_mark : mg "is_mark" = some (.ref f_is_mark)
  b_is_mark : Binds K d_is_mark ["bells", "value"] []
  k0_is_mark : ∀ (s : Shared) (ws : List Value), ws.length = (["value", "bells"] : List Str).length → BindsTo s d_is_mark ⟨[], (["value", "bells"] : List Str).zip ws⟩ ((["bells", "value"] : List Str).zip (pick [1, 0] ws))
  f__law_draw : Addr
  d__law_draw : FuncData
  F__law_draw : Fun K "_law_draw" "_law_draw" s__law_draw f__law_draw d__law_draw
  g__law_draw : mg "_law_draw" = some (.ref f__law_draw)
  b__law_draw : Binds K d__law_draw ["pot", "many"] []
  f__law_pick : Addr
  d__law_pick : FuncData
  F__law_pick : Fun K "_law_pick" "_law_pick" s__law_pick f__law_pick d__law_pick
  g__law_pick : mg "_law_pick" = some (.ref f__law_pick)
  b__law_pick : Binds K d__law_pick ["pot", "some"] []
  f__law_all : Addr
  d__law_all : FuncData
  F__law_all : Fun K "_law_all" "_law_all" s__law_all f__law_all d__law_all
  g__law_all : mg "_law_all" = some (.ref f__law_all)
  b__law_all : Binds K d__law_all ["bells"] []
  f__law_mark : Addr
  d__law_mark : FuncData
  F__law_mark : Fun K "_law_mark" "_law_mark" s__law_mark f__law_mark d__law_mark
  g__law_mark : mg "_law_mark" = some (.ref f__law_mark)
  b__law_mark : Binds K d__law_mark ["pot", "bells"] []
  f__law_is_number : Addr
  d__law_is_number : FuncData
  F__law_is_number : Fun K "_law_is_number" "_law_is_number" s__law_is_number f__law_is_number d__law_is_number
  g__law_is_number : mg "_law_is_number" = some (.ref f__law_is_number)
  b__law_is_number : Binds K d__law_is_number ["value", "least", "most"] []
  f__law_is_mark : Addr
  d__law_is_mark : FuncData
  F__law_is_mark : Fun K "_law_is_mark" "_law_is_mark" s__law_is_mark f__law_is_mark d__law_is_mark
  g__law_is_mark : mg "_law_is_mark" = some (.ref f__law_is_mark)
  b__law_is_mark : Binds K d__law_is_mark ["bells", "value"] []
  f__law_bent : Addr
  d__law_bent : FuncData
  F__law_bent : Fun K "_law_bent" "_law_bent" s__law_bent f__law_bent d__law_bent
  g__law_bent : mg "_law_bent" = some (.ref f__law_bent)
  b__law_bent : Binds K d__law_bent ["pot", "value"] []
  f_is_row_of : Addr
  d_is_row_of : FuncData
  F_is_row_of : Fun K "is_row_of" "is_row_of" s_is_row_of f_is_row_of d_is_row_of
  g_is_row_of : mg "is_row_of" = some (.ref f_is_row_of)
  b_is_row_of : Binds K d_is_row_of ["bells", "value"] []
  f_want_row : Addr
  d_want_row : FuncData
  F_want_row : Fun K "want_row" "want_row" s_want_row f_want_row d_want_row
  g_want_row : mg "want_row" = some (.ref f_want_row)
  b_want_row : Binds K d_want_row ["bells", "row"] []
  f_want_mark : Addr
  d_want_mark : FuncData
  F_want_mark : Fun K "want_mark" "want_mark" s_want_mark f_want_mark d_want_mark
  g_want_mark : mg "want_mark" = some (.ref f_want_mark)
  b_want_mark : Binds K d_want_mark ["bells", "mark"] []
  f_does_have : Addr
  d_does_have : FuncData
  F_does_have : Fun K "does_have" "does_have" s_does_have f_does_have d_does_have
  g_does_have : mg "does_have" = some (.ref f_does_have)
  b_does_have : Binds K d_does_have ["row", "mark"] []
  f_has_mark : Addr
  d_has_mark : FuncData
  F_has_mark : Fun K "has_mark" "has_mark" s_has_mark f_has_mark d_has_mark
  g_has_mark : mg "has_mark" = some (.ref f_has_mark)
  b_has_mark : Binds K d_has_mark ["bells", "row", "mark"] []
  k0_has_mark : ∀ (s : Shared) (ws : List Value), ws.length = (["mark", "row", "bells"] : List Str).length → BindsTo s d_has_mark ⟨[], (["mark", "row", "bells"] : List Str).zip ws⟩ ((["bells", "row", "mark"] : List Str).zip (pick [2, 1, 0] ws))
  f_is_list : Addr
  d_is_list : FuncData
  F_is_list : Fun K "is_list" "is_list" s_is_list f_is_list d_is_list
  g_is_list : mg "is_list" = some (.ref f_is_list)
  b_is_list : Binds K d_is_list ["value"] []
  f_want_marks : Addr
  d_want_marks : FuncData
  F_want_marks : Fun K "want_marks" "want_marks" s_want_marks f_want_marks d_want_marks
  g_want_marks : mg "want_marks" = some (.ref f_want_marks)
  b_want_marks : Binds K d_want_marks ["bells", "marks"] []
  f_rounds_of : Addr
  d_rounds_of : FuncData
  F_rounds_of : Fun K "rounds_of" "rounds_of" s_rounds_of f_rounds_of d_rounds_of
  g_rounds_of : mg "rounds_of" = some (.ref f_rounds_of)
  b_rounds_of : Binds K d_rounds_of ["bells"] []
  f_all_rows : Addr
  d_all_rows : FuncData
  F_all_rows : Fun K "all_rows" "all_rows" s_all_rows f_all_rows d_all_rows
  g_all_rows : mg "all_rows" = some (.ref f_all_rows)
  b_all_rows : Binds K d_all_rows ["bells"] []
  f_rows_with : Addr
  d_rows_with : FuncData
  F_rows_with : Fun K "rows_with" "rows_with" s_rows_with f_rows_with d_rows_with
  g_rows_with : mg "rows_with" = some (.ref f_rows_with)
  b_rows_with : Binds K d_rows_with ["bells", "marks"] []
  k0_rows_with : ∀ (s : Shared) (ws : List Value), ws.length = (["marks", "bells"] : List Str).length → BindsTo s d_rows_with ⟨[], (["marks", "bells"] : List Str).zip ws⟩ ((["bells", "marks"] : List Str).zip (pick [1, 0] ws))
  f__law_has : Addr
  d__law_has : FuncData
  F__law_has : Fun K "_law_has" "_law_has" s__law_has f__law_has d__law_has
  g__law_has : mg "_law_has" = some (.ref f__law_has)
  b__law_has : Binds K d__law_has ["row", "mark"] []
  f__law_marks_right : Addr
  d__law_marks_right : FuncData
  F__law_marks_right : Fun K "_law_marks_right" "_law_marks_right" s__law_marks_right f__law_marks_right d__law_marks_right
  g__law_marks_right : mg "_law_marks_right" = some (.ref f__law_marks_right)
  b__law_marks_right : Binds K d__law_marks_right ["pot", "bells", "marks"] []
  f__law_six_right : Addr
  d__law_six_right : FuncData
  F__law_six_right : Fun K "_law_six_right" "_law_six_right" s__law_six_right f__law_six_right d__law_six_right
  g__law_six_right : mg "_law_six_right" = some (.ref f__law_six_right)
  b__law_six_right : Binds K d__law_six_right ["pot"] []
  f__law_right : Addr
  d__law_right : FuncData
  F__law_right : Fun K "_law_right" "_law_right" s__law_right f__law_right d__law_right
  g__law_right : mg "_law_right" = some (.ref f__law_right)
  b__law_right : Binds K d__law_right ["pot"] []
  f_law : Addr
  d_law : FuncData
  F_law : Fun K "law" "law" s_law f_law d_law
  g_law : mg "law" = some (.ref f_law)
  b_law : Binds K d_law ["script"] []
  n_abs : mg "abs" = none
  n_all : mg "all" = none
  n_bool : mg "bool" = none
  n_divmod : mg "divmod" = none
  n_enumerate : mg "enumerate" = none
  n_int : mg "int" = none
  n_isinstance : mg "isinstance" = none
  n_len : mg "len" = none
  n_list : mg "list" = none
  n_max : mg "max" = none
  n_min : mg "min" = none
  n_range : mg "range" = none
  n_repr : mg "repr" = none
  n_set : mg "set" = none
  n_str : mg "str" = none
  n_tuple : mg "tuple" = none
  n_zip : mg "zip" = none
  t_BELLS : Tok
  c_BELLS : mg "BELLS" = some (.str "bells" t_BELLS)
  t_DOWN : Tok
  c_DOWN : mg "DOWN" = some (.str "down" t_DOWN)
  t_LEAST_BELLS : Tok
  c_LEAST_BELLS : mg "LEAST_BELLS" = some (.int 3 t_LEAST_BELLS)
  t_LEAST_RUN : Tok
  c_LEAST_RUN : mg "LEAST_RUN" = some (.int 2 t_LEAST_RUN)
  t_MOST_BELLS : Tok
  c_MOST_BELLS : mg "MOST_BELLS" = some (.int 6 t_MOST_BELLS)
  t_MOST_MARKS : Tok
  c_MOST_MARKS : mg "MOST_MARKS" = some (.int 8 t_MOST_MARKS)
  t_RUN : Tok
  c_RUN : mg "RUN" = some (.str "run" t_RUN)
  t_UP : Tok
  c_UP : mg "UP" = some (.str "up" t_UP)
end Pwk91

set_option Elab.async false
set_option linter.all false
set_option maxRecDepth 100000
set_option maxHeartbeats 4000000
namespace Pwk91
open PySem PySem.Spec PyProof.Rows L2 Pw
section
variable {P : Program} {w : World} {K : PySem.W.Frag} {mg : Str → Option Value} {base : Heap}
theorem ok__law_pot (T : TB K mg) : FnG P w K mg base 1 T.f__law_pot T.d__law_pot ["script", "k"] (fspec K ow__law_pot 2 n__law_pot m__law_pot) := fng_d T.F__law_pot sc__law_pot rfl rfl fun cdv A outer s H hr gd => by
  unfold m__law_pot
  exact (dss_cons (ds_set (de_ifx (dt_cmpR (o_lt hr.units) g_cmp (de_var 1) (de_callB o_len g_len T.n_len (da_cons (de_var 0) da_nil)) (nomark _)) (de_callB call_abs g_abs T.n_abs (da_cons (de_ixR (o_ix (hu_of hr)) g_ix (de_var 0) (de_var 1) (fun _ _ => rfl)) da_nil)) (de_op2 o_add g_add (de_op2 o_mul g_mul de_int (de_var 1)) de_int)) (dq_name (j := 2) (b := false) sc__law_pot.nd (by decide))) (dss_one (ds_ret (de_lst (da_cons (de_callB (call_max2 rfl) g_max2 T.n_max (da_cons de_int (da_cons (de_op2 op_sub g_sub (de_var 2) (de_op2 op_pow g_pow de_int de_int)) da_nil))) (da_cons (de_op2 o_add g_add (de_op2 op_mod g_mod (de_callT call_int1 g_int T.n_int (da_cons (de_op2 o_add g_add (de_op2 o_add g_add (de_op2 o_mul g_mul (de_op2 op_mod g_mod (de_callT call_int1 g_int T.n_int (da_cons (de_var 2) da_nil)) de_int) de_int) (de_op2 o_mul g_mul de_int (de_var 1))) de_int) da_nil)) de_int) de_int) da_nil))))))
end
end Pwk91

set_option Elab.async false
set_option linter.all false
set_option maxRecDepth 100000
set_option maxHeartbeats 4000000
namespace Pwk91
open PySem PySem.Spec PyProof.Rows L2 Pw
section
variable {P : Program} {w : World} {K : PySem.W.Frag} {mg : Str → Option Value} {base : Heap}
theorem ok_is_integer (T : TB K mg) : FnG P w K mg base 1 T.f_is_integer T.d_is_integer ["value"] (fspec K ow_is_integer 1 n_is_integer m_is_integer) := fng_d T.F_is_integer sc_is_integer rfl rfl fun cdv A outer s H hr gd => by
  unfold m_is_integer
  exact (dss_one (ds_ret (de_and (de_isi (T := "int") T.n_isinstance (de_var 0) T.n_int) (de_one (de_not (de_isi (T := "bool") T.n_isinstance (de_var 0) T.n_bool))))))
end
end Pwk91

set_option Elab.async false
set_option linter.all false
set_option maxRecDepth 100000
set_option maxHeartbeats 4000000
namespace Pwk91
open PySem PySem.Spec PyProof.Rows L2 Pw
section
variable {P : Program} {w : World} {K : PySem.W.Frag} {mg : Str → Option Value} {base : Heap}
theorem ok_is_within (T : TB K mg) : FnG P w K mg base 2 T.f_is_within T.d_is_within ["value", "least", "most"] (fspec K ow_is_within 3 n_is_within m_is_within) := fng_d T.F_is_within sc_is_within rfl rfl fun cdv A outer s H hr gd => by
  unfold m_is_within
  exact (dss_one (ds_ret (de_and (de_call ((ok_is_integer T).mono (by decide)) hr gd T.g_is_integer T.F_is_integer.kp T.b_is_integer (da_cons (de_var 0) da_nil) (alen_cons alen_nil)) (de_one (de_chain (o_le hr.units) g_cmp (o_le hr.units) g_cmp (de_var 1) (de_var 0) (de_var 2))))))
end
end Pwk91

set_option Elab.async false
set_option linter.all false
set_option maxRecDepth 100000
set_option maxHeartbeats 4000000
namespace Pwk91
open PySem PySem.Spec PyProof.Rows L2 Pw
section
variable {P : Program} {w : World} {K : PySem.W.Frag} {mg : Str → Option Value} {base : Heap}
theorem ok_is_bells (T : TB K mg) : FnG P w K mg base 3 T.f_is_bells T.d_is_bells ["value"] (fspec K ow_is_bells 1 n_is_bells m_is_bells) := fng_d T.F_is_bells sc_is_bells rfl rfl fun cdv A outer s H hr gd => by
  unfold m_is_bells
  exact (dss_one (ds_ret (de_call ((ok_is_within T).mono (by decide)) hr gd T.g_is_within T.F_is_within.kp T.b_is_within (da_cons (de_var 0) (da_cons (de_gI T.c_LEAST_BELLS) (da_cons (de_gI T.c_MOST_BELLS) da_nil))) (alen_cons (alen_cons (alen_cons alen_nil))))))
end
end Pwk91

set_option Elab.async false
set_option linter.all false
set_option maxRecDepth 100000
set_option maxHeartbeats 4000000
namespace Pwk91
open PySem PySem.Spec PyProof.Rows L2 Pw
section
variable {P : Program} {w : World} {K : PySem.W.Frag} {mg : Str → Option Value} {base : Heap}
theorem ok_want_bells (T : TB K mg) : FnG P w K mg base 4 T.f_want_bells T.d_want_bells ["bells"] (fspec K ow_want_bells 1 n_want_bells m_want_bells) := fng_d T.F_want_bells sc_want_bells rfl rfl fun cdv A outer s H hr gd => by
  unfold m_want_bells
  exact (dss_one (ds_if (dt_not (dt_val (de_call ((ok_is_bells T).mono (by decide)) hr gd T.g_is_bells T.F_is_bells.kp T.b_is_bells (da_cons (de_var 0) da_nil) (alen_cons alen_nil)))) (dss_one ds_stop) dss_nil))
end
end Pwk91

set_option Elab.async false
set_option linter.all false
set_option maxRecDepth 100000
set_option maxHeartbeats 4000000
namespace Pwk91
open PySem PySem.Spec PyProof.Rows L2 Pw
section
variable {P : Program} {w : World} {K : PySem.W.Frag} {mg : Str → Option Value} {base : Heap}
theorem ok_is_tuple (T : TB K mg) : FnG P w K mg base 1 T.f_is_tuple T.d_is_tuple ["value", "many"] (fspec K ow_is_tuple 2 n_is_tuple m_is_tuple) := fng_d T.F_is_tuple sc_is_tuple rfl rfl fun cdv A outer s H hr gd => by
  unfold m_is_tuple
  exact (dss_one (ds_ret (de_and (de_isi (T := "tuple") T.n_isinstance (de_var 0) T.n_tuple) (de_one (de_cmpR (o_eqT hr.units) g_eqT (de_callB o_len g_len T.n_len (da_cons (de_var 0) da_nil)) (de_var 1) (nomark _))))))
end
end Pwk91

set_option Elab.async false
set_option linter.all false
set_option maxRecDepth 100000
set_option maxHeartbeats 4000000
namespace Pwk91
open PySem PySem.Spec PyProof.Rows L2 Pw
section
variable {P : Program} {w : World} {K : PySem.W.Frag} {mg : Str → Option Value} {base : Heap}
theorem ok_are_places (T : TB K mg) : FnG P w K mg base 3 T.f_are_places T.d_are_places ["bells", "value"] (fspec K ow_are_places 2 n_are_places m_are_places) := fng_d T.F_are_places sc_are_places rfl rfl fun cdv A outer s H hr gd => by
  unfold m_are_places
  exact (dss_cons (ds_if (dt_w (dw_or (dt_not (dt_val (de_call ((ok_is_tuple T).mono (by decide)) hr gd T.g_is_tuple T.F_is_tuple.kp T.b_is_tuple (da_cons (de_var 1) (da_cons (de_var 0) da_nil)) (alen_cons (alen_cons alen_nil))))) (dw_or1 (dt_not (dt_val (de_callB (cr_all rfl) g_all T.n_all (da_cons (de_lc (own := [("one", 3)]) rfl sc_are_places.nd (di_seq (de_var 1)) (blkOk_by (own := [("one", 3)]) (N := nm_are_places) (sc := (defScope s_are_places)) (by decide +kernel)) (fun _ _ _ _ _ => (dq_name (j := 3) (b := false) sc_are_places.nd (by decide))) (fun _ _ _ _ _ => dts_nil) (fun _ _ _ _ _ => (de_or (de_cmpR op_isN g_is (de_var 3) de_non (nomark _)) (de_one (de_call ((ok_is_within T).mono (by decide)) hr gd T.g_is_within T.F_is_within.kp T.b_is_within (da_cons (de_var 3) (da_cons de_int (da_cons (de_op2 op_sub g_sub (de_var 0) de_int) da_nil))) (alen_cons (alen_cons (alen_cons alen_nil))))))) (by decide) (by decide)) da_nil))))))) (dss_one (ds_ret de_bl)) dss_nil) (dss_cons (ds_setLc (own := [("one", 3)]) (i := 2) (bi := true) rfl sc_are_places.nd (by decide) rfl rfl (sw_true rfl rfl rfl rfl) (di_seq (de_var 1)) (blkOk_by (own := [("one", 3)]) (N := nm_are_places) (sc := (defScope s_are_places)) (by decide +kernel)) (fun _ _ _ _ _ => (dq_name (j := 3) (b := false) sc_are_places.nd (by decide))) (fun _ _ _ _ _ => (dts_one (dt_cmpR op_notN g_isnot (de_var 3) de_non (nomark _)))) (fun _ _ _ _ _ => (de_var 3)) (by decide) (by decide)) (dss_one (ds_ret (de_and (de_cmpR (o_gt hr.units) g_cmp (de_callB o_len g_len T.n_len (da_cons (de_var 2) da_nil)) de_int (nomark _)) (de_one (de_cmpR (o_eqT hr.units) g_eqT (de_lenSet rfl T.n_len T.n_set (de_var 2)) (de_callB o_len g_len T.n_len (da_cons (de_var 2) da_nil)) (nomark _))))))))
end
end Pwk91

set_option Elab.async false
set_option linter.all false
set_option maxRecDepth 100000
set_option maxHeartbeats 4000000
namespace Pwk91
open PySem PySem.Spec PyProof.Rows L2 Pw
section
variable {P : Program} {w : World} {K : PySem.W.Frag} {mg : Str → Option Value} {base : Heap}
theorem ok_is_mark_of (T : TB K mg) : FnG P w K mg base 4 T.f_is_mark_of T.d_is_mark_of ["bells", "value"] (fspec K ow_is_mark_of 2 n_is_mark_of m_is_mark_of) := fng_d T.F_is_mark_of sc_is_mark_of rfl rfl fun cdv A outer s H hr gd => by
  unfold m_is_mark_of
  exact (dss_cons (ds_if (dt_w (dw_or (dt_not (dt_val (de_isi (T := "tuple") T.n_isinstance (de_var 1) T.n_tuple))) (dw_or (dt_cmpR (o_notIn hr.units) g_notIn (de_callB o_len g_len T.n_len (da_cons (de_var 1) da_nil)) (de_tup (da_cons de_int (da_cons de_int da_nil))) (by with_unfolding_all rfl)) (dw_or1 (dt_not (dt_val (de_isi (T := "str") T.n_isinstance (de_ixR (o_ix (hu_of hr)) g_ix (de_var 1) de_int (fun _ _ => rfl)) T.n_str))))))) (dss_one (ds_ret de_bl)) dss_nil) (dss_cons (ds_if (dt_cmpR (o_eqT hr.units) g_eqT (de_ixR (o_ix (hu_of hr)) g_ix (de_var 1) de_int (fun _ _ => rfl)) (de_gS T.c_BELLS) (nomark _)) (dss_one (ds_ret (de_and (de_cmpR (o_eqT hr.units) g_eqT (de_callB o_len g_len T.n_len (da_cons (de_var 1) da_nil)) de_int (nomark _)) (de_one (de_call ((ok_are_places T).mono (by decide)) hr gd T.g_are_places T.F_are_places.kp T.b_are_places (da_cons (de_var 0) (da_cons (de_ixR (o_ix (hu_of hr)) g_ix (de_var 1) de_int (fun _ _ => rfl)) da_nil)) (alen_cons (alen_cons alen_nil))))))) dss_nil) (dss_cons (ds_if (dt_w (dw_or (dt_cmpR (o_neT hr.units) g_neT (de_ixR (o_ix (hu_of hr)) g_ix (de_var 1) de_int (fun _ _ => rfl)) (de_gS T.c_RUN) (nomark _)) (dw_or (dt_cmpR (o_neT hr.units) g_neT (de_callB o_len g_len T.n_len (da_cons (de_var 1) da_nil)) de_int (nomark _)) (dw_or (dt_not (dt_val (de_isi (T := "str") T.n_isinstance (de_ixR (o_ix (hu_of hr)) g_ix (de_var 1) de_int (fun _ _ => rfl)) T.n_str))) (dw_or1 (dt_cmpR (o_notIn hr.units) g_notIn (de_ixR (o_ix (hu_of hr)) g_ix (de_var 1) de_int (fun _ _ => rfl)) (de_tup (da_cons (de_gS T.c_UP) (da_cons (de_gS T.c_DOWN) da_nil))) (by with_unfolding_all rfl))))))) (dss_one (ds_ret de_bl)) dss_nil) (dss_cons (ds_if (dt_not (dt_val (de_call ((ok_is_within T).mono (by decide)) hr gd T.g_is_within T.F_is_within.kp T.b_is_within (da_cons (de_ixR (o_ix (hu_of hr)) g_ix (de_var 1) de_int (fun _ _ => rfl)) (da_cons de_int (da_cons (de_op2 op_sub g_sub (de_var 0) (de_gI T.c_LEAST_RUN)) da_nil))) (alen_cons (alen_cons (alen_cons alen_nil)))))) (dss_one (ds_ret de_bl)) dss_nil) (dss_one (ds_ret (de_call ((ok_is_within T).mono (by decide)) hr gd T.g_is_within T.F_is_within.kp T.b_is_within (da_cons (de_ixR (o_ix (hu_of hr)) g_ix (de_var 1) de_int (fun _ _ => rfl)) (da_cons (de_gI T.c_LEAST_RUN) (da_cons (de_op2 op_sub g_sub (de_var 0) (de_ixR (o_ix (hu_of hr)) g_ix (de_var 1) de_int (fun _ _ => rfl))) da_nil))) (alen_cons (alen_cons (alen_cons alen_nil))))))))))
end
end Pwk91

set_option Elab.async false
set_option linter.all false
set_option maxRecDepth 100000
set_option maxHeartbeats 4000000
namespace Pwk91
open PySem PySem.Spec PyProof.Rows L2 Pw
section
variable {P : Program} {w : World} {K : PySem.W.Frag} {mg : Str → Option Value} {base : Heap}
theorem ok_is_mark (T : TB K mg) : FnG P w K mg base 5 T.f_is_mark T.d_is_mark ["bells", "value"] (fspec K ow_is_mark 2 n_is_mark m_is_mark) := fng_d T.F_is_mark sc_is_mark rfl rfl fun cdv A outer s H hr gd => by
  unfold m_is_mark
  exact (dss_cons (ds_expr (de_call ((ok_want_bells T).mono (by decide)) hr gd T.g_want_bells T.F_want_bells.kp T.b_want_bells (da_cons (de_var 0) da_nil) (alen_cons alen_nil))) (dss_one (ds_ret (de_call ((ok_is_mark_of T).mono (by decide)) hr gd T.g_is_mark_of T.F_is_mark_of.kp T.b_is_mark_of (da_cons (de_var 0) (da_cons (de_var 1) da_nil)) (alen_cons (alen_cons alen_nil))))))
end
end Pwk91

set_option Elab.async false
set_option linter.all false
set_option maxRecDepth 100000
set_option maxHeartbeats 4000000
namespace Pwk91
open PySem PySem.Spec PyProof.Rows L2 Pw
section
variable {P : Program} {w : World} {K : PySem.W.Frag} {mg : Str → Option Value} {base : Heap}
theorem ok__law_draw (T : TB K mg) : FnG P w K mg base 1 T.f__law_draw T.d__law_draw ["pot", "many"] (fspec K ow__law_draw 2 n__law_draw m__law_draw) := fng_d T.F__law_draw sc__law_draw rfl rfl fun cdv A outer s H hr gd => by
  unfold m__law_draw
  exact (dss_cons (ds_if (dt_cmpR (o_gt hr.units) g_cmp (de_ixR (o_ix (hu_of hr)) g_ix (de_var 0) de_int (fun _ _ => rfl)) de_int (nomark _)) (dss_cons (ds_set (de_callB call_divmod g_divmod T.n_divmod (da_cons (de_ixR (o_ix (hu_of hr)) g_ix (de_var 0) de_int (fun _ _ => rfl)) (da_cons (de_var 1) da_nil))) (dq_tup rfl (dqs_cons (dq_sub (hu_of hr) (de_var 0) de_int) (dqs_cons (dq_name (j := 2) (b := false) sc__law_draw.nd (by decide)) dqs_nil)))) (dss_one (ds_ret (de_var 2)))) dss_nil) (dss_cons (ds_set (de_op2 op_mod g_mod (de_callT call_int1 g_int T.n_int (da_cons (de_op2 o_add g_add (de_op2 o_mul g_mul (de_ixR (o_ix (hu_of hr)) g_ix (de_var 0) de_int (fun _ _ => rfl)) de_int) de_int) da_nil)) de_int) (dq_sub (hu_of hr) (de_var 0) de_int)) (dss_one (ds_ret (de_op2 op_mod g_mod (de_callT call_int1 g_int T.n_int (da_cons (de_op2 op_fdiv g_div (de_op2 op_mod g_mod (de_callT call_int1 g_int T.n_int (da_cons (de_op2 o_mul g_mul (de_ixR (o_ix (hu_of hr)) g_ix (de_var 0) de_int (fun _ _ => rfl)) (de_ixR (o_ix (hu_of hr)) g_ix (de_var 0) de_int (fun _ _ => rfl))) da_nil)) de_int) de_int) da_nil)) (de_var 1))))))
end
end Pwk91

set_option Elab.async false
set_option linter.all false
set_option maxRecDepth 100000
set_option maxHeartbeats 4000000
namespace Pwk91
open PySem PySem.Spec PyProof.Rows L2 Pw
section
variable {P : Program} {w : World} {K : PySem.W.Frag} {mg : Str → Option Value} {base : Heap}
theorem ok__law_pick (T : TB K mg) : FnG P w K mg base 2 T.f__law_pick T.d__law_pick ["pot", "some"] (fspec K ow__law_pick 2 n__law_pick m__law_pick) := fng_d T.F__law_pick sc__law_pick rfl rfl fun cdv A outer s H hr gd => by
  unfold m__law_pick
  exact (dss_one (ds_ret (de_ixR (o_ix (hu_of hr)) g_ix (de_var 1) (de_callP ((ok__law_draw T).mono (by decide)) hr gd T.g__law_draw T.F__law_draw.kp T.b__law_draw (da_cons (de_var 0) (da_cons (de_callB o_len g_len T.n_len (da_cons (de_var 1) da_nil)) da_nil)) (alen_cons (alen_cons alen_nil))) (fun _ _ => rfl))))
end
end Pwk91

set_option Elab.async false
set_option linter.all false
set_option maxRecDepth 100000
set_option maxHeartbeats 4000000
namespace Pwk91
open PySem PySem.Spec PyProof.Rows L2 Pw
section
variable {P : Program} {w : World} {K : PySem.W.Frag} {mg : Str → Option Value} {base : Heap}
theorem ok__law_all (T : TB K mg) : FnG P w K mg base 1 T.f__law_all T.d__law_all ["bells"] (fspec K ow__law_all 1 n__law_all m__law_all) := fng_d T.F__law_all sc__law_all rfl rfl fun cdv A outer s H hr gd => by
  unfold m__law_all
  exact (dss_cons (ds_set (de_lst (da_cons (de_tup da_nil) da_nil)) (dq_name (j := 1) (b := true) sc__law_all.nd (by decide))) (dss_cons (ds_for PassesOwn.never rfl (di_rg (dg_1 T.n_range (de_var 0))) (dq_name (j := 2) (b := false) sc__law_all.nd (by decide)) (dss_cons (ds_set (de_lst da_nil) (dq_name (j := 3) (b := true) sc__law_all.nd (by decide))) (dss_cons (ds_for PassesOwn.never rfl (di_seq (de_frz (de_var 1))) (dq_name (j := 4) (b := false) sc__law_all.nd (by decide)) (dss_one (ds_expr (de_mtl F.slot_list_extend F.type_list_extend mt_extF g_ext (de_var 3) (da_cons (de_frz (de_lc (own := [("bell", 5)]) rfl sc__law_all.nd (di_rg (dg_1 T.n_range (de_var 0))) (blkOk_by (own := [("bell", 5)]) (N := nm__law_all) (sc := (defScope s__law_all)) (by decide +kernel)) (fun _ _ _ _ _ => (dq_name (j := 5) (b := false) sc__law_all.nd (by decide))) (fun _ _ _ _ _ => (dts_one (dt_cmpR (o_notIn hr.units) g_notIn (de_var 5) (de_var 4) (by with_unfolding_all rfl)))) (fun _ _ _ _ _ => (de_op2 o_add g_add (de_var 4) (de_tup (da_cons (de_var 5) da_nil)))) (by decide) (by decide))) da_nil))))) (dss_one (ds_set (de_frz (de_var 3)) (dq_name (j := 1) (b := true) sc__law_all.nd (by decide))))))) (dss_one (ds_ret (de_var 1)))))
end
end Pwk91

set_option Elab.async false
set_option linter.all false
set_option maxRecDepth 100000
set_option maxHeartbeats 4000000
namespace Pwk91
open PySem PySem.Spec PyProof.Rows L2 Pw
section
variable {P : Program} {w : World} {K : PySem.W.Frag} {mg : Str → Option Value} {base : Heap}
theorem ok__law_mark (T : TB K mg) : FnG P w K mg base 3 T.f__law_mark T.d__law_mark ["pot", "bells"] (fspec K ow__law_mark 2 n__law_mark m__law_mark) := fng_d T.F__law_mark sc__law_mark rfl rfl fun cdv A outer s H hr gd => by
  unfold m__law_mark
  exact (dss_cons (ds_if (dt_cmpR (o_eqT hr.units) g_eqT (de_callP ((ok__law_draw T).mono (by decide)) hr gd T.g__law_draw T.F__law_draw.kp T.b__law_draw (da_cons (de_var 0) (da_cons de_int da_nil)) (alen_cons (alen_cons alen_nil))) de_int (nomark _)) (dss_cons (ds_set (de_callP ((ok__law_draw T).mono (by decide)) hr gd T.g__law_draw T.F__law_draw.kp T.b__law_draw (da_cons (de_var 0) (da_cons (de_op2 op_sub g_sub (de_var 1) de_int) da_nil)) (alen_cons (alen_cons alen_nil))) (dq_name (j := 2) (b := false) sc__law_mark.nd (by decide))) (dss_one (ds_ret (de_tup (da_cons de_str (da_cons (de_callP ((ok__law_pick T).mono (by decide)) hr gd T.g__law_pick T.F__law_pick.kp T.b__law_pick (da_cons (de_var 0) (da_cons (de_frz (de_lst (da_cons de_str (da_cons de_str da_nil)))) da_nil)) (alen_cons (alen_cons alen_nil))) (da_cons (de_var 2) (da_cons (de_op2 o_add g_add de_int (de_callP ((ok__law_draw T).mono (by decide)) hr gd T.g__law_draw T.F__law_draw.kp T.b__law_draw (da_cons (de_var 0) (da_cons (de_op2 op_sub g_sub (de_op2 op_sub g_sub (de_var 1) (de_var 2)) de_int) da_nil)) (alen_cons (alen_cons alen_nil)))) da_nil)))))))) dss_nil) (dss_cons (ds_set (de_tup (da_cons (de_callP ((ok__law_pick T).mono (by decide)) hr gd T.g__law_pick T.F__law_pick.kp T.b__law_pick (da_cons (de_var 0) (da_cons (de_frz (de_call ((ok__law_all T).mono (by decide)) hr gd T.g__law_all T.F__law_all.kp T.b__law_all (da_cons (de_var 1) da_nil) (alen_cons alen_nil))) da_nil)) (alen_cons (alen_cons alen_nil))) (da_cons (de_frz (de_lc (own := [("place", 2)]) rfl sc__law_mark.nd (di_rg (dg_1 T.n_range (de_var 1))) (blkOk_by (own := [("place", 2)]) (N := nm__law_mark) (sc := (defScope s__law_mark)) (by decide +kernel)) (fun _ _ _ _ _ => (dq_name (j := 2) (b := false) sc__law_mark.nd (by decide))) (fun _ _ _ _ _ => dts_nil) (fun _ _ _ _ _ => (de_callP ((ok__law_draw T).mono (by decide)) hr gd T.g__law_draw T.F__law_draw.kp T.b__law_draw (da_cons (de_var 0) (da_cons de_int da_nil)) (alen_cons (alen_cons alen_nil)))) (by decide) (by decide))) da_nil))) (dq_tup rfl (dqs_cons (dq_name (j := 3) (b := false) sc__law_mark.nd (by decide)) (dqs_cons (dq_name (j := 4) (b := false) sc__law_mark.nd (by decide)) dqs_nil)))) (dss_cons (ds_set (de_callP ((ok__law_draw T).mono (by decide)) hr gd T.g__law_draw T.F__law_draw.kp T.b__law_draw (da_cons (de_var 0) (da_cons (de_var 1) da_nil)) (alen_cons (alen_cons alen_nil))) (dq_name (j := 5) (b := false) sc__law_mark.nd (by decide))) (dss_one (ds_ret (de_tup (da_cons de_str (da_cons (de_callT call_tuple_of g_tup T.n_tuple (da_cons (de_lc (own := [("at", 6), ("bell", 7)]) rfl sc__law_mark.nd (di_enum T.n_enumerate (de_var 3)) (blkOk_by (own := [("at", 6), ("bell", 7)]) (N := nm__law_mark) (sc := (defScope s__law_mark)) (by decide +kernel)) (fun _ _ _ _ _ => (dq_tup rfl (dqs_cons (dq_name (j := 6) (b := false) sc__law_mark.nd (by decide)) (dqs_cons (dq_name (j := 7) (b := false) sc__law_mark.nd (by decide)) dqs_nil)))) (fun _ _ _ _ _ => dts_nil) (fun _ _ _ _ _ => (de_ifx (dt_w (dw_or (dt_cmpR (o_eqT hr.units) g_eqT (de_ixR (o_ix (hu_of hr)) g_ix (de_var 4) (de_var 6) (fun _ _ => rfl)) de_int (nomark _)) (dw_or1 (dt_cmpR (o_eqT hr.units) g_eqT (de_var 6) (de_var 5) (nomark _))))) (de_var 7) de_non)) (by decide) (by decide)) da_nil)) da_nil))))))))
end
end Pwk91

set_option Elab.async false
set_option linter.all false
set_option maxRecDepth 100000
set_option maxHeartbeats 4000000
namespace Pwk91
open PySem PySem.Spec PyProof.Rows L2 Pw
section
variable {P : Program} {w : World} {K : PySem.W.Frag} {mg : Str → Option Value} {base : Heap}
theorem ok__law_is_number (T : TB K mg) : FnG P w K mg base 1 T.f__law_is_number T.d__law_is_number ["value", "least", "most"] (fspec K ow__law_is_number 3 n__law_is_number m__law_is_number) := fng_d T.F__law_is_number sc__law_is_number rfl rfl fun cdv A outer s H hr gd => by
  unfold m__law_is_number
  exact (dss_one (ds_ret (de_and (de_isi (T := "int") T.n_isinstance (de_var 0) T.n_int) (de_and (de_not (de_isi (T := "bool") T.n_isinstance (de_var 0) T.n_bool)) (de_one (de_chain (o_le hr.units) g_cmp (o_le hr.units) g_cmp (de_var 1) (de_var 0) (de_var 2)))))))
end
end Pwk91

set_option Elab.async false
set_option linter.all false
set_option maxRecDepth 100000
set_option maxHeartbeats 4000000
namespace Pwk91
open PySem PySem.Spec PyProof.Rows L2 Pw
section
variable {P : Program} {w : World} {K : PySem.W.Frag} {mg : Str → Option Value} {base : Heap}
theorem ok__law_is_mark (T : TB K mg) : FnG P w K mg base 2 T.f__law_is_mark T.d__law_is_mark ["bells", "value"] (fspec K ow__law_is_mark 2 n__law_is_mark m__law_is_mark) := fng_d T.F__law_is_mark sc__law_is_mark rfl rfl fun cdv A outer s H hr gd => by
  unfold m__law_is_mark
  exact (dss_cons (ds_if (dt_w (dw_or (dt_not (dt_val (de_isi (T := "tuple") T.n_isinstance (de_var 1) T.n_tuple))) (dw_or (dt_cmpR (o_eqT hr.units) g_eqT (de_var 1) (de_tup da_nil) (nomark _)) (dw_or1 (dt_not (dt_val (de_isi (T := "str") T.n_isinstance (de_ixR (o_ix (hu_of hr)) g_ix (de_var 1) de_int (fun _ _ => rfl)) T.n_str))))))) (dss_one (ds_ret de_bl)) dss_nil) (dss_cons (ds_if (dt_cmpR (o_eqT hr.units) g_eqT (de_ixR (o_ix (hu_of hr)) g_ix (de_var 1) de_int (fun _ _ => rfl)) de_str (nomark _)) (dss_cons (ds_if (dt_w (dw_or (dt_cmpR (o_neT hr.units) g_neT (de_callB o_len g_len T.n_len (da_cons (de_var 1) da_nil)) de_int (nomark _)) (dw_or (dt_not (dt_val (de_isi (T := "tuple") T.n_isinstance (de_ixR (o_ix (hu_of hr)) g_ix (de_var 1) de_int (fun _ _ => rfl)) T.n_tuple))) (dw_or1 (dt_cmpR (o_neT hr.units) g_neT (de_callB o_len g_len T.n_len (da_cons (de_ixR (o_ix (hu_of hr)) g_ix (de_var 1) de_int (fun _ _ => rfl)) da_nil)) (de_var 0) (nomark _)))))) (dss_one (ds_ret de_bl)) dss_nil) (dss_cons (ds_setLc (own := [("one", 3)]) (i := 2) (bi := true) rfl sc__law_is_mark.nd (by decide) rfl rfl (sw_true rfl rfl rfl rfl) (di_seq (de_ixR (o_ix (hu_of hr)) g_ix (de_var 1) de_int (fun _ _ => rfl))) (blkOk_by (own := [("one", 3)]) (N := nm__law_is_mark) (sc := (defScope s__law_is_mark)) (by decide +kernel)) (fun _ _ _ _ _ => (dq_name (j := 3) (b := false) sc__law_is_mark.nd (by decide))) (fun _ _ _ _ _ => (dts_one (dt_cmpR op_notN g_isnot (de_var 3) de_non (nomark _)))) (fun _ _ _ _ _ => (de_var 3)) (by decide) (by decide)) (dss_one (ds_ret (de_and (de_cmpR (o_neT hr.units) g_neT (de_var 2) (de_lst da_nil) (nomark _)) (de_and (de_callB (cr_all rfl) g_all T.n_all (da_cons (de_lc (own := [("one", 3)]) rfl sc__law_is_mark.nd (di_seq (de_frz (de_var 2))) (blkOk_by (own := [("one", 3)]) (N := nm__law_is_mark) (sc := (defScope s__law_is_mark)) (by decide +kernel)) (fun _ _ _ _ _ => (dq_name (j := 3) (b := false) sc__law_is_mark.nd (by decide))) (fun _ _ _ _ _ => dts_nil) (fun _ _ _ _ _ => (de_call ((ok__law_is_number T).mono (by decide)) hr gd T.g__law_is_number T.F__law_is_number.kp T.b__law_is_number (da_cons (de_var 3) (da_cons de_int (da_cons (de_op2 op_sub g_sub (de_var 0) de_int) da_nil))) (alen_cons (alen_cons (alen_cons alen_nil))))) (by decide) (by decide)) da_nil)) (de_one (de_cmpR (o_eqT hr.units) g_eqT (de_lenSet rfl T.n_len T.n_set (de_var 2)) (de_callB o_len g_len T.n_len (da_cons (de_var 2) da_nil)) (nomark _))))))))) dss_nil) (dss_cons (ds_if (dt_w (dw_or (dt_cmpR (o_neT hr.units) g_neT (de_ixR (o_ix (hu_of hr)) g_ix (de_var 1) de_int (fun _ _ => rfl)) de_str (nomark _)) (dw_or (dt_cmpR (o_neT hr.units) g_neT (de_callB o_len g_len T.n_len (da_cons (de_var 1) da_nil)) de_int (nomark _)) (dw_or (dt_not (dt_val (de_isi (T := "str") T.n_isinstance (de_ixR (o_ix (hu_of hr)) g_ix (de_var 1) de_int (fun _ _ => rfl)) T.n_str))) (dw_or1 (dt_cmpR (o_notIn hr.units) g_notIn (de_ixR (o_ix (hu_of hr)) g_ix (de_var 1) de_int (fun _ _ => rfl)) (de_tup (da_cons de_str (da_cons de_str da_nil))) (by with_unfolding_all rfl))))))) (dss_one (ds_ret de_bl)) dss_nil) (dss_one (ds_ret (de_and (de_call ((ok__law_is_number T).mono (by decide)) hr gd T.g__law_is_number T.F__law_is_number.kp T.b__law_is_number (da_cons (de_ixR (o_ix (hu_of hr)) g_ix (de_var 1) de_int (fun _ _ => rfl)) (da_cons de_int (da_cons (de_var 0) da_nil))) (alen_cons (alen_cons (alen_cons alen_nil)))) (de_and (de_call ((ok__law_is_number T).mono (by decide)) hr gd T.g__law_is_number T.F__law_is_number.kp T.b__law_is_number (da_cons (de_ixR (o_ix (hu_of hr)) g_ix (de_var 1) de_int (fun _ _ => rfl)) (da_cons de_int (da_cons (de_var 0) da_nil))) (alen_cons (alen_cons (alen_cons alen_nil)))) (de_one (de_cmpR (o_le hr.units) g_cmp (de_op2 o_add g_add (de_ixR (o_ix (hu_of hr)) g_ix (de_var 1) de_int (fun _ _ => rfl)) (de_ixR (o_ix (hu_of hr)) g_ix (de_var 1) de_int (fun _ _ => rfl))) (de_var 0) (nomark _))))))))))
end
end Pwk91

set_option Elab.async false
set_option linter.all false
set_option maxRecDepth 100000
set_option maxHeartbeats 4000000
namespace Pwk91
open PySem PySem.Spec PyProof.Rows L2 Pw
section
variable {P : Program} {w : World} {K : PySem.W.Frag} {mg : Str → Option Value} {base : Heap}
theorem ok__law_bent (T : TB K mg) : ∀ n : Nat, FnG P w K mg base (3 + n) T.f__law_bent T.d__law_bent ["pot", "value"] (fspec K ow__law_bent 2 n__law_bent (m__law_bent n))
  | 0 => fng_stop T.F__law_bent sc__law_bent
  | n + 1 => by
    have ih := ok__law_bent T n
    refine fng_d T.F__law_bent sc__law_bent rfl rfl fun cdv A outer s H hr gd => ?_
    unfold m__law_bent
    exact (dss_cons (ds_if (dt_w (dw_and (dt_val (de_isi (T := "tuple") T.n_isinstance (de_var 1) T.n_tuple)) (dw_and (dt_cmpR (o_gt hr.units) g_cmp (de_callB o_len g_len T.n_len (da_cons (de_var 1) da_nil)) de_int (nomark _)) (dw_and1 (dt_cmpR (o_gt hr.units) g_cmp (de_callP ((ok__law_draw T).mono (Nat.le_trans (by decide) (Nat.le_add_right 3 n))) hr gd T.g__law_draw T.F__law_draw.kp T.b__law_draw (da_cons (de_var 0) (da_cons de_int da_nil)) (alen_cons (alen_cons alen_nil))) de_int (nomark _)))))) (dss_cons (ds_par3 (i := 2) (j := 3) (l := 4) (bi := false) (bj := false) (bl := true) rfl sc__law_bent.nd (by decide) (by decide) (by decide) (da_cons (de_callP ((ok__law_draw T).mono (Nat.le_trans (by decide) (Nat.le_add_right 3 n))) hr gd T.g__law_draw T.F__law_draw.kp T.b__law_draw (da_cons (de_var 0) (da_cons (de_callB o_len g_len T.n_len (da_cons (de_var 1) da_nil)) da_nil)) (alen_cons (alen_cons alen_nil))) (da_cons (de_callP ((ok__law_draw T).mono (Nat.le_trans (by decide) (Nat.le_add_right 3 n))) hr gd T.g__law_draw T.F__law_draw.kp T.b__law_draw (da_cons (de_var 0) (da_cons de_int da_nil)) (alen_cons (alen_cons alen_nil))) (da_cons (de_callT call_list_of g_lst T.n_list (da_cons (de_var 1) da_nil)) da_nil)))) (dss_cons (ds_if (dt_cmpR (o_eqT hr.units) g_eqT (de_var 3) de_int (nomark _)) (dss_one (ds_set (de_op2 o_add g_add (de_cut (de_var 4) do_none (do_some (de_var 2))) (de_cut (de_var 4) (do_some (de_op2 o_add g_add (de_var 2) de_int)) do_none)) (dq_name (j := 4) (b := true) sc__law_bent.nd (by decide)))) (dss_one (ds_if (dt_cmpR (o_eqT hr.units) g_eqT (de_var 3) de_int (nomark _)) (dss_one (ds_set (de_op2 o_add g_add (de_var 4) (de_lst (da_cons (de_ixR (o_ix (hu_of hr)) g_ix (de_var 4) (de_var 2) (fun _ _ => rfl)) da_nil))) (dq_name (j := 4) (b := true) sc__law_bent.nd (by decide)))) (dss_one (ds_if (dt_cmpR (o_eqT hr.units) g_eqT (de_var 3) de_int (nomark _)) (dss_one (ds_ret (de_var 4))) (dss_one (ds_set (de_frz (de_callP ih hr gd T.g__law_bent T.F__law_bent.kp T.b__law_bent (da_cons (de_var 0) (da_cons (de_ixR (o_ix (hu_of hr)) g_ix (de_var 4) (de_var 2) (fun _ _ => rfl)) da_nil)) (alen_cons (alen_cons alen_nil)))) (dq_sub (hu_of hr) (de_var 4) (de_var 2))))))))) (dss_one (ds_ret (de_callT call_tuple_of g_tup T.n_tuple (da_cons (de_var 4) da_nil)))))) dss_nil) (dss_one (ds_ret (de_callP ((ok__law_pick T).mono (Nat.le_trans (by decide) (Nat.le_add_right 3 n))) hr gd T.g__law_pick T.F__law_pick.kp T.b__law_pick (da_cons (de_var 0) (da_cons (de_frz (de_lst (da_cons de_non (da_cons de_int (da_cons de_int (da_cons de_int (da_cons de_int (da_cons de_int (da_cons de_int (da_cons (de_un un_neg g_neg de_int) (da_cons de_bl (da_cons de_bl (da_cons de_str (da_cons de_str (da_cons de_str (da_cons de_str (da_cons (de_tup da_nil) (da_cons de_str da_nil)))))))))))))))))) da_nil)) (alen_cons (alen_cons alen_nil))))))
end
end Pwk91

set_option Elab.async false
set_option linter.all false
set_option maxRecDepth 100000
set_option maxHeartbeats 4000000
namespace Pwk91
open PySem PySem.Spec PyProof.Rows L2 Pw
section
variable {P : Program} {w : World} {K : PySem.W.Frag} {mg : Str → Option Value} {base : Heap}
theorem ok_is_row_of (T : TB K mg) : FnG P w K mg base 3 T.f_is_row_of T.d_is_row_of ["bells", "value"] (fspec K ow_is_row_of 2 n_is_row_of m_is_row_of) := fng_d T.F_is_row_of sc_is_row_of rfl rfl fun cdv A outer s H hr gd => by
  unfold m_is_row_of
  exact (dss_cons (ds_if (dt_w (dw_or (dt_not (dt_val (de_isi (T := "tuple") T.n_isinstance (de_var 1) T.n_tuple))) (dw_or (dt_cmpR (o_neT hr.units) g_neT (de_callB o_len g_len T.n_len (da_cons (de_var 1) da_nil)) (de_var 0) (nomark _)) (dw_or1 (dt_not (dt_val (de_callB (cr_all rfl) g_all T.n_all (da_cons (de_lc (own := [("one", 2)]) rfl sc_is_row_of.nd (di_seq (de_var 1)) (blkOk_by (own := [("one", 2)]) (N := nm_is_row_of) (sc := (defScope s_is_row_of)) (by decide +kernel)) (fun _ _ _ _ _ => (dq_name (j := 2) (b := false) sc_is_row_of.nd (by decide))) (fun _ _ _ _ _ => dts_nil) (fun _ _ _ _ _ => (de_call ((ok_is_within T).mono (by decide)) hr gd T.g_is_within T.F_is_within.kp T.b_is_within (da_cons (de_var 2) (da_cons de_int (da_cons (de_op2 op_sub g_sub (de_var 0) de_int) da_nil))) (alen_cons (alen_cons (alen_cons alen_nil))))) (by decide) (by decide)) da_nil)))))))) (dss_one (ds_ret de_bl)) dss_nil) (dss_one (ds_ret (de_cmpR (o_eqT hr.units) g_eqT (de_lenSet rfl T.n_len T.n_set (de_var 1)) (de_var 0) (nomark _)))))
end
end Pwk91

set_option Elab.async false
set_option linter.all false
set_option maxRecDepth 100000
set_option maxHeartbeats 4000000
namespace Pwk91
open PySem PySem.Spec PyProof.Rows L2 Pw
section
variable {P : Program} {w : World} {K : PySem.W.Frag} {mg : Str → Option Value} {base : Heap}
theorem ok_want_row (T : TB K mg) : FnG P w K mg base 4 T.f_want_row T.d_want_row ["bells", "row"] (fspec K ow_want_row 2 n_want_row m_want_row) := fng_d T.F_want_row sc_want_row rfl rfl fun cdv A outer s H hr gd => by
  unfold m_want_row
  exact (dss_one (ds_if (dt_not (dt_val (de_call ((ok_is_row_of T).mono (by decide)) hr gd T.g_is_row_of T.F_is_row_of.kp T.b_is_row_of (da_cons (de_var 0) (da_cons (de_var 1) da_nil)) (alen_cons (alen_cons alen_nil))))) (dss_one ds_stop) dss_nil))
end
end Pwk91

set_option Elab.async false
set_option linter.all false
set_option maxRecDepth 100000
set_option maxHeartbeats 4000000
namespace Pwk91
open PySem PySem.Spec PyProof.Rows L2 Pw
section
variable {P : Program} {w : World} {K : PySem.W.Frag} {mg : Str → Option Value} {base : Heap}
theorem ok_want_mark (T : TB K mg) : FnG P w K mg base 5 T.f_want_mark T.d_want_mark ["bells", "mark"] (fspec K ow_want_mark 2 n_want_mark m_want_mark) := fng_d T.F_want_mark sc_want_mark rfl rfl fun cdv A outer s H hr gd => by
  unfold m_want_mark
  exact (dss_one (ds_if (dt_not (dt_val (de_call ((ok_is_mark_of T).mono (by decide)) hr gd T.g_is_mark_of T.F_is_mark_of.kp T.b_is_mark_of (da_cons (de_var 0) (da_cons (de_var 1) da_nil)) (alen_cons (alen_cons alen_nil))))) (dss_one ds_stop) dss_nil))
end
end Pwk91

set_option Elab.async false
set_option linter.all false
set_option maxRecDepth 100000
set_option maxHeartbeats 4000000
namespace Pwk91
open PySem PySem.Spec PyProof.Rows L2 Pw
section
variable {P : Program} {w : World} {K : PySem.W.Frag} {mg : Str → Option Value} {base : Heap}
theorem ok_does_have (T : TB K mg) : FnG P w K mg base 1 T.f_does_have T.d_does_have ["row", "mark"] (fspec K ow_does_have 2 n_does_have m_does_have) := fng_d T.F_does_have sc_does_have rfl rfl fun cdv A outer s H hr gd => by
  unfold m_does_have
  exact (dss_cons (ds_if (dt_cmpR (o_eqT hr.units) g_eqT (de_ixR (o_ix (hu_of hr)) g_ix (de_var 1) de_int (fun _ _ => rfl)) (de_gS T.c_BELLS) (nomark _)) (dss_one (ds_ret (de_callB (cr_all rfl) g_all T.n_all (da_cons (de_lc (own := [("told", 8), ("bell", 9)]) rfl sc_does_have.nd (di_zip T.n_zip (de_ixR (o_ix (hu_of hr)) g_ix (de_var 1) de_int (fun _ _ => rfl)) (de_var 0)) (blkOk_by (own := [("told", 8), ("bell", 9)]) (N := nm_does_have) (sc := (defScope s_does_have)) (by decide +kernel)) (fun _ _ _ _ _ => (dq_tup rfl (dqs_cons (dq_name (j := 8) (b := false) sc_does_have.nd (by decide)) (dqs_cons (dq_name (j := 9) (b := false) sc_does_have.nd (by decide)) dqs_nil)))) (fun _ _ _ _ _ => dts_nil) (fun _ _ _ _ _ => (de_or (de_cmpR op_isN g_is (de_var 8) de_non (nomark _)) (de_one (de_cmpR (o_eqT hr.units) g_eqT (de_var 8) (de_var 9) (nomark _))))) (by decide) (by decide)) da_nil)))) dss_nil) (dss_cons (ds_set (de_var 1) (dq_tup rfl (dqs_cons (dq_name (j := 2) (b := false) sc_does_have.nd (by decide)) (dqs_cons (dq_name (j := 3) (b := false) sc_does_have.nd (by decide)) (dqs_cons (dq_name (j := 4) (b := false) sc_does_have.nd (by decide)) (dqs_cons (dq_name (j := 5) (b := false) sc_does_have.nd (by decide)) dqs_nil)))))) (dss_cons (ds_set (de_ifx (dt_cmpR (o_eqT hr.units) g_eqT (de_var 3) (de_gS T.c_UP) (nomark _)) de_int (de_un un_neg g_neg de_int)) (dq_name (j := 6) (b := false) sc_does_have.nd (by decide))) (dss_one (ds_ret (de_callB (cr_all rfl) g_all T.n_all (da_cons (de_lc (own := [("at", 7)]) rfl sc_does_have.nd (di_rg (dg_2 T.n_range (de_var 4) (de_op2 op_sub g_sub (de_op2 o_add g_add (de_var 4) (de_var 5)) de_int))) (blkOk_by (own := [("at", 7)]) (N := nm_does_have) (sc := (defScope s_does_have)) (by decide +kernel)) (fun _ _ _ _ _ => (dq_name (j := 7) (b := false) sc_does_have.nd (by decide))) (fun _ _ _ _ _ => dts_nil) (fun _ _ _ _ _ => (de_cmpR (o_eqT hr.units) g_eqT (de_ixR (o_ix (hu_of hr)) g_ix (de_var 0) (de_op2 o_add g_add (de_var 7) de_int) (fun _ _ => rfl)) (de_op2 o_add g_add (de_ixR (o_ix (hu_of hr)) g_ix (de_var 0) (de_var 7) (fun _ _ => rfl)) (de_var 6)) (nomark _))) (by decide) (by decide)) da_nil)))))))
end
end Pwk91

set_option Elab.async false
set_option linter.all false
set_option maxRecDepth 100000
set_option maxHeartbeats 4000000
namespace Pwk91
open PySem PySem.Spec PyProof.Rows L2 Pw
section
variable {P : Program} {w : World} {K : PySem.W.Frag} {mg : Str → Option Value} {base : Heap}
theorem ok_has_mark (T : TB K mg) : FnG P w K mg base 6 T.f_has_mark T.d_has_mark ["bells", "row", "mark"] (fspec K ow_has_mark 3 n_has_mark m_has_mark) := fng_d T.F_has_mark sc_has_mark rfl rfl fun cdv A outer s H hr gd => by
  unfold m_has_mark
  exact (dss_cons (ds_expr (de_call ((ok_want_bells T).mono (by decide)) hr gd T.g_want_bells T.F_want_bells.kp T.b_want_bells (da_cons (de_var 0) da_nil) (alen_cons alen_nil))) (dss_cons (ds_expr (de_call ((ok_want_row T).mono (by decide)) hr gd T.g_want_row T.F_want_row.kp T.b_want_row (da_cons (de_var 0) (da_cons (de_var 1) da_nil)) (alen_cons (alen_cons alen_nil)))) (dss_cons (ds_expr (de_call ((ok_want_mark T).mono (by decide)) hr gd T.g_want_mark T.F_want_mark.kp T.b_want_mark (da_cons (de_var 0) (da_cons (de_var 2) da_nil)) (alen_cons (alen_cons alen_nil)))) (dss_one (ds_ret (de_call ((ok_does_have T).mono (by decide)) hr gd T.g_does_have T.F_does_have.kp T.b_does_have (da_cons (de_var 1) (da_cons (de_var 2) da_nil)) (alen_cons (alen_cons alen_nil))))))))
end
end Pwk91

set_option Elab.async false
set_option linter.all false
set_option maxRecDepth 100000
set_option maxHeartbeats 4000000
namespace Pwk91
open PySem PySem.Spec PyProof.Rows L2 Pw
section
variable {P : Program} {w : World} {K : PySem.W.Frag} {mg : Str → Option Value} {base : Heap}
theorem ok_is_list (T : TB K mg) : FnG P w K mg base 1 T.f_is_list T.d_is_list ["value"] (fspec K ow_is_list 1 n_is_list m_is_list) := fng_d T.F_is_list sc_is_list rfl rfl fun cdv A outer s H hr gd => by
  unfold m_is_list
  exact (dss_one (ds_ret (de_isi2 (T := "list") (U := "tuple") T.n_isinstance (de_var 0) T.n_list T.n_tuple)))
end
end Pwk91

set_option Elab.async false
set_option linter.all false
set_option maxRecDepth 100000
set_option maxHeartbeats 4000000
namespace Pwk91
open PySem PySem.Spec PyProof.Rows L2 Pw
section
variable {P : Program} {w : World} {K : PySem.W.Frag} {mg : Str → Option Value} {base : Heap}
theorem ok_want_marks (T : TB K mg) : FnG P w K mg base 5 T.f_want_marks T.d_want_marks ["bells", "marks"] (fspec K ow_want_marks 2 n_want_marks m_want_marks) := fng_d T.F_want_marks sc_want_marks rfl rfl fun cdv A outer s H hr gd => by
  unfold m_want_marks
  exact (dss_one (ds_if (dt_w (dw_or (dt_not (dt_val (de_call ((ok_is_list T).mono (by decide)) hr gd T.g_is_list T.F_is_list.kp T.b_is_list (da_cons (de_var 1) da_nil) (alen_cons alen_nil)))) (dw_or (dt_cmpR (o_gt hr.units) g_cmp (de_callB o_len g_len T.n_len (da_cons (de_var 1) da_nil)) (de_gI T.c_MOST_MARKS) (nomark _)) (dw_or1 (dt_not (dt_val (de_callB (cr_all rfl) g_all T.n_all (da_cons (de_lc (own := [("one", 2)]) rfl sc_want_marks.nd (di_seq (de_var 1)) (blkOk_by (own := [("one", 2)]) (N := nm_want_marks) (sc := (defScope s_want_marks)) (by decide +kernel)) (fun _ _ _ _ _ => (dq_name (j := 2) (b := false) sc_want_marks.nd (by decide))) (fun _ _ _ _ _ => dts_nil) (fun _ _ _ _ _ => (de_call ((ok_is_mark_of T).mono (by decide)) hr gd T.g_is_mark_of T.F_is_mark_of.kp T.b_is_mark_of (da_cons (de_var 0) (da_cons (de_var 2) da_nil)) (alen_cons (alen_cons alen_nil)))) (by decide) (by decide)) da_nil)))))))) (dss_one ds_stop) dss_nil))
end
end Pwk91

set_option Elab.async false
set_option linter.all false
set_option maxRecDepth 100000
set_option maxHeartbeats 4000000
namespace Pwk91
open PySem PySem.Spec PyProof.Rows L2 Pw
section
variable {P : Program} {w : World} {K : PySem.W.Frag} {mg : Str → Option Value} {base : Heap}
theorem ok_rounds_of (T : TB K mg) : FnG P w K mg base 1 T.f_rounds_of T.d_rounds_of ["bells"] (fspec K ow_rounds_of 1 n_rounds_of m_rounds_of) := fng_d T.F_rounds_of sc_rounds_of rfl rfl fun cdv A outer s H hr gd => by
  unfold m_rounds_of
  exact (dss_one (ds_ret (de_rgT rfl T.n_tuple (dg_1 T.n_range (de_var 0)))))
end
end Pwk91

set_option Elab.async false
set_option linter.all false
set_option maxRecDepth 100000
set_option maxHeartbeats 4000000
namespace Pwk91
open PySem PySem.Spec PyProof.Rows L2 Pw
section
variable {P : Program} {w : World} {K : PySem.W.Frag} {mg : Str → Option Value} {base : Heap}
theorem ok_all_rows (T : TB K mg) : FnG P w K mg base 2 T.f_all_rows T.d_all_rows ["bells"] (fspec K ow_all_rows 1 n_all_rows m_all_rows) := fng_d T.F_all_rows sc_all_rows rfl rfl fun cdv A outer s H hr gd => by
  unfold m_all_rows
  exact (dss_cons (ds_set (de_lst (da_cons (de_tup da_nil) da_nil)) (dq_name (j := 1) (b := true) sc_all_rows.nd (by decide))) (dss_cons (ds_for PassesOwn.never rfl (di_rg (dg_1 T.n_range (de_var 0))) (dq_name (j := 2) (b := false) sc_all_rows.nd (by decide)) (dss_cons (ds_set (de_lst da_nil) (dq_name (j := 3) (b := true) sc_all_rows.nd (by decide))) (dss_cons (ds_for PassesOwn.never rfl (di_seq (de_frz (de_var 1))) (dq_name (j := 4) (b := false) sc_all_rows.nd (by decide)) (dss_one (ds_expr (de_mtl F.slot_list_extend F.type_list_extend mt_extF g_ext (de_var 3) (da_cons (de_frz (de_lc (own := [("bell", 5)]) rfl sc_all_rows.nd (di_seq (de_call ((ok_rounds_of T).mono (by decide)) hr gd T.g_rounds_of T.F_rounds_of.kp T.b_rounds_of (da_cons (de_var 0) da_nil) (alen_cons alen_nil))) (blkOk_by (own := [("bell", 5)]) (N := nm_all_rows) (sc := (defScope s_all_rows)) (by decide +kernel)) (fun _ _ _ _ _ => (dq_name (j := 5) (b := false) sc_all_rows.nd (by decide))) (fun _ _ _ _ _ => (dts_one (dt_cmpR (o_notIn hr.units) g_notIn (de_var 5) (de_var 4) (by with_unfolding_all rfl)))) (fun _ _ _ _ _ => (de_op2 o_add g_add (de_var 4) (de_tup (da_cons (de_var 5) da_nil)))) (by decide) (by decide))) da_nil))))) (dss_one (ds_set (de_frz (de_var 3)) (dq_name (j := 1) (b := true) sc_all_rows.nd (by decide))))))) (dss_one (ds_ret (de_var 1)))))
end
end Pwk91

set_option Elab.async false
set_option linter.all false
set_option maxRecDepth 100000
set_option maxHeartbeats 4000000
namespace Pwk91
open PySem PySem.Spec PyProof.Rows L2 Pw
section
variable {P : Program} {w : World} {K : PySem.W.Frag} {mg : Str → Option Value} {base : Heap}
theorem ok_rows_with (T : TB K mg) : FnG P w K mg base 6 T.f_rows_with T.d_rows_with ["bells", "marks"] (fspec K ow_rows_with 2 n_rows_with m_rows_with) := fng_d T.F_rows_with sc_rows_with rfl rfl fun cdv A outer s H hr gd => by
  unfold m_rows_with
  exact (dss_cons (ds_expr (de_call ((ok_want_bells T).mono (by decide)) hr gd T.g_want_bells T.F_want_bells.kp T.b_want_bells (da_cons (de_var 0) da_nil) (alen_cons alen_nil))) (dss_cons (ds_expr (de_call ((ok_want_marks T).mono (by decide)) hr gd T.g_want_marks T.F_want_marks.kp T.b_want_marks (da_cons (de_var 0) (da_cons (de_var 1) da_nil)) (alen_cons (alen_cons alen_nil)))) (dss_one (ds_ret (de_lc (own := [("row", 2)]) rfl sc_rows_with.nd (di_seq (de_frz (de_call ((ok_all_rows T).mono (by decide)) hr gd T.g_all_rows T.F_all_rows.kp T.b_all_rows (da_cons (de_var 0) da_nil) (alen_cons alen_nil)))) (blkOk_by (own := [("row", 2)]) (N := nm_rows_with) (sc := (defScope s_rows_with)) (by decide +kernel)) (fun _ _ _ _ _ => (dq_name (j := 2) (b := false) sc_rows_with.nd (by decide))) (fun _ _ _ _ _ => (dts_one (dt_val (de_callB (cr_all rfl) g_all T.n_all (da_cons (de_lc (own := [("mark", 3)]) rfl sc_rows_with.nd (di_seq (de_var 1)) (blkOk_by (own := [("mark", 3)]) (N := nm_rows_with) (sc := (relS {
                      kind := PySem.ScopeKind.function,
                      names := [
                        (PySem.Str.ofString ".0", PySem.NameKind.local),
                        (PySem.Str.ofString "row", PySem.NameKind.cell),
                        (PySem.Str.ofString "all", PySem.NameKind.globalImplicit),
                        (PySem.Str.ofString "marks", PySem.NameKind.free)],
                      isGenerator := false,
                      isCoroutine := false,
                      more := [] : PySem.Scope } (defScope s_rows_with))) (by decide +kernel)) (fun _ _ _ _ _ => (dq_name (j := 3) (b := false) sc_rows_with.nd (by decide))) (fun _ _ _ _ _ => dts_nil) (fun _ _ _ _ _ => (de_call ((ok_does_have T).mono (by decide)) hr gd T.g_does_have T.F_does_have.kp T.b_does_have (da_cons (de_var 2) (da_cons (de_var 3) da_nil)) (alen_cons (alen_cons alen_nil)))) (by decide) (by decide)) da_nil))))) (fun _ _ _ _ _ => (de_var 2)) (by decide) (by decide))))))
end
end Pwk91

set_option Elab.async false
set_option linter.all false
set_option maxRecDepth 100000
set_option maxHeartbeats 4000000
namespace Pwk91
open PySem PySem.Spec PyProof.Rows L2 Pw
section
variable {P : Program} {w : World} {K : PySem.W.Frag} {mg : Str → Option Value} {base : Heap}
theorem ok__law_has (T : TB K mg) : FnG P w K mg base 1 T.f__law_has T.d__law_has ["row", "mark"] (fspec K ow__law_has 2 n__law_has m__law_has) := fng_d T.F__law_has sc__law_has rfl rfl fun cdv A outer s H hr gd => by
  unfold m__law_has
  exact (dss_cons (ds_if (dt_cmpR (o_eqT hr.units) g_eqT (de_ixR (o_ix (hu_of hr)) g_ix (de_var 1) de_int (fun _ _ => rfl)) de_str (nomark _)) (dss_one (ds_ret (de_callB (cr_all rfl) g_all T.n_all (da_cons (de_lc (own := [("at", 3), ("told", 4)]) rfl sc__law_has.nd (di_enum T.n_enumerate (de_ixR (o_ix (hu_of hr)) g_ix (de_var 1) de_int (fun _ _ => rfl))) (blkOk_by (own := [("at", 3), ("told", 4)]) (N := nm__law_has) (sc := (defScope s__law_has)) (by decide +kernel)) (fun _ _ _ _ _ => (dq_tup rfl (dqs_cons (dq_name (j := 3) (b := false) sc__law_has.nd (by decide)) (dqs_cons (dq_name (j := 4) (b := false) sc__law_has.nd (by decide)) dqs_nil)))) (fun _ _ _ _ _ => dts_nil) (fun _ _ _ _ _ => (de_or (de_cmpR op_isN g_is (de_var 4) de_non (nomark _)) (de_one (de_cmpR (o_eqT hr.units) g_eqT (de_ixR (o_ix (hu_of hr)) g_ix (de_var 0) (de_var 3) (fun _ _ => rfl)) (de_var 4) (nomark _))))) (by decide) (by decide)) da_nil)))) dss_nil) (dss_cons (ds_set (de_cut (de_var 0) (do_some (de_ixR (o_ix (hu_of hr)) g_ix (de_var 1) de_int (fun _ _ => rfl))) (do_some (de_op2 o_add g_add (de_ixR (o_ix (hu_of hr)) g_ix (de_var 1) de_int (fun _ _ => rfl)) (de_ixR (o_ix (hu_of hr)) g_ix (de_var 1) de_int (fun _ _ => rfl))))) (dq_name (j := 2) (b := true) sc__law_has.nd (by decide))) (dss_one (ds_ret (de_cmpR (o_eqT hr.units) g_eqT (de_var 2) (de_callT call_tuple_of g_tup T.n_tuple (da_cons (de_lc (own := [("at", 3)]) rfl sc__law_has.nd (di_rg (dg_1 T.n_range (de_ixR (o_ix (hu_of hr)) g_ix (de_var 1) de_int (fun _ _ => rfl)))) (blkOk_by (own := [("at", 3)]) (N := nm__law_has) (sc := (defScope s__law_has)) (by decide +kernel)) (fun _ _ _ _ _ => (dq_name (j := 3) (b := false) sc__law_has.nd (by decide))) (fun _ _ _ _ _ => dts_nil) (fun _ _ _ _ _ => (de_frz (de_op2 o_add g_add (de_ixR (o_ix (hu_of hr)) g_ix (de_var 2) de_int (fun _ _ => rfl)) (de_ifx (dt_cmpR (o_eqT hr.units) g_eqT (de_ixR (o_ix (hu_of hr)) g_ix (de_var 1) de_int (fun _ _ => rfl)) de_str (nomark _)) (de_var 3) (de_op2 op_sub g_sub de_int (de_var 3)))))) (by decide) (by decide)) da_nil)) (nomark _))))))
end
end Pwk91

set_option Elab.async false
set_option linter.all false
set_option maxRecDepth 100000
set_option maxHeartbeats 4000000
namespace Pwk91
open PySem PySem.Spec PyProof.Rows L2 Pw
section
variable {P : Program} {w : World} {K : PySem.W.Frag} {mg : Str → Option Value} {base : Heap}
theorem ok__law_marks_right (T : TB K mg) : FnG P w K mg base 7 T.f__law_marks_right T.d__law_marks_right ["pot", "bells", "marks"] (fspec K ow__law_marks_right 3 n__law_marks_right m__law_marks_right) := fng_d T.F__law_marks_right sc__law_marks_right rfl rfl fun cdv A outer s H hr gd => by
  unfold m__law_marks_right
  exact (dss_cons (ds_set (de_call ((ok__law_all T).mono (by decide)) hr gd T.g__law_all T.F__law_all.kp T.b__law_all (da_cons (de_var 1) da_nil) (alen_cons alen_nil)) (dq_name (j := 3) (b := true) sc__law_marks_right.nd (by decide))) (dss_cons (ds_par (i := 6) (j := 7) (bi := true) (bj := false) rfl sc__law_marks_right.nd (by decide) (by decide) (da_cons (de_lc (own := [("row", 4)]) rfl sc__law_marks_right.nd (di_seq (de_frz (de_var 3))) (blkOk_by (own := [("row", 4)]) (N := nm__law_marks_right) (sc := (defScope s__law_marks_right)) (by decide +kernel)) (fun _ _ _ _ _ => (dq_name (j := 4) (b := false) sc__law_marks_right.nd (by decide))) (fun _ _ _ _ _ => (dts_one (dt_val (de_callB (cr_all rfl) g_all T.n_all (da_cons (de_lc (own := [("mark", 5)]) rfl sc__law_marks_right.nd (di_seq (de_var 2)) (blkOk_by (own := [("mark", 5)]) (N := nm__law_marks_right) (sc := (relS {
                        kind := PySem.ScopeKind.function,
                        names := [
                          (PySem.Str.ofString ".0", PySem.NameKind.local),
                          (PySem.Str.ofString "row", PySem.NameKind.cell),
                          (PySem.Str.ofString "all", PySem.NameKind.globalImplicit),
                          (PySem.Str.ofString "marks", PySem.NameKind.free)],
                        isGenerator := false,
                        isCoroutine := false,
                        more := [] : PySem.Scope } (defScope s__law_marks_right))) (by decide +kernel)) (fun _ _ _ _ _ => (dq_name (j := 5) (b := false) sc__law_marks_right.nd (by decide))) (fun _ _ _ _ _ => dts_nil) (fun _ _ _ _ _ => (de_call ((ok__law_has T).mono (by decide)) hr gd T.g__law_has T.F__law_has.kp T.b__law_has (da_cons (de_var 4) (da_cons (de_var 5) da_nil)) (alen_cons (alen_cons alen_nil)))) (by decide) (by decide)) da_nil))))) (fun _ _ _ _ _ => (de_var 4)) (by decide) (by decide)) (da_cons (de_callB (o_show gd hr.units) g_show T.n_repr (da_cons (de_var 2) da_nil)) da_nil))) (dss_cons (ds_set (de_call ((ok_rows_with T).mono (by decide)) hr gd T.g_rows_with T.F_rows_with.kp T.b_rows_with (da_cons (de_var 1) (da_cons (de_var 2) da_nil)) (alen_cons (alen_cons alen_nil))) (dq_name (j := 8) (b := true) sc__law_marks_right.nd (by decide))) (dss_cons (ds_if (dt_cmpR (o_neT hr.units) g_neT (de_showL gd hr.units T.n_repr (da_cons (de_var 8) (da_cons (de_callK ((ok_rows_with T).mono (by decide)) hr gd T.g_rows_with T.F_rows_with.kp T.k0_rows_with (dk_cons (de_callT call_tuple_of g_tup T.n_tuple (da_cons (de_var 2) da_nil)) (dk_cons (de_var 1) dk_nil)) (alen_cons (alen_cons alen_nil)) (fun rs h => by match rs, h with | [_, _], _ => rfl)) da_nil))) (de_showL gd hr.units T.n_repr (da_cons (de_var 6) (da_cons (de_var 6) da_nil))) (nomark _)) (dss_one (ds_ret de_bl)) dss_nil) (dss_cons (ds_expr (de_mtl F.slot_list_append F.type_list_append mt_append g_app (de_var 8) (da_cons de_non da_nil))) (dss_cons (ds_set (de_callP ((ok__law_pick T).mono (by decide)) hr gd T.g__law_pick T.F__law_pick.kp T.b__law_pick (da_cons (de_var 0) (da_cons (de_frz (de_var 3)) da_nil)) (alen_cons (alen_cons alen_nil))) (dq_name (j := 4) (b := false) sc__law_marks_right.nd (by decide))) (dss_cons (ds_for PassesOwn.never rfl (di_seq (de_var 2)) (dq_name (j := 5) (b := false) sc__law_marks_right.nd (by decide)) (dss_cons (ds_set (de_call ((ok__law_has T).mono (by decide)) hr gd T.g__law_has T.F__law_has.kp T.b__law_has (da_cons (de_var 4) (da_cons (de_var 5) da_nil)) (alen_cons (alen_cons alen_nil))) (dq_name (j := 9) (b := false) sc__law_marks_right.nd (by decide))) (dss_one (ds_if (dt_cmpR (o_neT hr.units) g_neT (de_showL gd hr.units T.n_repr (da_cons (de_call ((ok_has_mark T).mono (by decide)) hr gd T.g_has_mark T.F_has_mark.kp T.b_has_mark (da_cons (de_var 1) (da_cons (de_var 4) (da_cons (de_var 5) da_nil))) (alen_cons (alen_cons (alen_cons alen_nil)))) (da_cons (de_callK ((ok_has_mark T).mono (by decide)) hr gd T.g_has_mark T.F_has_mark.kp T.k0_has_mark (dk_cons (de_var 5) (dk_cons (de_var 4) (dk_cons (de_var 1) dk_nil))) (alen_cons (alen_cons (alen_cons alen_nil))) (fun rs h => by match rs, h with | [_, _, _], _ => rfl)) da_nil))) (de_showL gd hr.units T.n_repr (da_cons (de_var 9) (da_cons (de_var 9) da_nil))) (nomark _)) (dss_one (ds_ret de_bl)) dss_nil)))) (dss_one (ds_ret (de_and (de_cmpR (o_eqT hr.units) g_eqT (de_callB (o_show gd hr.units) g_show T.n_repr (da_cons (de_call ((ok_rows_with T).mono (by decide)) hr gd T.g_rows_with T.F_rows_with.kp T.b_rows_with (da_cons (de_var 1) (da_cons (de_var 2) da_nil)) (alen_cons (alen_cons alen_nil))) da_nil)) (de_callB (o_show gd hr.units) g_show T.n_repr (da_cons (de_var 6) da_nil)) (nomark _)) (de_one (de_cmpR (o_eqT hr.units) g_eqT (de_callB (o_show gd hr.units) g_show T.n_repr (da_cons (de_var 2) da_nil)) (de_var 7) (nomark _)))))))))))))
end
end Pwk91

set_option Elab.async false
set_option linter.all false
set_option maxRecDepth 100000
set_option maxHeartbeats 4000000
namespace Pwk91
open PySem PySem.Spec PyProof.Rows L2 Pw
section
variable {P : Program} {w : World} {K : PySem.W.Frag} {mg : Str → Option Value} {base : Heap}
theorem ok__law_six_right (T : TB K mg) : FnG P w K mg base 7 T.f__law_six_right T.d__law_six_right ["pot"] (fspec K ow__law_six_right 1 n__law_six_right m__law_six_right) := fng_d T.F__law_six_right sc__law_six_right rfl rfl fun cdv A outer s H hr gd => by
  unfold m__law_six_right
  exact (dss_cons (ds_set (de_tup (da_cons (de_op2 o_add g_add de_int (de_callP ((ok__law_draw T).mono (by decide)) hr gd T.g__law_draw T.F__law_draw.kp T.b__law_draw (da_cons (de_var 0) (da_cons de_int da_nil)) (alen_cons (alen_cons alen_nil)))) (da_cons de_int da_nil))) (dq_tup rfl (dqs_cons (dq_name (j := 1) (b := false) sc__law_six_right.nd (by decide)) (dqs_cons (dq_name (j := 2) (b := false) sc__law_six_right.nd (by decide)) dqs_nil)))) (dss_cons (ds_set (de_callP ((ok__law_draw T).mono (by decide)) hr gd T.g__law_draw T.F__law_draw.kp T.b__law_draw (da_cons (de_var 0) (da_cons (de_op2 op_sub g_sub de_int (de_var 1)) da_nil)) (alen_cons (alen_cons alen_nil))) (dq_name (j := 3) (b := false) sc__law_six_right.nd (by decide))) (dss_cons (ds_for PassesOwn.never rfl (di_rg (dg_1 T.n_range (de_op2 op_sub g_sub de_int (de_var 1)))) (dq_name (j := 4) (b := false) sc__law_six_right.nd (by decide)) (dss_one (ds_set (de_op2 o_mul g_mul (de_var 2) (de_op2 o_add g_add (de_var 4) de_int)) (dq_name (j := 2) (b := false) sc__law_six_right.nd (by decide))))) (dss_cons (ds_set (de_callT call_tuple_of g_tup T.n_tuple (da_cons (de_lc (own := [("at", 8)]) rfl sc__law_six_right.nd (di_rg (dg_1 T.n_range de_int)) (blkOk_by (own := [("at", 8)]) (N := nm__law_six_right) (sc := (defScope s__law_six_right)) (by decide +kernel)) (fun _ _ _ _ _ => (dq_name (j := 8) (b := false) sc__law_six_right.nd (by decide))) (fun _ _ _ _ _ => dts_nil) (fun _ _ _ _ _ => (de_op2 op_sub g_sub de_int (de_var 8))) (by decide) (by decide)) da_nil)) (dq_name (j := 5) (b := false) sc__law_six_right.nd (by decide))) (dss_cons (ds_set (de_tup (da_cons de_str (da_cons (de_callT call_tuple_of g_tup T.n_tuple (da_cons (de_lc (own := [("at", 8)]) rfl sc__law_six_right.nd (di_rg (dg_1 T.n_range de_int)) (blkOk_by (own := [("at", 8)]) (N := nm__law_six_right) (sc := (defScope s__law_six_right)) (by decide +kernel)) (fun _ _ _ _ _ => (dq_name (j := 8) (b := false) sc__law_six_right.nd (by decide))) (fun _ _ _ _ _ => dts_nil) (fun _ _ _ _ _ => (de_ifx (dt_chain (o_le hr.units) g_cmp (o_lt hr.units) g_cmp (de_var 3) (de_var 8) (de_op2 o_add g_add (de_var 3) (de_var 1))) (de_ixR (o_ix (hu_of hr)) g_ix (de_var 5) (de_var 8) (fun _ _ => rfl)) de_non)) (by decide) (by decide)) da_nil)) da_nil))) (dq_name (j := 6) (b := false) sc__law_six_right.nd (by decide))) (dss_cons (ds_set (de_call ((ok_rows_with T).mono (by decide)) hr gd T.g_rows_with T.F_rows_with.kp T.b_rows_with (da_cons de_int (da_cons (de_frz (de_lst (da_cons (de_tup (da_cons de_str (da_cons (de_callP ((ok__law_pick T).mono (by decide)) hr gd T.g__law_pick T.F__law_pick.kp T.b__law_pick (da_cons (de_var 0) (da_cons (de_frz (de_lst (da_cons de_str (da_cons de_str da_nil)))) da_nil)) (alen_cons (alen_cons alen_nil))) (da_cons (de_var 3) (da_cons (de_var 1) da_nil))))) da_nil))) da_nil)) (alen_cons (alen_cons alen_nil))) (dq_name (j := 7) (b := true) sc__law_six_right.nd (by decide))) (dss_one (ds_ret (de_and (de_cmpR (o_eqT hr.units) g_eqT (de_callB o_len g_len T.n_len (da_cons (de_call ((ok_rows_with T).mono (by decide)) hr gd T.g_rows_with T.F_rows_with.kp T.b_rows_with (da_cons de_int (da_cons (de_frz (de_lst (da_cons (de_var 6) da_nil))) da_nil)) (alen_cons (alen_cons alen_nil))) da_nil)) (de_var 2) (nomark _)) (de_one (de_cmpR (o_eqT hr.units) g_eqT (de_callB o_len g_len T.n_len (da_cons (de_var 7) da_nil)) (de_op2 o_mul g_mul (de_var 2) (de_op2 op_sub g_sub de_int (de_var 1))) (nomark _))))))))))))
end
end Pwk91

set_option Elab.async false
set_option linter.all false
set_option maxRecDepth 100000
set_option maxHeartbeats 4000000
namespace Pwk91
open PySem PySem.Spec PyProof.Rows L2 Pw
section
variable {P : Program} {w : World} {K : PySem.W.Frag} {mg : Str → Option Value} {base : Heap}
theorem ok__law_right (T : TB K mg) : FnG P w K mg base 8 T.f__law_right T.d__law_right ["pot"] (fspec K ow__law_right 1 n__law_right m__law_right) := fng_d T.F__law_right sc__law_right rfl rfl fun cdv A outer s H hr gd => by
  unfold m__law_right
  exact (dss_cons (ds_set (de_op2 o_add g_add de_int (de_callP ((ok__law_draw T).mono (by decide)) hr gd T.g__law_draw T.F__law_draw.kp T.b__law_draw (da_cons (de_var 0) (da_cons de_int da_nil)) (alen_cons (alen_cons alen_nil)))) (dq_name (j := 1) (b := false) sc__law_right.nd (by decide))) (dss_cons (ds_setLc (own := [("turn", 9)]) (i := 2) (bi := true) rfl sc__law_right.nd (by decide) rfl rfl (sw_true rfl rfl rfl rfl) (di_rg (dg_1 T.n_range (de_callP ((ok__law_draw T).mono (by decide)) hr gd T.g__law_draw T.F__law_draw.kp T.b__law_draw (da_cons (de_var 0) (da_cons de_int da_nil)) (alen_cons (alen_cons alen_nil))))) (blkOk_by (own := [("turn", 9)]) (N := nm__law_right) (sc := (defScope s__law_right)) (by decide +kernel)) (fun _ _ _ _ _ => (dq_name (j := 9) (b := false) sc__law_right.nd (by decide))) (fun _ _ _ _ _ => dts_nil) (fun _ _ _ _ _ => (de_callP ((ok__law_mark T).mono (by decide)) hr gd T.g__law_mark T.F__law_mark.kp T.b__law_mark (da_cons (de_var 0) (da_cons (de_var 1) da_nil)) (alen_cons (alen_cons alen_nil)))) (by decide) (by decide)) (dss_cons (ds_set (de_op2 o_add g_add (de_op2 o_add g_add (de_var 2) (de_lc (own := [("one", 10)]) rfl sc__law_right.nd (di_seq (de_frz (de_var 2))) (blkOk_by (own := [("one", 10)]) (N := nm__law_right) (sc := (defScope s__law_right)) (by decide +kernel)) (fun _ _ _ _ _ => (dq_name (j := 10) (b := false) sc__law_right.nd (by decide))) (fun _ _ _ _ _ => dts_nil) (fun _ _ _ _ _ => (de_frz (de_callT call_list_of g_lst T.n_list (da_cons (de_var 10) da_nil)))) (by decide) (by decide))) (de_lst (da_cons de_non (da_cons de_int (da_cons de_str (da_cons (de_tup da_nil) (da_cons (de_tup (da_cons de_str da_nil)) (da_cons (de_tup (da_cons de_str (da_cons de_str (da_cons de_int da_nil)))) (da_cons (de_tup (da_cons de_str (da_cons (de_op2 o_mul g_mul (de_tup (da_cons de_non da_nil)) (de_var 1)) da_nil))) (da_cons (de_tup (da_cons de_str (da_cons (de_op2 o_mul g_mul (de_tup (da_cons de_int da_nil)) (de_var 1)) da_nil))) (da_cons (de_tup (da_cons de_str (da_cons (de_rgT rfl T.n_tuple (dg_1 T.n_range (de_op2 o_add g_add (de_var 1) de_int))) da_nil))) da_nil))))))))))) (dq_name (j := 3) (b := true) sc__law_right.nd (by decide))) (dss_cons (ds_for PassesOwn.never rfl (di_seq (de_tup (da_cons de_str (da_cons de_str (da_cons de_str da_nil))))) (dq_name (j := 4) (b := false) sc__law_right.nd (by decide)) (dss_one (ds_for PassesOwn.never rfl (di_seq (de_tup (da_cons de_int (da_cons (de_op2 op_sub g_sub (de_var 1) de_int) (da_cons (de_op2 op_sub g_sub (de_var 1) de_int) (da_cons (de_un un_neg g_neg de_int) da_nil)))))) (dq_name (j := 5) (b := false) sc__law_right.nd (by decide)) (dss_one (ds_expr (de_mtl F.slot_list_extend F.type_list_extend mt_extF g_ext (de_var 3) (da_cons (de_frz (de_lc (own := [("size", 11)]) rfl sc__law_right.nd (di_seq (de_tup (da_cons de_int (da_cons de_int (da_cons de_int (da_cons (de_var 1) (da_cons (de_op2 o_add g_add (de_var 1) de_int) (da_cons de_bl da_nil)))))))) (blkOk_by (own := [("size", 11)]) (N := nm__law_right) (sc := (defScope s__law_right)) (by decide +kernel)) (fun _ _ _ _ _ => (dq_name (j := 11) (b := false) sc__law_right.nd (by decide))) (fun _ _ _ _ _ => dts_nil) (fun _ _ _ _ _ => (de_tup (da_cons de_str (da_cons (de_var 4) (da_cons (de_var 5) (da_cons (de_var 11) da_nil)))))) (by decide) (by decide))) da_nil))))))) (dss_cons (ds_for PassesOwn.never rfl (di_seq (de_frz (de_op2 o_add g_add (de_var 3) (de_lc (own := [("turn", 9)]) rfl sc__law_right.nd (di_rg (dg_1 T.n_range de_int)) (blkOk_by (own := [("turn", 9)]) (N := nm__law_right) (sc := (defScope s__law_right)) (by decide +kernel)) (fun _ _ _ _ _ => (dq_name (j := 9) (b := false) sc__law_right.nd (by decide))) (fun _ _ _ _ _ => dts_nil) (fun _ _ _ _ _ => (de_frz (de_callP ((ok__law_bent T 4).mono (by decide)) hr gd T.g__law_bent T.F__law_bent.kp T.b__law_bent (da_cons (de_var 0) (da_cons (de_callP ((ok__law_mark T).mono (by decide)) hr gd T.g__law_mark T.F__law_mark.kp T.b__law_mark (da_cons (de_var 0) (da_cons (de_var 1) da_nil)) (alen_cons (alen_cons alen_nil))) da_nil)) (alen_cons (alen_cons alen_nil))))) (by decide) (by decide))))) (dq_name (j := 6) (b := false) sc__law_right.nd (by decide)) (dss_cons (ds_par (i := 7) (j := 8) (bi := false) (bj := false) rfl sc__law_right.nd (by decide) (by decide) (da_cons (de_call ((ok__law_is_mark T).mono (by decide)) hr gd T.g__law_is_mark T.F__law_is_mark.kp T.b__law_is_mark (da_cons (de_var 1) (da_cons (de_var 6) da_nil)) (alen_cons (alen_cons alen_nil))) (da_cons (de_callB (o_show gd hr.units) g_show T.n_repr (da_cons (de_var 6) da_nil)) da_nil))) (dss_one (ds_if (dt_w (dw_or (dt_cmpR (o_neT hr.units) g_neT (de_showL gd hr.units T.n_repr (da_cons (de_call ((ok_is_mark T).mono (by decide)) hr gd T.g_is_mark T.F_is_mark.kp T.b_is_mark (da_cons (de_var 1) (da_cons (de_var 6) da_nil)) (alen_cons (alen_cons alen_nil))) (da_cons (de_callK ((ok_is_mark T).mono (by decide)) hr gd T.g_is_mark T.F_is_mark.kp T.k0_is_mark (dk_cons (de_var 6) (dk_cons (de_var 1) dk_nil)) (alen_cons (alen_cons alen_nil)) (fun rs h => by match rs, h with | [_, _], _ => rfl)) da_nil))) (de_showL gd hr.units T.n_repr (da_cons (de_var 7) (da_cons (de_var 7) da_nil))) (nomark _)) (dw_or1 (dt_cmpR (o_neT hr.units) g_neT (de_callB (o_show gd hr.units) g_show T.n_repr (da_cons (de_var 6) da_nil)) (de_var 8) (nomark _))))) (dss_one (ds_ret de_bl)) dss_nil)))) (dss_one (ds_ret (de_and (de_callP ((ok__law_marks_right T).mono (by decide)) hr gd T.g__law_marks_right T.F__law_marks_right.kp T.b__law_marks_right (da_cons (de_var 0) (da_cons (de_var 1) (da_cons (de_frz (de_var 2)) da_nil))) (alen_cons (alen_cons (alen_cons alen_nil)))) (de_one (de_or (de_cmpR (o_gt hr.units) g_cmp (de_callP ((ok__law_draw T).mono (by decide)) hr gd T.g__law_draw T.F__law_draw.kp T.b__law_draw (da_cons (de_var 0) (da_cons de_int da_nil)) (alen_cons (alen_cons alen_nil))) de_int (nomark _)) (de_one (de_callP ((ok__law_six_right T).mono (by decide)) hr gd T.g__law_six_right T.F__law_six_right.kp T.b__law_six_right (da_cons (de_var 0) da_nil) (alen_cons alen_nil)))))))))))))
end
end Pwk91

set_option Elab.async false
set_option linter.all false
set_option maxRecDepth 100000
set_option maxHeartbeats 4000000
namespace Pwk91
open PySem PySem.Spec PyProof.Rows L2 Pw
section
variable {P : Program} {w : World} {K : PySem.W.Frag} {mg : Str → Option Value} {base : Heap}
theorem ok_law (T : TB K mg) : FnG P w K mg base 9 T.f_law T.d_law ["script"] (fspec K ow_law 1 n_law m_law) := fng_d T.F_law sc_law rfl rfl fun cdv A outer s H hr gd => by
  unfold m_law
  exact (dss_one (ds_ret (de_callB (cr_all rfl) g_all T.n_all (da_cons (de_lc (own := [("k", 1)]) rfl sc_law.nd (di_rg (dg_1 T.n_range (de_callB (call_max2 rfl) g_max2 T.n_max (da_cons de_int (da_cons (de_callB (call_min2 rfl) g_min2 T.n_min (da_cons de_int (da_cons (de_callB o_len g_len T.n_len (da_cons (de_var 0) da_nil)) da_nil))) da_nil))))) (blkOk_by (own := [("k", 1)]) (N := nm_law) (sc := (defScope s_law)) (by decide +kernel)) (fun _ _ _ _ _ => (dq_name (j := 1) (b := false) sc_law.nd (by decide))) (fun _ _ _ _ _ => dts_nil) (fun _ _ _ _ _ => (de_callP ((ok__law_right T).mono (by decide)) hr gd T.g__law_right T.F__law_right.kp T.b__law_right (da_cons (de_call ((ok__law_pot T).mono (by decide)) hr gd T.g__law_pot T.F__law_pot.kp T.b__law_pot (da_cons (de_var 0) (da_cons (de_var 1) da_nil)) (alen_cons (alen_cons alen_nil))) da_nil) (alen_cons alen_nil))) (by decide) (by decide)) da_nil))))
end
end Pwk91

set_option Elab.async false
set_option linter.all false
set_option maxRecDepth 100000
set_option maxHeartbeats 2000000
/-! k91: reckoning. -/
namespace Pwk91
open PySem PySem.Spec PyProof.Rows L2 Pw
/-- a def run on its arguments -/
def Rn (m : MS) (n : Nat) (rs : List R) (r : R) : Prop := ∃ e', fRun m (env0 n rs) = some (r, e')
/-- a def that writes its first argument, a list -/
def RnP (m : MS) (n : Nat) (xs : List D) (rest : List R) (r : R) (ys : List D) : Prop := ∃ e', fRun m (env0 n (.pl xs :: rest)) = some (r, e') ∧ potE e' = some ys
section
variable {env tl e1 e2 e3 : En} {m ma mb : ME} {ta tb : MT} {as : MA} {n : Nat} {mc : MS} {r r1 r2 : R} {rs rest : List R} {xs ys : List D} {x y : D} {a b : Bool} {kl : Bool}
theorem ev_rn (h : EvA as env rs) (hr : Rn mc n rs r) (hd : rs.all isDK = true := by rfl) : Ev (mCall n mc as) env r := by
  obtain ⟨e', h'⟩ := hr
  exact ev_call h h' hd
theorem ev_rnK {perm : List Nat} (h : EvA as env rs) (hr : Rn mc n (pick perm rs) r) (hd : rs.all isDK = true := by rfl) : Ev (mCallK perm n mc as) env r := by
  obtain ⟨e', h'⟩ := hr
  exact ev_callK h h' hd
/-- a call that writes the pot -/
theorem to_rnP (h : EvA as (some (.pl xs) :: tl) rest) (hr : RnP mc n xs rest r ys) (hd : rest.all isDK = true := by rfl) : mCallP n mc (mACons (mVar 0) as) (some (.pl xs) :: tl) = .ok r (some (.pl ys) :: tl) := by
  obtain ⟨e', h', h2⟩ := hr
  have hv : mVar 0 (some (.pl xs) :: tl) = .ok (.vr 0) (some (.pl xs) :: tl) := rfl
  unfold mCallP mACons
  rw [hv]
  simp only [Res.bind]
  rw [show as _ = .ok rest _ from h]
  simp only [hd, if_true]
  have e0 : (some (R.pl xs) :: tl : En)[0]? = some (some (.pl xs)) := rfl
  simp only [e0, potL, h', h2, reP]
  rfl
theorem to_m2 {g : D → D → Option R} (h1 : ma env = .ok r1 e1) (h2 : mb e1 = .ok r2 e2) (hg : g x y = some r) (d1 : r1.dat kl e2 = some x := by rfl) (d2 : r2.dat kl e2 = some y := by rfl) : m2 kl g ma mb env = .ok r e2 := by
  unfold m2
  rw [h1]
  simp only [Res.bind, h2, d1, d2, hg]
theorem to_nil : mANil env = .ok [] env := rfl
theorem to_cons (h : m env = .ok r e1) (ha : as e1 = .ok rs e2) : mACons m as env = .ok (r :: rs) e2 := by
  unfold mACons
  rw [h]
  simp only [Res.bind, ha]
theorem to_mN {g : List D → Option R} (h : as env = .ok rs e1) (hg : g xs = some r) (hd : datL kl e1 rs = some xs := by rfl) : mN kl g as env = .ok r e1 := by
  unfold mN
  rw [h]
  simp only [Res.bind, hd, hg]
theorem to_tst (h : m env = .ok (.d (.bool a)) e1) : mTst m env = .ok a e1 := by
  unfold mTst
  rw [h] <;> rfl
theorem to_tup (h : as env = .ok rs e1) (hd : allD rs = some xs := by rfl) (hl : xs.length ≤ 16777216 := by simp) : mTup as env = .ok (.d (.tuple xs)) e1 := by
  unfold mTup
  rw [h]
  simp only [Res.bind, hd, if_pos hl]
theorem to_frz (h : m env = .ok (.d x) e1) : mFrz m env = .ok (.d x) e1 := by
  unfold mFrz
  rw [h] <;> rfl
theorem to_frzL (h : m env = .ok (.ol xs) e1) : mFrz m env = .ok (.d (.list xs)) e1 := by
  unfold mFrz
  rw [h] <;> rfl
theorem to_and (h : ta env = .ok a e1) (h2 : a = true → tb e1 = .ok b e2) (h3 : a = false → e2 = e1 ∧ b = false) : mAndT ta tb env = .ok b e2 := by
  unfold mAndT
  rw [h]
  cases a with
  | true => simpa [Res.bind] using h2 rfl
  | false =>
    obtain ⟨rfl, rfl⟩ := h3 rfl
    rfl
end
/-! ### numbers -/
def wi (a b : Int) : D → Bool
  | .int i => decide (a ≤ i) && decide (i ≤ b)
  | _ => false
theorem wi_int {a b : Int} {x : D} (h : wi a b x = true) : ∃ i, x = .int i ∧ a ≤ i ∧ i ≤ b := by
  cases x <;> first | (cases h; done) | skip
  rename_i i
  exact ⟨i, rfl, by simpa [wi] using h⟩
theorem r_is_integer {x : D} (h : noDict x = true) : Rn m_is_integer 1 [.d x] (.d (.bool (isIn x))) := by
  have z : fRun m_is_integer (env0 1 [.d x]) = some (.d (.bool ((isBl x || isIn x) && !isBl x)), env0 1 [.d x]) :=
    run_ret (ev_andB (et_tst (ev_m1 ev_var (isi_int h))) fun _ => ev_bv (et_not (et_tst (ev_m1 ev_var (isi_bool h)))))
  refine ⟨env0 1 [.d x], z.trans ?_⟩
  cases x <;> rfl
theorem in_ch {x : D} {a b : Int} : (isIn x && wi a b x) = wi a b x := by
  cases x <;> simp [isIn, wi]
theorem r_is_within {x : D} {a b : Int} (h : noDict x = true) : Rn m_is_within 3 [.d x, .d (.int a), .d (.int b)] (.d (.bool (wi a b x))) := by
  refine ⟨env0 3 [.d x, .d (.int a), .d (.int b)], ?_⟩
  rw [← in_ch]
  refine run_ret (ev_andB (et_tst (ev_rn (ea_cons ev_var ea_nil) (r_is_integer h))) fun e => ?_)
  cases x <;> first | (cases e; done) | skip
  exact ev_ch ev_var ev_var (fun _ => ev_var) (pLe_int _ _) fun _ => pLe_int _ _
theorem r_is_number {x : D} {a b : Int} (h : noDict x = true) : Rn m__law_is_number 3 [.d x, .d (.int a), .d (.int b)] (.d (.bool (wi a b x))) := by
  refine ⟨env0 3 [.d x, .d (.int a), .d (.int b)], ?_⟩
  have e : wi a b x = ((isBl x || isIn x) && (!isBl x && wi a b x)) := by cases x <;> rfl
  rw [e]
  refine run_ret (ev_andB (et_tst (ev_m1 ev_var (isi_int h))) fun e1 => ev_andB (et_tst (ev_bv (et_not (et_tst (ev_m1 ev_var (isi_bool h)))))) fun e2 => ?_)
  cases x <;> first | (cases e1; done) | (cases e2; done) | skip
  exact ev_ch ev_var ev_var (fun _ => ev_var) (pLe_int _ _) fun _ => pLe_int _ _
theorem r_is_bells {b : Int} : Rn m_is_bells 1 [.d (.int b)] (.d (.bool (wi 3 6 (.int b)))) :=
  ⟨_, run_ret (ev_rn (ea_cons ev_var (ea_cons ev_c (ea_cons ev_c ea_nil))) (r_is_within rfl))⟩
def BellsOk (b : Int) : Prop := 3 ≤ b ∧ b ≤ 6
theorem r_want_bells {b : Int} (h : BellsOk b) : Rn m_want_bells 1 [.d (.int b)] (.d .none) := by
  have e : wi 3 6 (.int b) = true := by simp [wi, h.1, h.2]
  have z := @r_is_bells b
  rw [e] at z
  exact ⟨_, run_nx (if_f (et_not (et_tst (ev_rn (ea_cons ev_var ea_nil) z))) rfl)⟩
def tupL (b : Int) : D → Bool
  | .tuple xs => decide ((xs.length : Int) = b)
  | _ => false
theorem r_is_tuple {x : D} {b : Int} (h : noDict x = true) : Rn m_is_tuple 2 [.d x, .d (.int b)] (.d (.bool (tupL b x))) := by
  have e : tupL b x = (isTu x && tupL b x) := by cases x <;> rfl
  rw [e]
  refine ⟨_, run_ret (ev_andB (et_tst (ev_m1 ev_var (isi_tuple h))) fun e1 => ?_)⟩
  cases x <;> first | (cases e1; done) | skip
  exact ev_m2 (ev_mN (ea_cons ev_var ea_nil) (pLen_tup _)) ev_var (pEqT_int _ _)
theorem r_is_list {x : D} (h : noDict x = true) : Rn m_is_list 1 [.d x] (.d (.bool (isLi x || isTu x))) :=
  ⟨_, run_ret (ev_m1 ev_var (isi2_lt h))⟩
end Pwk91

set_option Elab.async false
set_option linter.all false
set_option maxRecDepth 100000
set_option maxHeartbeats 2000000
/-! k91: what a mark is. -/
namespace Pwk91
open PySem PySem.Spec PyProof.Rows L2 Pw
def told (xs : List D) : List D := xs.filter fun d => !isN d
def dup (xs : List D) : Bool := match asInts (told xs) with
  | some ns => decide (((dd ns).length : Int) = (ns.length : Nat))
  | none => false
def apl (b : Int) (xs : List D) : Bool := decide ((xs.length : Int) = b) && ((told xs).all (wi 0 (b - 1)) && (decide (0 < ((told xs).length : Int)) && dup xs))
theorem wi_ints {a b : Int} : ∀ {xs : List D}, xs.all (wi a b) = true → ∃ ns : List Int, xs = ns.map PyData.int ∧ ∀ n ∈ ns, a ≤ n ∧ n ≤ b
  | [], _ => ⟨[], rfl, fun n h => nomatch h⟩
  | x :: xs, h => by
    rw [List.all_cons, Bool.and_eq_true] at h
    obtain ⟨i, rfl, h1, h2⟩ := wi_int h.1
    obtain ⟨ns, rfl, h3⟩ := wi_ints h.2
    refine ⟨i :: ns, rfl, fun n m => ?_⟩
    rcases List.mem_cons.mp m with e | e
    · subst e; exact ⟨h1, h2⟩
    · exact h3 n e
theorem told_all {f : D → Bool} {xs : List D} : (xs.all fun d => isN d || f d) = (told xs).all f := by
  unfold told
  induction xs with
  | nil => rfl
  | cons x xs ih =>
    rw [List.all_cons, ih]
    cases h : isN x with
    | true => rw [List.filter_cons_of_neg (by rw [h]; decide)]; simp
    | false => rw [List.filter_cons_of_pos (by rw [h]; rfl), List.all_cons]; simp
theorem told_len {xs : List D} : (told xs).length ≤ xs.length := List.length_filter_le _ _
theorem dup_len {xs : List D} {ns : List Int} (h : told xs = ns.map PyData.int) (hl : xs.length < 1000) : lenSet (.list (told xs)) = some (.d (.int ((dd ns).length : Nat))) := by
  have hn : ns.length < 1000 := by
    have := told_len (xs := xs)
    rw [h, List.length_map] at this
    omega
  unfold lenSet
  rw [h]
  simp only [asInts_of, if_pos hn]
theorem dup_eq {xs : List D} {ns : List Int} (h : told xs = ns.map PyData.int) : dup xs = decide (((dd ns).length : Int) = ((told xs).length : Nat)) := by
  unfold dup
  rw [h, asInts_of, List.length_map]
/-- what lies in a value's first level has no dicts -/
def NoD (xs : List D) : Prop := xs.length < 1000 ∧ ∀ y ∈ xs, noDict y = true
def aplT (b : Int) : D → Bool
  | .tuple xs => apl b xs
  | _ => false
theorem r_are_places {x : D} {b : Int} (h : noDict x = true) (hs : ∀ xs, x = .tuple xs → NoD xs) : Rn m_are_places 4 [.d (.int b), .d x] (.d (.bool (aplT b x))) := by
  by_cases ht : ∃ xs, x = .tuple xs
  case neg =>
    have e : tupL b x = false := by
      cases x <;> first | rfl | exact absurd ⟨_, rfl⟩ ht
    have e2 : aplT b x = false := by
      cases x <;> first | rfl | exact absurd ⟨_, rfl⟩ ht
    have z := @r_is_tuple x b h
    rw [e] at z
    rw [e2]
    exact ⟨_, run_rt (seq_rt (if_t (et_or (et_not (et_tst (ev_rn (ea_cons ev_var (ea_cons ev_var ea_nil)) z))) (fun e => absurd e (by decide)) : EvT _ _ (!false || false)) (ret_ev ev_c)))⟩
  obtain ⟨xs, rfl⟩ := ht
  obtain ⟨hl, hd⟩ := hs xs rfl
  have zl : Ev (mLc (mSq (mVar 1)) (qN 3 false) mYes (mOrV (mTst (m2 true pIs (mVar 3) (mC .none))) (mCall n_is_within m_is_within (mACons (mVar 3) (mACons (mC (.int 0)) (mACons (m2 true pSub (mVar 0) (mC (.int 1))) mANil))))) [3]) (env0 4 [.d (.int b), .d (.tuple xs)]) (.ol (xs.map fun d => .bool (isN d || wi 0 (b - 1) d))) :=
    ev_lcA (es_tup ev_var) (fun y hy => ⟨[some (.d (.int b)), some (.d (.tuple xs)), none, some (.d y)], rfl, ev_orB (et_tst (ev_m2 ev_var ev_c (pIs_none _))) (fun _ => ev_rn (ea_cons ev_var (ea_cons ev_c (ea_cons (ev_m2 ev_var ev_c (pSub_int _ _)) ea_nil))) (r_is_within (hd y hy))), rfl⟩) (by omega)
  have zt := et_or (et_not (et_tst (ev_rn (ea_cons (ev_var (env := env0 4 [.d (.int b), .d (.tuple xs)]) (i := 1)) (ea_cons (ev_var (i := 0)) ea_nil)) (show Rn m_is_tuple 2 _ (.d (.bool (decide ((xs.length : Int) = b)))) from @r_is_tuple (.tuple xs) b rfl))))
    (fun _ => et_not (et_tst (ev_mN (kl := true) (ea_cons zl ea_nil) (pAll_map _ _))))
  rw [told_all] at zt
  cases c1 : decide ((xs.length : Int) = b) with
  | false =>
    have e2 : aplT b (.tuple xs) = false := by simp only [aplT, apl, c1, Bool.false_and]
    rw [e2]
    simp only [c1] at zt
    exact ⟨_, run_rt (seq_rt (if_t zt (ret_ev ev_c)))⟩
  | true =>
    simp only [c1] at zt
    cases c2 : (told xs).all (wi 0 (b - 1)) with
    | false =>
      have e2 : aplT b (.tuple xs) = false := by simp only [aplT, apl, c2, Bool.false_and, Bool.and_false]
      rw [e2]
      simp only [c2] at zt
      exact ⟨_, run_rt (seq_rt (if_t zt (ret_ev ev_c)))⟩
    | true =>
      simp only [c2] at zt
      obtain ⟨ns, hns, _⟩ := wi_ints c2
      have e2 : aplT b (.tuple xs) = (decide (0 < ((told xs).length : Int)) && dup xs) := by simp only [aplT, apl, c1, c2, Bool.true_and]
      rw [e2, dup_eq hns]
      have zs : Ev (mLc (mSq (mVar 1)) (qN 3 false) (mTst (m2 true pIsNot (mVar 3) (mC .none))) (mVar 3) [3]) (env0 4 [.d (.int b), .d (.tuple xs)]) (.ol ((told xs).map id)) :=
        ev_lc (es_tup ev_var) (fun y hy => ⟨[some (.d (.int b)), some (.d (.tuple xs)), none, some (.d y)], rfl, et_tst (ev_m2 ev_var ev_c (pIsNot_none _)), fun _ => ev_var, rfl⟩) (by omega)
      rw [List.map_id] at zs
      refine ⟨_, run_rt (seq_nx (if_f zt rfl) (seq_nx (set_ev zs) (ret_ev (ev_andB (et_tst (ev_m2 (ev_mN (ea_cons ev_own ea_nil) (pLen_lst _)) ev_c (pGt_int _ _))) fun _ => ev_m2 (ev_m1 ev_own (dup_len hns hl)) (ev_mN (ea_cons ev_own ea_nil) (pLen_lst _)) (pEqT_int _ _)))))⟩
end Pwk91

set_option Elab.async false
set_option linter.all false
set_option maxRecDepth 100000
set_option maxHeartbeats 4000000
/-! k91: marks, the program's word and the law's. -/
namespace Pwk91
open PySem PySem.Spec PyProof.Rows L2 Pw
theorem _root_.Pw.EvT.to {t : MT} {env : En} {a c : Bool} (h : EvT t env a) (e : a = c) : EvT t env c := e ▸ h
theorem _root_.Pw.Ev.to {t : ME} {env : En} {a c : R} (h : Ev t env a) (e : a = c) : Ev t env c := e ▸ h
abbrev LV : List Nat := [10, 10, 10]
theorem bdl_sub {L : Nat} {Ls : List Nat} {xs : List D} (h : bdl (L :: Ls) (.tuple xs) = true) {y : D} (m : y ∈ xs) : bdl Ls y = true := (bdl_tuple.mp h).2 y m
theorem bdl_NoD {Ls : List Nat} {x : D} (h : bdl (10 :: Ls) x = true) : ∀ xs, x = .tuple xs → NoD xs := fun xs e => by
  subst e
  obtain ⟨h1, h2⟩ := bdl_tuple.mp h
  exact ⟨by omega, fun y m => bdl_noDict (h2 y m)⟩
def okRun (b : Int) : D → D → Bool
  | .int p, s => wi 0 (b - 2) (.int p) && wi 2 (b - p) s
  | _, _ => false
def isWay (v : Str) : Bool := decide ("up" = v) || decide ("down" = v)
def mk (b : Int) : D → Bool
  | .tuple [.str w, y] => decide (w = "bells") && aplT b y
  | .tuple [.str w, .str v, p, s] => decide (w = "run") && (isWay v && okRun b p s)
  | _ => false
theorem pNotIn_24 (n : Int) : pNotIn (.int n) (.tuple [.int 2, .int 4]) = some (.d (.bool (!(decide (2 = n) || decide (4 = n))))) := by
  unfold pNotIn inD
  simp [okD, okDs, PyData.eqv, bR]
  rfl
theorem pNotIn_ud {v : Str} (h : PyData.strOk v = true) : pNotIn (.str v) (.tuple [.str "up", .str "down"]) = some (.d (.bool (!isWay v))) := by
  have h1 : PyData.strOk "up" = true := by decide +kernel
  have h2 : PyData.strOk "down" = true := by decide +kernel
  unfold pNotIn inD
  simp [okD, okDs, PyData.eqv, bR, h, h1, h2, isWay]
  rfl
theorem bdl_strOk {Ls : List Nat} {v : Str} (h : bdl Ls (.str v) = true) : PyData.strOk v = true := by
  rw [bdl_str] at h
  exact (okW_all v (by simpa [okW] using h)).1
theorem way_bdl {Ls : List Nat} {y : D} (h : bdl Ls y = true) : ∀ v, y = .str v → PyData.strOk v = true := fun v e => by
  subst e
  exact bdl_strOk h
theorem st_str {y : D} (h : isSt y = true) : ∃ v, y = .str v := by
  cases y <;> first | (cases h; done) | exact ⟨_, rfl⟩
theorem mk_st {b : Int} {w : D} {ys : List D} (h : isSt w = false) : mk b (.tuple (w :: ys)) = false := by
  cases w <;> first | (cases h; done) | rfl
theorem mk_len {b : Int} {xs : List D} (h2 : xs.length ≠ 2) (h4 : xs.length ≠ 4) : mk b (.tuple xs) = false := by
  match xs, h2, h4 with
  | [], _, _ => rfl
  | [a], _, _ => cases a <;> rfl
  | [_, _], h2, _ => exact absurd rfl h2
  | [a, c, d], _, _ => cases a <;> cases c <;> rfl
  | [_, _, _, _], _, h4 => exact absurd rfl h4
  | a :: c :: d :: e :: f :: t, _, _ => cases a <;> cases c <;> rfl
theorem mk_nt {b : Int} {x : D} (h : isTu x = false) : mk b x = false := by
  cases x <;> first | (cases h; done) | rfl
theorem r_is_mark_of {x : D} {b : Int} (h : bdl LV x = true) : Rn m_is_mark_of 2 [.d (.int b), .d x] (.d (.bool (mk b x))) := by
  have hn := bdl_noDict h
  by_cases ht : isTu x = true
  case neg =>
    have ht : isTu x = false := by simpa using ht
    rw [mk_nt ht]
    exact ⟨_, run_rt (seq_rt (if_t ((et_or (et_not (et_tst (ev_m1 (ev_var (i := 1)) (isi_tuple hn)))) (b := true) (fun e => by rw [ht] at e; cases e)).to (by rw [ht]; rfl)) (ret_ev ev_c)))⟩
  cases x <;> first | (cases ht; done) | skip
  rename_i xs
  by_cases hl : xs.length = 2 ∨ xs.length = 4
  case neg =>
    have h2 : xs.length ≠ 2 := fun e => hl (.inl e)
    have h4 : xs.length ≠ 4 := fun e => hl (.inr e)
    rw [mk_len h2 h4]
    have q : (!(decide ((2 : Int) = (xs.length : Nat)) || decide ((4 : Int) = (xs.length : Nat)))) = true := by
      rw [decide_eq_false (by omega), decide_eq_false (by omega)] <;> rfl
    exact ⟨_, run_rt (seq_rt (if_t ((et_or (et_not (et_tst (ev_m1 (ev_var (i := 1)) (isi_tuple hn)))) fun _ => et_or (et_tst (ev_m2 (ev_mN (ea_cons (ev_var (i := 1)) ea_nil) (pLen_tup _)) (ev_tup (ea_cons ev_c (ea_cons ev_c ea_nil))) (pNotIn_24 _))) (b := true) (fun e => by rw [q] at e; cases e)).to (by rw [q]; rfl)) (ret_ev ev_c)))⟩
  have q : (!(decide ((2 : Int) = (xs.length : Nat)) || decide ((4 : Int) = (xs.length : Nat)))) = false := by
    rcases hl with e | e <;> rw [e] <;> rfl
  match xs, hl, h, hn, q with
  | w :: ys, hl, h, hn, q =>
  have hw := bdl_sub h List.mem_cons_self
  have t1 : EvT (mOrT (mNotT (mTst (m1 false (isiD "tuple") (mVar 1)))) (mOrT (mTst (m2 false pNotIn (mN true pLen (mACons (mVar 1) mANil)) (mTup (mACons (mC (.int 2)) (mACons (mC (.int 4)) mANil))))) (mNotT (mTst (m1 false (isiD "str") (m2 true pIx (mVar 1) (mC (.int 0)))))))) (env0 2 [.d (.int b), .d (.tuple (w :: ys))]) (!isSt w) :=
    (et_or (et_not (et_tst (ev_m1 ev_var (isi_tuple hn)))) fun _ => et_or (et_tst (ev_m2 (ev_mN (ea_cons (ev_var (i := 1)) ea_nil) (pLen_tup _)) (ev_tup (ea_cons ev_c (ea_cons ev_c ea_nil))) (pNotIn_24 _))) fun _ => et_not (et_tst (ev_m1 (ev_m2 ev_var ev_c pIx_0) (isi_str (bdl_noDict hw))))).to (by rw [q]; rfl)
  cases hs : isSt w with
  | false =>
    rw [mk_st hs]
    exact ⟨_, run_rt (seq_rt (if_t (t1.to (by rw [hs]; rfl)) (ret_ev ev_c)))⟩
  | true =>
  replace t1 := t1.to (c := false) (by rw [hs]; rfl)
  obtain ⟨w, rfl⟩ := st_str hs
  have t2 : EvT (mTst (m2 true pEqT (m2 true pIx (mVar 1) (mC (.int 0))) (mC (.str "bells")))) (env0 2 [.d (.int b), .d (.tuple (.str w :: ys))]) (decide (w = "bells")) :=
    et_tst (ev_m2 (ev_m2 ev_var ev_c pIx_0) ev_c (pEqT_str _ _))
  have t3 : EvT (mTst (m2 true pNeT (m2 true pIx (mVar 1) (mC (.int 0))) (mC (.str "run")))) (env0 2 [.d (.int b), .d (.tuple (.str w :: ys))]) (!decide (w = "run")) :=
    et_tst (ev_m2 (ev_m2 ev_var ev_c pIx_0) ev_c (pNeT_str _ _))
  have t4 : EvT (mTst (m2 true pNeT (mN true pLen (mACons (mVar 1) mANil)) (mC (.int 4)))) (env0 2 [.d (.int b), .d (.tuple (.str w :: ys))]) (!decide (((PyData.str w :: ys).length : Int) = 4)) :=
    et_tst (ev_m2 (ev_mN (ea_cons ev_var ea_nil) (pLen_tup _)) ev_c (pNeT_int _ _))
  have t5 : EvT (mTst (m2 true pEqT (mN true pLen (mACons (mVar 1) mANil)) (mC (.int 2)))) (env0 2 [.d (.int b), .d (.tuple (.str w :: ys))]) (decide (((PyData.str w :: ys).length : Int) = 2)) :=
    et_tst (ev_m2 (ev_mN (ea_cons ev_var ea_nil) (pLen_tup _)) ev_c (pEqT_int _ _))
  match ys, hl, h, t1, t2, t3, t4, t5 with
  | [y], _, h, t1, t2, t3, t4, t5 =>
    have hy := bdl_sub h (List.mem_cons_of_mem _ List.mem_cons_self)
    have e0 : mk b (.tuple [.str w, y]) = (decide (w = "bells") && aplT b y) := rfl
    rw [e0]
    by_cases hb : w = "bells"
    · rw [decide_eq_true hb, Bool.true_and]
      exact ⟨_, run_rt (seq_nx (if_f t1 rfl) (seq_rt (if_t (t2.to (decide_eq_true hb)) (ret_ev (Ev.to (ev_andB (a := true) t5 fun _ => ev_rn (ea_cons ev_var (ea_cons (ev_m2 ev_var ev_c pIx_1) ea_nil)) (r_are_places (bdl_noDict hy) (bdl_NoD hy))) (by simp))))))⟩
    · rw [decide_eq_false hb, Bool.false_and]
      exact ⟨_, run_rt (seq_nx (if_f t1 rfl) (seq_nx (if_f (t2.to (decide_eq_false hb)) rfl) (seq_rt (if_t ((et_or t3 fun _ => et_or (b := true) t4 fun e => absurd e (by simp)).to (by simp)) (ret_ev ev_c)))))⟩
  | [v, p, s], _, h, t1, t2, t3, t4, t5 =>
    have hv := bdl_sub h (List.mem_cons_of_mem _ List.mem_cons_self)
    have hp := bdl_noDict (bdl_sub h (List.mem_cons_of_mem _ (List.mem_cons_of_mem _ List.mem_cons_self)))
    have hs := bdl_noDict (bdl_sub h (List.mem_cons_of_mem _ (List.mem_cons_of_mem _ (List.mem_cons_of_mem _ List.mem_cons_self))))
    by_cases hb : w = "bells"
    · have e0 : mk b (.tuple [.str w, v, p, s]) = false := by
        subst hb
        cases v <;> rfl
      rw [e0]
      exact ⟨_, run_rt (seq_nx (if_f t1 rfl) (seq_rt (if_t (t2.to (decide_eq_true hb)) (ret_ev (Ev.to (ev_andB (b := false) t5 fun e => absurd e (by simp)) (by simp))))))⟩
    · have go : EvT (mOrT (mTst (m2 true pNeT (m2 true pIx (mVar 1) (mC (.int 0))) (mC (.str "run")))) (mOrT (mTst (m2 true pNeT (mN true pLen (mACons (mVar 1) mANil)) (mC (.int 4)))) (mOrT (mNotT (mTst (m1 false (isiD "str") (m2 true pIx (mVar 1) (mC (.int 1)))))) (mTst (m2 false pNotIn (m2 true pIx (mVar 1) (mC (.int 1))) (mTup (mACons (mC (.str "up")) (mACons (mC (.str "down")) mANil)))))))) (env0 2 [.d (.int b), .d (.tuple [.str w, v, p, s])]) true → mk b (.tuple [.str w, v, p, s]) = false → Rn m_is_mark_of 2 [.d (.int b), .d (.tuple [.str w, v, p, s])] (.d (.bool (mk b (.tuple [.str w, v, p, s])))) := fun t e => by
        rw [e]
        exact ⟨_, run_rt (seq_nx (if_f t1 rfl) (seq_nx (if_f (t2.to (decide_eq_false hb)) rfl) (seq_rt (if_t t (ret_ev ev_c)))))⟩
      by_cases hr : w = "run"
      case neg =>
        refine go ((et_or (b := true) t3 fun e => by rw [decide_eq_false hr] at e; cases e).to (by simp)) ?_
        cases v <;> first | rfl | skip
        show (decide _ && _) = false
        rw [decide_eq_false hr, Bool.false_and]
      cases hsv : isSt v with
      | false =>
        refine go ((et_or t3 fun _ => et_or t4 fun _ => et_or (b := true) (et_not (et_tst (ev_m1 (ev_m2 ev_var ev_c pIx_1) (isi_str (bdl_noDict hv))))) fun e => by rw [hsv] at e; cases e).to (by simp)) ?_
        cases v <;> first | rfl | (cases hsv; done)
      | true =>
      obtain ⟨v, rfl⟩ := st_str hsv
      have t6 : EvT (mOrT (mTst (m2 true pNeT (m2 true pIx (mVar 1) (mC (.int 0))) (mC (.str "run")))) (mOrT (mTst (m2 true pNeT (mN true pLen (mACons (mVar 1) mANil)) (mC (.int 4)))) (mOrT (mNotT (mTst (m1 false (isiD "str") (m2 true pIx (mVar 1) (mC (.int 1)))))) (mTst (m2 false pNotIn (m2 true pIx (mVar 1) (mC (.int 1))) (mTup (mACons (mC (.str "up")) (mACons (mC (.str "down")) mANil)))))))) (env0 2 [.d (.int b), .d (.tuple [.str w, .str v, p, s])]) (!isWay v) :=
        (et_or t3 fun _ => et_or t4 fun _ => et_or (et_not (et_tst (ev_m1 (ev_m2 ev_var ev_c pIx_1) (isi_str (bdl_noDict hv))))) fun _ => et_tst (ev_m2 (ev_m2 ev_var ev_c pIx_1) (ev_tup (ea_cons ev_c (ea_cons ev_c ea_nil))) (pNotIn_ud (bdl_strOk hv)))).to (by rw [hr]; simp [isSt])
      have e0 : mk b (.tuple [.str w, .str v, p, s]) = (isWay v && okRun b p s) := by
        show (decide _ && _) = _
        rw [decide_eq_true hr, Bool.true_and]
      cases hw : isWay v with
      | false => exact go (t6.to (by rw [hw]; rfl)) (by rw [e0, hw]; rfl)
      | true =>
      rw [e0, hw, Bool.true_and]
      have t7 : EvT (mNotT (mTst (mCall n_is_within m_is_within (mACons (m2 true pIx (mVar 1) (mC (.int 2))) (mACons (mC (.int 0)) (mACons (m2 true pSub (mVar 0) (mC (.int 2))) mANil)))))) (env0 2 [.d (.int b), .d (.tuple [.str w, .str v, p, s])]) (!wi 0 (b - 2) p) :=
        et_not (et_tst (ev_rn (ea_cons (ev_m2 ev_var ev_c pIx_2) (ea_cons ev_c (ea_cons (ev_m2 ev_var ev_c (pSub_int _ _)) ea_nil))) (r_is_within hp)))
      cases hi : wi 0 (b - 2) p with
      | false =>
        have e1 : okRun b p s = false := by
          cases p <;> first | rfl | (simp only [okRun, hi, Bool.false_and])
        rw [e1]
        exact ⟨_, run_rt (seq_nx (if_f t1 rfl) (seq_nx (if_f (t2.to (decide_eq_false hb)) rfl) (seq_nx (if_f (t6.to (by rw [hw]; rfl)) rfl) (seq_rt (if_t (t7.to (by rw [hi]; rfl)) (ret_ev ev_c))))))⟩
      | true =>
        obtain ⟨i, rfl, _, _⟩ := wi_int hi
        have e1 : okRun b (.int i) s = wi 2 (b - i) s := by simp only [okRun, hi, Bool.true_and]
        rw [e1]
        exact ⟨_, run_rt (seq_nx (if_f t1 rfl) (seq_nx (if_f (t2.to (decide_eq_false hb)) rfl) (seq_nx (if_f (t6.to (by rw [hw]; rfl)) rfl) (seq_nx (if_f (t7.to (by rw [hi]; rfl)) rfl) (ret_ev (ev_rn (ea_cons (ev_m2 ev_var ev_c pIx_3) (ea_cons ev_c (ea_cons (ev_m2 ev_var (ev_m2 ev_var ev_c pIx_2) (pSub_int _ _)) ea_nil))) (r_is_within hs)))))))⟩
end Pwk91

set_option Elab.async false
set_option linter.all false
set_option maxRecDepth 100000
set_option maxHeartbeats 4000000
/-! k91: the law's word on marks. -/
namespace Pwk91
open PySem PySem.Spec PyProof.Rows L2 Pw
theorem r_is_mark {x : D} {b : Int} (hb : BellsOk b) (h : bdl LV x = true) : Rn m_is_mark 2 [.d (.int b), .d x] (.d (.bool (mk b x))) :=
  ⟨_, run_rt (seq_nx (drp_ev (ev_rn (ea_cons ev_var ea_nil) (r_want_bells hb))) (ret_ev (ev_rn (ea_cons ev_var (ea_cons ev_var ea_nil)) (r_is_mark_of h))))⟩
theorem eqvAll_nil {xs : List D} : PyData.eqvAll xs [] = xs.isEmpty := by
  cases xs <;> simp [PyData.eqvAll]
theorem pEqT_nil {xs : List D} (h : okD 40 (.tuple xs) = true) : pEqT (.tuple xs) (.tuple []) = some (.d (.bool xs.isEmpty)) := by
  have h2 : okD 40 (.tuple ([] : List D)) = true := by simp [okD, okDs]
  show pEq _ _ = _
  unfold pEq
  rw [h, h2]
  simp [bR, PyData.eqv, eqvAll_nil]
theorem pNeT_nilL {xs : List D} (h : okD 40 (.list xs) = true) : pNeT (.list xs) (.list []) = some (.d (.bool (!xs.isEmpty))) := by
  have h2 : okD 40 (.list ([] : List D)) = true := by simp [okD, okDs]
  show pNe _ _ = _
  unfold pNe
  rw [h, h2]
  simp [bR, PyData.eqv, eqvAll_nil]
theorem okRun_law {b : Int} {p s : D} : okRun b p s = (wi 0 b p && (wi 2 b s && match p, s with | .int p, .int s => decide (p + s ≤ b) | _, _ => false)) := by
  cases p <;> first | rfl | skip
  cases s <;> first | (simp [okRun, wi]; done) | skip
  rename_i p s
  rw [Bool.eq_iff_iff]
  simp only [okRun, wi, Bool.and_eq_true, decide_eq_true_eq]
  omega
theorem aplT_len {b : Int} {y : D} (h : isTu y = false) : aplT b y = false := by
  cases y <;> first | rfl | (cases h; done)
theorem bdl_told {Ls : List Nat} {xs : List D} {L : Nat} (h : bdl (L :: Ls) (.tuple xs) = true) : bdl (L :: Ls) (.list (told xs)) = true := by
  obtain ⟨h1, h2⟩ := bdl_tuple.mp h
  exact bdl_list.mpr ⟨Nat.le_trans told_len h1, fun y m => h2 y (List.mem_filter.mp m).1⟩
theorem ne_len {xs : List D} : (!xs.isEmpty) = decide (0 < (xs.length : Int)) := by
  cases xs with
  | nil => rfl
  | cons a b => simp
theorem and_t {A : MT} {B : ME} {e e1 : En} (h : A e = .ok true e1) : mAndV A B e = B e1 := by
  unfold mAndV
  rw [h] <;> rfl
theorem and_f {A : MT} {B : ME} {e e1 : En} (h : A e = .ok false e1) : mAndV A B e = .ok (.d (.bool false)) e1 := by
  unfold mAndV
  rw [h] <;> rfl
theorem r_law_is_mark {x : D} {b : Int} (h : bdl LV x = true) : Rn m__law_is_mark 4 [.d (.int b), .d x] (.d (.bool (mk b x))) := by
  have hn := bdl_noDict h
  by_cases ht : isTu x = true
  case neg =>
    have ht : isTu x = false := by simpa using ht
    rw [mk_nt ht]
    exact ⟨_, run_rt (seq_rt (if_t ((et_or (et_not (et_tst (ev_m1 (ev_var (i := 1)) (isi_tuple hn)))) (b := true) (fun e => by rw [ht] at e; cases e)).to (by rw [ht]; rfl)) (ret_ev ev_c)))⟩
  cases x <;> first | (cases ht; done) | skip
  rename_i xs
  have ho := bdl_ok h
  match xs, h, hn, ho with
  | [], h, hn, ho =>
    have e0 : mk b (.tuple []) = false := rfl
    rw [e0]
    exact ⟨_, run_rt (seq_rt (if_t ((et_or (et_not (et_tst (ev_m1 (ev_var (i := 1)) (isi_tuple hn)))) fun _ => et_or (et_tst (ev_m2 ev_var (ev_tup ea_nil) (pEqT_nil ho))) (b := true) (fun e => by cases e)).to (by simp)) (ret_ev ev_c)))⟩
  | w :: ys, h, hn, ho =>
  have hw := bdl_sub h List.mem_cons_self
  have t1 : EvT (mOrT (mNotT (mTst (m1 false (isiD "tuple") (mVar 1)))) (mOrT (mTst (m2 true pEqT (mVar 1) (mTup mANil))) (mNotT (mTst (m1 false (isiD "str") (m2 true pIx (mVar 1) (mC (.int 0)))))))) (env0 4 [.d (.int b), .d (.tuple (w :: ys))]) (!isSt w) :=
    (et_or (et_not (et_tst (ev_m1 ev_var (isi_tuple hn)))) fun _ => et_or (et_tst (ev_m2 ev_var (ev_tup ea_nil) (pEqT_nil ho))) fun _ => et_not (et_tst (ev_m1 (ev_m2 ev_var ev_c pIx_0) (isi_str (bdl_noDict hw))))).to (by simp [isTu])
  cases hs : isSt w with
  | false =>
    rw [mk_st hs]
    exact ⟨_, run_rt (seq_rt (if_t (t1.to (by rw [hs]; rfl)) (ret_ev ev_c)))⟩
  | true =>
  replace t1 := t1.to (c := false) (by rw [hs]; rfl)
  obtain ⟨w, rfl⟩ := st_str hs
  have t2 : EvT (mTst (m2 true pEqT (m2 true pIx (mVar 1) (mC (.int 0))) (mC (.str "bells")))) (env0 4 [.d (.int b), .d (.tuple (.str w :: ys))]) (decide (w = "bells")) :=
    et_tst (ev_m2 (ev_m2 ev_var ev_c pIx_0) ev_c (pEqT_str _ _))
  have t3 : EvT (mTst (m2 true pNeT (m2 true pIx (mVar 1) (mC (.int 0))) (mC (.str "run")))) (env0 4 [.d (.int b), .d (.tuple (.str w :: ys))]) (!decide (w = "run")) :=
    et_tst (ev_m2 (ev_m2 ev_var ev_c pIx_0) ev_c (pNeT_str _ _))
  have t4 : EvT (mTst (m2 true pNeT (mN true pLen (mACons (mVar 1) mANil)) (mC (.int 4)))) (env0 4 [.d (.int b), .d (.tuple (.str w :: ys))]) (!decide (((PyData.str w :: ys).length : Int) = 4)) :=
    et_tst (ev_m2 (ev_mN (ea_cons ev_var ea_nil) (pLen_tup _)) ev_c (pNeT_int _ _))
  have t5 : EvT (mTst (m2 true pNeT (mN true pLen (mACons (mVar 1) mANil)) (mC (.int 2)))) (env0 4 [.d (.int b), .d (.tuple (.str w :: ys))]) (!decide (((PyData.str w :: ys).length : Int) = 2)) :=
    et_tst (ev_m2 (ev_mN (ea_cons ev_var ea_nil) (pLen_tup _)) ev_c (pNeT_int _ _))
  by_cases hb : w = "bells"
  · by_cases h2 : ∃ y, ys = [y]
    case neg =>
      have e0 : mk b (.tuple (.str w :: ys)) = false := by
        subst hb
        match ys, h2 with
        | [], _ => rfl
        | [y], h2 => exact absurd ⟨y, rfl⟩ h2
        | [v, p], _ => cases v <;> rfl
        | [v, p, s], _ => cases v <;> rfl
        | v :: p :: s :: t :: u, _ => cases v <;> rfl
      have e1 : decide (((PyData.str w :: ys).length : Int) = 2) = false := by
        match ys, h2 with
        | [], _ => rfl
        | [y], h2 => exact absurd ⟨y, rfl⟩ h2
        | v :: p :: s, _ => exact decide_eq_false (by simp; omega)
      rw [e0]
      exact ⟨_, run_rt (seq_nx (if_f t1 rfl) (seq_rt (if_t (t2.to (decide_eq_true hb)) (seq_rt (if_t ((et_or (b := true) t5 fun e => by rw [e1] at e; cases e).to (by rw [e1]; rfl)) (ret_ev ev_c))))))⟩
    obtain ⟨y, rfl⟩ := h2
    have hy := bdl_sub h (List.mem_cons_of_mem _ List.mem_cons_self)
    have e0 : mk b (.tuple [.str w, y]) = aplT b y := by
      show (decide _ && _) = _
      rw [decide_eq_true hb, Bool.true_and]
    rw [e0]
    cases hty : isTu y with
    | false =>
      rw [aplT_len hty]
      exact ⟨_, run_rt (seq_nx (if_f t1 rfl) (seq_rt (if_t (t2.to (decide_eq_true hb)) (seq_rt (if_t ((et_or t5 fun _ => et_or (b := true) (et_not (et_tst (ev_m1 (ev_m2 ev_var ev_c pIx_1) (isi_tuple (bdl_noDict hy))))) fun e => by rw [hty] at e; cases e).to (by simp)) (ret_ev ev_c))))))⟩
    | true =>
    cases y <;> first | (cases hty; done) | skip
    rename_i zs
    obtain ⟨hl, hd⟩ := bdl_NoD hy zs rfl
    have t6 : EvT (mOrT (mTst (m2 true pNeT (mN true pLen (mACons (mVar 1) mANil)) (mC (.int 2)))) (mOrT (mNotT (mTst (m1 false (isiD "tuple") (m2 true pIx (mVar 1) (mC (.int 1)))))) (mTst (m2 true pNeT (mN true pLen (mACons (m2 true pIx (mVar 1) (mC (.int 1))) mANil)) (mVar 0))))) (env0 4 [.d (.int b), .d (.tuple [.str w, .tuple zs])]) (!decide ((zs.length : Int) = b)) :=
      (et_or t5 fun _ => et_or (et_not (et_tst (ev_m1 (ev_m2 ev_var ev_c pIx_1) (isi_tuple (bdl_noDict hy))))) fun _ => et_tst (ev_m2 (ev_mN (ea_cons (ev_m2 ev_var ev_c pIx_1) ea_nil) (pLen_tup _)) ev_var (pNeT_int _ _))).to (by simp [isTu])
    cases c1 : decide ((zs.length : Int) = b) with
    | false =>
      have e2 : aplT b (.tuple zs) = false := by simp only [aplT, apl, c1, Bool.false_and]
      rw [e2]
      exact ⟨_, run_rt (seq_nx (if_f t1 rfl) (seq_rt (if_t (t2.to (decide_eq_true hb)) (seq_rt (if_t (t6.to (by rw [c1]; rfl)) (ret_ev ev_c))))))⟩
    | true =>
    have zs1 : Ev (mLc (mSq (m2 true pIx (mVar 1) (mC (.int 1)))) (qN 3 false) (mTst (m2 true pIsNot (mVar 3) (mC .none))) (mVar 3) [3]) (env0 4 [.d (.int b), .d (.tuple [.str w, .tuple zs])]) (.ol ((told zs).map id)) :=
      ev_lc (es_tup (ev_m2 ev_var ev_c pIx_1)) (fun y hy => ⟨[some (.d (.int b)), some (.d (.tuple [.str w, .tuple zs])), none, some (.d y)], rfl, et_tst (ev_m2 ev_var ev_c (pIsNot_none _)), fun _ => ev_var, rfl⟩) (by omega)
    rw [List.map_id] at zs1
    have e2 : aplT b (.tuple zs) = ((!(told zs).isEmpty) && ((told zs).all (wi 0 (b - 1)) && dup zs)) := by
      simp only [aplT, apl, c1, Bool.true_and, ne_len]
      cases (told zs).all (wi 0 (b - 1)) <;> simp
    rw [e2]
    have tn : ∀ {e : En}, e[2]? = some (some (.ol (told zs))) → EvT (mTst (m2 true pNeT (mVar 2) (mLst mANil))) e (!(told zs).isEmpty) := fun {e} he =>
      et_tst (ev_m2 (ev_own he rfl) (ev_lst ea_nil) (pNeT_nilL (bdl_ok (bdl_told hy))) (by simp only [R.dat, he, R.dat0]) rfl)
    have hd2 : ∀ y ∈ told zs, noDict y = true := fun y m => hd y (List.mem_filter.mp m).1
    have ll : (told zs).length ≤ 16777216 := Nat.le_trans told_len (by omega)
    let e5 : En := [some (.d (.int b)), some (.d (.tuple [.str w, .tuple zs])), some (.d (.list (told zs))), none]
    have zl : mLc (mSq (mFrz (mVar 2))) (qN 3 false) mYes (mCall n__law_is_number m__law_is_number (mACons (mVar 3) (mACons (mC (.int 0)) (mACons (m2 true pSub (mVar 0) (mC (.int 1))) mANil)))) [3] [some (.d (.int b)), some (.d (.tuple [.str w, .tuple zs])), some (.ol (told zs)), none] = .ok (.ol ((told zs).map fun d => .bool (wi 0 (b - 1) d))) e5 := by
      have := ev_lcA (env := e5) (mi := fun e => .ok (told zs) e) (q := qN 3 false) (me := mCall n__law_is_number m__law_is_number (mACons (mVar 3) (mACons (mC (.int 0)) (mACons (m2 true pSub (mVar 0) (mC (.int 1))) mANil)))) (vs := [3]) (g := fun d => .bool (wi 0 (b - 1) d)) rfl (fun y hy => ⟨[some (.d (.int b)), some (.d (.tuple [.str w, .tuple zs])), some (.d (.list (told zs))), some (.d y)], rfl, ev_rn (ea_cons ev_var (ea_cons ev_c (ea_cons (ev_m2 ev_var ev_c (pSub_int _ _)) ea_nil))) (r_is_number (hd2 y hy)), rfl⟩) ll
      exact this
    have ta : mTst (mN true pAll (mACons (mLc (mSq (mFrz (mVar 2))) (qN 3 false) mYes (mCall n__law_is_number m__law_is_number (mACons (mVar 3) (mACons (mC (.int 0)) (mACons (m2 true pSub (mVar 0) (mC (.int 1))) mANil)))) [3]) mANil)) [some (.d (.int b)), some (.d (.tuple [.str w, .tuple zs])), some (.ol (told zs)), none] = .ok ((told zs).all (wi 0 (b - 1))) e5 :=
      to_tst (to_mN (to_cons zl to_nil) (pAll_map _ _))
    have fin : ∀ {c : Bool} {e6 : En}, mAndV (mTst (m2 true pNeT (mVar 2) (mLst mANil))) (mAndV (mTst (mN true pAll (mACons (mLc (mSq (mFrz (mVar 2))) (qN 3 false) mYes (mCall n__law_is_number m__law_is_number (mACons (mVar 3) (mACons (mC (.int 0)) (mACons (m2 true pSub (mVar 0) (mC (.int 1))) mANil)))) [3]) mANil))) (m2 true pEqT (m1 true lenSet (mVar 2)) (mN true pLen (mACons (mVar 2) mANil)))) [some (.d (.int b)), some (.d (.tuple [.str w, .tuple zs])), some (.ol (told zs)), none] = .ok (.d (.bool c)) e6 → Rn m__law_is_mark 4 [.d (.int b), .d (.tuple [.str w, .tuple zs])] (.d (.bool c)) := fun {c e6} q =>
      ⟨_, run_rt (seq_nx (if_f t1 rfl) (seq_rt (if_t (t2.to (decide_eq_true hb)) (seq_nx (if_f (t6.to (by rw [c1]; rfl)) rfl) (seq_nx (set_ev zs1) (ret_ev q))))))⟩
    have tn0 := tn (e := [some (.d (.int b)), some (.d (.tuple [.str w, .tuple zs])), some (.ol (told zs)), none]) rfl
    cases c2 : (told zs).isEmpty with
    | true => exact fin (and_f (tn0.to (by rw [c2]; rfl)))
    | false =>
    replace tn0 := tn0.to (c := true) (by rw [c2]; rfl)
    cases c3 : (told zs).all (wi 0 (b - 1)) with
    | false => exact fin ((and_t tn0).trans (and_f (ta.trans (by rw [c3]))))
    | true =>
    obtain ⟨ns, hns, _⟩ := wi_ints c3
    simp only [Bool.not_false, Bool.true_and]
    rw [dup_eq hns]
    exact fin ((and_t tn0).trans ((and_t (ta.trans (by rw [c3]))).trans (ev_m2 (ev_m1 ev_var (dup_len hns hl)) (ev_mN (ea_cons ev_var ea_nil) (pLen_lst _)) (pEqT_int _ _))))
  · have t2' := t2.to (decide_eq_false hb)
    have go : EvT (mOrT (mTst (m2 true pNeT (m2 true pIx (mVar 1) (mC (.int 0))) (mC (.str "run")))) (mOrT (mTst (m2 true pNeT (mN true pLen (mACons (mVar 1) mANil)) (mC (.int 4)))) (mOrT (mNotT (mTst (m1 false (isiD "str") (m2 true pIx (mVar 1) (mC (.int 1)))))) (mTst (m2 false pNotIn (m2 true pIx (mVar 1) (mC (.int 1))) (mTup (mACons (mC (.str "up")) (mACons (mC (.str "down")) mANil)))))))) (env0 4 [.d (.int b), .d (.tuple (.str w :: ys))]) true → mk b (.tuple (.str w :: ys)) = false → Rn m__law_is_mark 4 [.d (.int b), .d (.tuple (.str w :: ys))] (.d (.bool (mk b (.tuple (.str w :: ys))))) := fun t e => by
      rw [e]
      exact ⟨_, run_rt (seq_nx (if_f t1 rfl) (seq_nx (if_f t2' rfl) (seq_rt (if_t t (ret_ev ev_c)))))⟩
    by_cases h4 : ∃ v p s, ys = [v, p, s]
    case neg =>
      have e0 : mk b (.tuple (.str w :: ys)) = false := by
        match ys, h4 with
        | [], _ => rfl
        | [y], h2 =>
          show (decide _ && _) = false
          rw [decide_eq_false hb, Bool.false_and]
        | [v, p], _ => cases v <;> rfl
        | [v, p, s], h4 => exact absurd ⟨v, p, s, rfl⟩ h4
        | v :: p :: s :: t :: u, _ => cases v <;> rfl
      have e1 : decide (((PyData.str w :: ys).length : Int) = 4) = false := by
        match ys, h4 with
        | [], _ => rfl
        | [y], _ => rfl
        | [v, p], _ => rfl
        | [v, p, s], h4 => exact absurd ⟨v, p, s, rfl⟩ h4
        | v :: p :: s :: t :: u, _ => exact decide_eq_false (by simp; omega)
      exact go ((et_or t3 fun _ => et_or (b := true) t4 fun e => by rw [e1] at e; cases e).to (by rw [e1]; simp)) e0
    obtain ⟨v, p, s, rfl⟩ := h4
    have hv := bdl_sub h (List.mem_cons_of_mem _ List.mem_cons_self)
    have hp := bdl_noDict (bdl_sub h (List.mem_cons_of_mem _ (List.mem_cons_of_mem _ List.mem_cons_self)))
    have hs := bdl_noDict (bdl_sub h (List.mem_cons_of_mem _ (List.mem_cons_of_mem _ (List.mem_cons_of_mem _ List.mem_cons_self))))
    by_cases hr : w = "run"
    case neg =>
      refine go ((et_or (b := true) t3 fun e => by rw [decide_eq_false hr] at e; cases e).to (by simp)) ?_
      cases v <;> first | rfl | skip
      show (decide _ && _) = false
      rw [decide_eq_false hr, Bool.false_and]
    cases hsv : isSt v with
    | false =>
      refine go ((et_or t3 fun _ => et_or t4 fun _ => et_or (b := true) (et_not (et_tst (ev_m1 (ev_m2 ev_var ev_c pIx_1) (isi_str (bdl_noDict hv))))) fun e => by rw [hsv] at e; cases e).to (by simp)) ?_
      cases v <;> first | rfl | (cases hsv; done)
    | true =>
    obtain ⟨v, rfl⟩ := st_str hsv
    have t6 : EvT (mOrT (mTst (m2 true pNeT (m2 true pIx (mVar 1) (mC (.int 0))) (mC (.str "run")))) (mOrT (mTst (m2 true pNeT (mN true pLen (mACons (mVar 1) mANil)) (mC (.int 4)))) (mOrT (mNotT (mTst (m1 false (isiD "str") (m2 true pIx (mVar 1) (mC (.int 1)))))) (mTst (m2 false pNotIn (m2 true pIx (mVar 1) (mC (.int 1))) (mTup (mACons (mC (.str "up")) (mACons (mC (.str "down")) mANil)))))))) (env0 4 [.d (.int b), .d (.tuple [.str w, .str v, p, s])]) (!isWay v) :=
      (et_or t3 fun _ => et_or t4 fun _ => et_or (et_not (et_tst (ev_m1 (ev_m2 ev_var ev_c pIx_1) (isi_str (bdl_noDict hv))))) fun _ => et_tst (ev_m2 (ev_m2 ev_var ev_c pIx_1) (ev_tup (ea_cons ev_c (ea_cons ev_c ea_nil))) (pNotIn_ud (bdl_strOk hv)))).to (by rw [hr]; simp [isSt])
    have e0 : mk b (.tuple [.str w, .str v, p, s]) = (isWay v && okRun b p s) := by
      show (decide _ && _) = _
      rw [decide_eq_true hr, Bool.true_and]
    cases hw : isWay v with
    | false => exact go (t6.to (by rw [hw]; rfl)) (by rw [e0, hw]; rfl)
    | true =>
    rw [e0, hw, Bool.true_and, okRun_law]
    refine ⟨_, run_rt (seq_nx (if_f t1 rfl) (seq_nx (if_f t2' rfl) (seq_nx (if_f (t6.to (by rw [hw]; rfl)) rfl) (ret_ev (ev_andB (et_tst (ev_rn (ea_cons (ev_m2 ev_var ev_c pIx_2) (ea_cons ev_c (ea_cons ev_var ea_nil))) (r_is_number hp))) fun c1 => ev_andB (et_tst (ev_rn (ea_cons (ev_m2 ev_var ev_c pIx_3) (ea_cons ev_c (ea_cons ev_var ea_nil))) (r_is_number hs))) fun c2 => ?_)))))⟩
    obtain ⟨i, rfl, _, _⟩ := wi_int c1
    obtain ⟨j, rfl, _, _⟩ := wi_int c2
    exact ev_m2 (ev_m2 (ev_m2 ev_var ev_c pIx_2) (ev_m2 ev_var ev_c pIx_3) (pAdd_int _ _)) ev_var (pLe_int _ _)
end Pwk91

set_option Elab.async false
set_option linter.all false
set_option maxRecDepth 100000
set_option maxHeartbeats 4000000
/-! k91: the pot. -/
namespace Pwk91
open PySem PySem.Spec PyProof.Rows L2 Pw
def PotOk (l : List D) : Prop := ∃ a b : Int, l = [.int a, .int b] ∧ 0 ≤ b ∧ b ≤ 2147483587
theorem r_draw {l : List D} {n : Int} (h : PotOk l) (h1 : 0 < n) (h2 : n < 1073741824) : ∃ d l', PotOk l' ∧ 0 ≤ d ∧ d < n ∧ RnP m__law_draw 3 l [.d (.int n)] (.d (.int d)) l' := by
  obtain ⟨a, b, rfl, hb, hb2⟩ := h
  have t1 : EvT (mTst (m2 true pGt (m2 true pIx (mVar 0) (mC (.int 0))) (mC (.int 0)))) (env0 3 [.pl [.int a, .int b], .d (.int n)]) (decide (0 < a)) :=
    et_tst (ev_m2 (ev_m2 (y := .int 0) ev_own ev_c (show pIx (.list [.int a, .int b]) (.int 0) = some (.d (.int a)) from pIx_lst (k := 0) rfl)) ev_c (pGt_int _ _))
  by_cases ha : 0 < a
  · refine ⟨a % n, [.int (a / n), .int b], ⟨_, _, rfl, hb, hb2⟩, Int.emod_nonneg _ (by omega), Int.emod_lt_of_pos _ h1, ?_⟩
    have dm : pDivmod [.int a, .int n] = some (.d (.tuple [.int (a / n), .int (a % n)])) := by
      show (if (decide (0 < n) && decide (n < 1073741824)) = true then some (R.d (.tuple [.int (a / n), .int (a % n)])) else none) = _
      rw [if_pos (by simp [h1, h2])]
    have s1 : mSet (qTup 2 (qCons (qSub (mVar 0) (mC (.int 0))) (qCons (qN 2 false) qNil))) (mN true pDivmod (mACons (m2 true pIx (mVar 0) (mC (.int 0))) (mACons (mVar 1) mANil))) (env0 3 [.pl [.int a, .int b], .d (.int n)]) = .nx [some (.pl [.int (a / n), .int b]), some (.d (.int n)), some (.d (.int (a % n)))] :=
      set_ev (ev_mN (ea_cons (ev_m2 (y := .int 0) ev_own ev_c (show pIx (.list [.int a, .int b]) (.int 0) = some (.d (.int a)) from pIx_lst (k := 0) rfl)) (ea_cons ev_var ea_nil)) dm)
    exact ⟨[some (.pl [.int (a / n), .int b]), some (.d (.int n)), some (.d (.int (a % n)))], run_rt (seq_rt (if_t (t1.to (decide_eq_true ha)) (seq_nx s1 (ret_ev ev_var)))), rfl⟩
  · have hc0 : 0 ≤ (b * 39373 + 733) % 2147483587 := Int.emod_nonneg _ (by omega)
    have hc1 : (b * 39373 + 733) % 2147483587 < 2147483587 := Int.emod_lt_of_pos _ (by omega)
    generalize hc : (b * 39373 + 733) % 2147483587 = c at hc0 hc1
    refine ⟨(c * c % 2147483563 / 29) % n, [.int a, .int c], ⟨_, _, rfl, hc0, by omega⟩, Int.emod_nonneg _ (by omega), Int.emod_lt_of_pos _ h1, ?_⟩
    have i1 : pIx (.list [.int a, .int b]) (.int 1) = some (.d (.int b)) := pIx_lst (k := 1) rfl
    have i2 : pIx (.list [.int a, .int c]) (.int 1) = some (.d (.int c)) := pIx_lst (k := 1) rfl
    have s1 : mSet (qSub (mVar 0) (mC (.int 1))) (m2 true pMod (mN true pInt (mACons (m2 false pAdd (m2 false pMul (m2 true pIx (mVar 0) (mC (.int 1))) (mC (.int 39373))) (mC (.int 733))) mANil)) (mC (.int 2147483587))) (env0 3 [.pl [.int a, .int b], .d (.int n)]) = .nx [some (.pl [.int a, .int c]), some (.d (.int n)), none] := by
      refine set_ev (r := .d (.int ((b * 39373 + 733) % 2147483587))) (ev_m2 (ev_mN (ea_cons (ev_m2 (ev_m2 (ev_m2 ev_own ev_c i1) ev_c (pMul_int (i := b) (j := 39373) (.inr (by decide)))) ev_c (pAdd_int _ _)) ea_nil) (show pInt [.int _] = some (.d (.int _)) from rfl)) ev_c (pMod_int (j := 2147483587) (by decide))) ?_
      rw [hc]
      rfl
    have f : fRun m__law_draw (env0 3 [.pl [.int a, .int b], .d (.int n)]) = some (.d (.int (c * c % 2147483563 / 29 % n)), [some (.pl [.int a, .int c]), some (.d (.int n)), none]) :=
      run_rt (seq_nx (if_f (t1.to (decide_eq_false ha)) rfl) (seq_nx s1 (ret_ev (ev_m2 (ev_mN (ea_cons (ev_m2 (ev_m2 (ev_mN (ea_cons (ev_m2 (ev_m2 (y := .int 1) ev_own ev_c i2) (ev_m2 (y := .int 1) ev_own ev_c i2) (pMul_int (i := c) (j := c) (.inl (small64_of (by omega) (by omega))))) ea_nil) (show pInt [.int _] = some (.d (.int _)) from rfl)) ev_c (pMod_int (j := 2147483563) (by decide))) ev_c (pDiv_int (j := 29) (by decide) (by decide))) ea_nil) (show pInt [.int _] = some (.d (.int _)) from rfl)) ev_var (pMod_int h1)))))
    exact ⟨_, f, rfl⟩
theorem pick_at {xs : List D} {d : Int} (h0 : 0 ≤ d) (h1 : d < (xs.length : Nat)) : ∃ y ∈ xs, xs[d.toNat]? = some y ∧ d = ((d.toNat : Nat) : Int) := by
  have h : d.toNat < xs.length := by omega
  exact ⟨xs[d.toNat], List.getElem_mem h, List.getElem?_eq_getElem h, by omega⟩
theorem r_pick {l xs : List D} {x : D} (h : PotOk l) (hx : x = .tuple xs ∨ x = .list xs) (h1 : xs ≠ []) (h2 : xs.length < 1073741824) : ∃ y ∈ xs, ∃ l', PotOk l' ∧ RnP m__law_pick 2 l [.d x] (.d y) l' := by
  have hp : 0 < xs.length := List.length_pos_iff.mpr h1
  obtain ⟨d, l', ho, h0, hd, hr⟩ := r_draw (n := (xs.length : Nat)) h (by omega) (by omega)
  obtain ⟨y, hm, ha, he⟩ := pick_at h0 hd
  refine ⟨y, hm, l', ho, ⟨[some (.pl l'), some (.d x)], ?_, rfl⟩⟩
  have hl : pLen [x] = some (.d (.int (xs.length : Nat))) := by rcases hx with rfl | rfl <;> rfl
  have hi : pIx x (.int d) = some (.d y) := by
    rw [he]
    rcases hx with rfl | rfl
    · exact pIx_tup ha
    · exact pIx_lst ha
  have cl : mCallP n__law_draw m__law_draw (mACons (mVar 0) (mACons (mN true pLen (mACons (mVar 1) mANil)) mANil)) (env0 2 [.pl l, .d x]) = .ok (.d (.int d)) [some (.pl l'), some (.d x)] :=
    to_rnP (ea_cons (ev_mN (ea_cons ev_var ea_nil) hl) ea_nil) hr
  exact run_ret (to_m2 (ma := mVar 1) (show mVar 1 _ = .ok (.d x) _ from rfl) cl hi)
theorem pMax2_int (i j : Int) : pMax2 [.int i, .int j] = some (.d (.int (if j > i then j else i))) := rfl
theorem r_pot {ns : List Int} {k : Int} (hk : 0 ≤ k) : ∃ l, PotOk l ∧ Rn m__law_pot 3 [.kl (ns.map PyData.int), .d (.int k)] (.ol l) := by
  have fin : ∀ {c : Int}, fRun (mRet (mLst (mACons (mN true pMax2 (mACons (mC (.int 0)) (mACons (m2 true pSub (mVar 2) (m2 true pPow (mC (.int 10)) (mC (.int 18)))) mANil))) (mACons (m2 false pAdd (m2 true pMod (mN true pInt (mACons (m2 false pAdd (m2 false pAdd (m2 false pMul (m2 true pMod (mN true pInt (mACons (mVar 2) mANil)) (mC (.int 2147483549))) (mC (.int 40693))) (m2 false pMul (mC (.int 1871)) (mVar 1))) (mC (.int 1361))) mANil)) (mC (.int 2147483563))) (mC (.int 1))) mANil)))) [some (.kl (ns.map PyData.int)), some (.d (.int k)), some (.d (.int c))] =
      some (.ol [.int (if c - 10 ^ 18 > 0 then c - 10 ^ 18 else 0), .int ((c % 2147483549 * 40693 + 1871 * k + 1361) % 2147483563 + 1)], [some (.kl (ns.map PyData.int)), some (.d (.int k)), some (.d (.int c))]) := fun {c} =>
    run_ret (ev_lst (ea_cons (ev_mN (ea_cons ev_c (ea_cons (ev_m2 ev_var (ev_m2 ev_c ev_c (show pPow (.int 10) (.int 18) = some (.d (.int (10 ^ 18))) from rfl)) (pSub_int _ _)) ea_nil)) (pMax2_int _ _)) (ea_cons (ev_m2 (ev_m2 (ev_mN (ea_cons (ev_m2 (ev_m2 (ev_m2 (ev_m2 (ev_mN (ea_cons ev_var ea_nil) (show pInt [.int _] = some (.d (.int _)) from rfl)) ev_c (pMod_int (i := c) (j := 2147483549) (by decide))) ev_c (pMul_int (j := 40693) (.inr (by decide)))) (ev_m2 ev_c ev_var (pMul_int (i := 1871) (j := k) (.inl (by decide)))) (pAdd_int _ _)) ev_c (pAdd_int _ _)) ea_nil) (show pInt [.int _] = some (.d (.int _)) from rfl)) ev_c (pMod_int (j := 2147483563) (by decide))) ev_c (pAdd_int _ _)) ea_nil)))
  have t1 : EvT (mTst (m2 true pLt (mVar 1) (mN true pLen (mACons (mVar 0) mANil)))) (env0 3 [.kl (ns.map PyData.int), .d (.int k)]) (decide (k < ((ns.map PyData.int).length : Nat))) :=
    et_tst (ev_m2 ev_var (ev_mN (ea_cons ev_var ea_nil) (pLen_lst _)) (pLt_int _ _))
  have g : ∃ c, mSet (qN 2 false) (mIf (mTst (m2 true pLt (mVar 1) (mN true pLen (mACons (mVar 0) mANil)))) (mN true pAbs (mACons (m2 true pIx (mVar 0) (mVar 1)) mANil)) (m2 false pAdd (m2 false pMul (mC (.int 751)) (mVar 1)) (mC (.int 1361)))) (env0 3 [.kl (ns.map PyData.int), .d (.int k)]) = .nx [some (.kl (ns.map PyData.int)), some (.d (.int k)), some (.d (.int c))] := by
    by_cases hlt : k < ((ns.map PyData.int).length : Nat)
    · obtain ⟨y, hm, ha, he⟩ := pick_at hk hlt
      obtain ⟨c, _, rfl⟩ := List.mem_map.mp hm
      exact ⟨if c < 0 then -c else c, set_ev (ev_if t1 (fun _ => ev_mN (ea_cons (ev_m2 (x := .list (ns.map PyData.int)) (y := .int k) ev_var ev_var (by rw [he]; exact pIx_lst ha)) ea_nil) (show pAbs [.int c] = _ from rfl)) (fun e => by rw [decide_eq_true hlt] at e; cases e))⟩
    · exact ⟨751 * k + 1361, set_ev (ev_if t1 (fun e => by rw [decide_eq_false hlt] at e; cases e) (fun _ => ev_m2 (ev_m2 ev_c ev_var (pMul_int (i := 751) (j := k) (.inl (by decide)))) ev_c (pAdd_int _ _)))⟩
  obtain ⟨c, g⟩ := g
  have q0 : 0 ≤ (c % 2147483549 * 40693 + 1871 * k + 1361) % 2147483563 := Int.emod_nonneg _ (by omega)
  have q1 : (c % 2147483549 * 40693 + 1871 * k + 1361) % 2147483563 < 2147483563 := Int.emod_lt_of_pos _ (by omega)
  refine ⟨[.int (if c - 10 ^ 18 > 0 then c - 10 ^ 18 else 0), .int ((c % 2147483549 * 40693 + 1871 * k + 1361) % 2147483563 + 1)], ⟨_, _, rfl, by omega, by omega⟩, ⟨[some (.kl (ns.map PyData.int)), some (.d (.int k)), some (.d (.int c))], ?_⟩⟩
  have f := @fin c
  unfold fRun at f ⊢
  unfold m__law_pot
  rw [seq_nx g rfl]
  exact f
end Pwk91

set_option Elab.async false
set_option linter.all false
set_option maxRecDepth 100000
set_option maxHeartbeats 4000000
/-! k91: the rows. -/
namespace Pwk91
open PySem PySem.Spec PyProof.Rows L2 Pw
def rw' (row : List Int) : D := .tuple (row.map PyData.int)
def inz (n : Nat) : List Int := (List.range n).map fun i => ((i : Nat) : Int)
def ext (b : Nat) (row : List Int) : List (List Int) := ((inz b).filter fun c => !row.any fun z => decide (z = c)).map fun c => row ++ [c]
def lay (b : Nat) : Nat → List (List Int)
  | 0 => [[]]
  | t + 1 => (lay b t).flatMap (ext b)
theorem rgD_ints (n : Nat) : rgD 0 (n : Int) = (inz n).map PyData.int := by
  unfold rgD inz
  rw [List.map_map]
  have e : ((n : Int) - 0).toNat = n := by omega
  rw [e]
  refine List.map_congr_left fun i _ => ?_
  simp
theorem ints_len (n : Nat) : (inz n).length = n := by simp [inz]
theorem ext_len {b : Nat} {row : List Int} : (ext b row).length ≤ b := by
  unfold ext
  rw [List.length_map]
  exact Nat.le_trans (List.length_filter_le _ _) (by rw [ints_len]; exact Nat.le_refl _)
theorem ext_in {b : Nat} {row r : List Int} (h : r ∈ ext b row) : r.length = row.length + 1 := by
  obtain ⟨c, _, rfl⟩ := List.mem_map.mp h
  simp
theorem lay_in {b : Nat} : ∀ {t : Nat} {r : List Int}, r ∈ lay b t → r.length = t
  | 0, r, h => by
    rw [show lay b 0 = [[]] from rfl, List.mem_singleton] at h
    rw [h] <;> rfl
  | t + 1, r, h => by
    obtain ⟨q, h1, h2⟩ := List.mem_flatMap.mp (show r ∈ (lay b t).flatMap (ext b) from h)
    rw [ext_in h2, lay_in h1]
theorem flat_len {b : Nat} : ∀ {l : List (List Int)}, (l.flatMap (ext b)).length ≤ b * l.length
  | [] => by simp
  | x :: l => by
    have h1 := ext_len (b := b) (row := x)
    have h2 := flat_len (b := b) (l := l)
    simp only [List.flatMap_cons, List.length_append, List.length_cons, Nat.mul_add, Nat.mul_one]
    omega
theorem lay_len {b : Nat} (hb : b ≤ 6) : ∀ t, (lay b t).length ≤ 6 ^ t
  | 0 => by simp [lay]
  | t + 1 => by
    have h1 := lay_len hb t
    have h2 := flat_len (b := b) (l := lay b t)
    have h3 : b * (lay b t).length ≤ 6 * 6 ^ t := Nat.mul_le_mul hb h1
    show ((lay b t).flatMap (ext b)).length ≤ _
    rw [Nat.pow_succ]
    omega
theorem okDs_ints : ∀ (n : Nat) (l : List Int), okDs n (l.map PyData.int) = true
  | _, [] => by simp [okDs]
  | n, x :: l => by simp [okDs, okD_int, okDs_ints n l]
theorem pNotIn_row {c : Int} {row : List Int} : pNotIn (.int c) (rw' row) = some (.d (.bool (!row.any fun z => decide (z = c)))) := by
  unfold pNotIn inD rw'
  simp only [okD_int, okDs_ints, Bool.and_self, if_true, Option.map_some, bR, List.any_map]
  rfl
/-- none, or data -/
def Nd : Option R → Prop
  | none => True
  | some (.d _) => True
  | _ => False
theorem Nd.np {s : Option R} (h : Nd s) : notPl (some s) = true := by
  match s, h with
  | none, _ => rfl
  | some (.d _), _ => rfl
theorem Nd.of {s : Option R} {e : En} {i : Nat} (h : Nd s) (he : e[i]? = some s) : notPl e[i]? = true := by rw [he]; exact h.np
theorem qN_ok {i : Nat} {b : Bool} {r : R} {e : En} (h1 : i < e.length) (h2 : notPl e[i]? = true) (h3 : okSt b r = true) : qN i b r e = some (e.set i (some r)) := by
  unfold qN
  rw [if_pos]
  simp only [Bool.and_eq_true, decide_eq_true_eq]
  exact ⟨⟨h1, h2⟩, h3⟩
/-- where the bells come from -/
def Src (b : Nat) (mi : MI) : Prop := ∀ tl : En, mi (some (.d (.int (b : Nat))) :: tl) = .ok (rgD 0 (b : Nat)) (some (.d (.int (b : Nat))) :: tl)
section
variable {b : Nat} {mi : MI} (hs : Src b mi) (hb : b ≤ 6)
include hs hb
theorem row_lc {F turn : D} {acc : List D} {row : List Int} (hr : row.length ≤ 6) :
    Ev (mLc mi (qN 5 false) (mTst (m2 false pNotIn (mVar 5) (mVar 4))) (m2 false pAdd (mVar 4) (mTup (mACons (mVar 5) mANil))) [5]) [some (.d (.int (b : Nat))), some (.d F), some (.d turn), some (.ol acc), some (.d (rw' row)), none] (.ol ((ext b row).map rw')) := by
  have z := ev_lc (q := qN 5 false) (tt := mTst (m2 false pNotIn (mVar 5) (mVar 4))) (me := m2 false pAdd (mVar 4) (mTup (mACons (mVar 5) mANil))) (vs := [5])
    (f := fun d => match d with | .int c => !row.any (fun z => decide (z = c)) | _ => false) (g := fun d => match d with | .int c => rw' (row ++ [c]) | _ => .none)
    (hs [some (.d F), some (.d turn), some (.ol acc), some (.d (rw' row)), none]) (fun x hx => by
      rw [rgD_ints] at hx
      obtain ⟨c, _, rfl⟩ := List.mem_map.mp hx
      refine ⟨[some (.d (.int (b : Nat))), some (.d F), some (.d turn), some (.ol acc), some (.d (rw' row)), some (.d (.int c))], rfl, et_tst (ev_m2 ev_var ev_var pNotIn_row), fun _ => ev_m2 (x := rw' row) (y := .tuple [.int c]) ev_var (ev_tup (ea_cons ev_var ea_nil)) ?_, rfl⟩
      show (if (row.map PyData.int).length + [PyData.int c].length ≤ 16777216 then some (R.d (.tuple (row.map PyData.int ++ [PyData.int c]))) else none) = _
      rw [if_pos (by simp; omega)]
      simp [rw']) (by rw [rgD_ints, List.length_map, ints_len]; omega)
  refine z.to ?_
  congr 1
  rw [rgD_ints, List.filter_map, List.map_map]
  unfold ext
  rw [List.map_map]
  rfl
theorem row_for {F turn : D} : ∀ {rows : List (List Int)} {acc : List D} {s4 : Option R}, Nd s4 → (∀ r ∈ rows, r.length ≤ 6) → acc.length + 6 * rows.length ≤ 16777216 →
    ∃ s4', Nd s4' ∧ forGo (qN 4 false) (mDrp (mMtL gExt (mVar 3) (mACons (mFrz (mLc mi (qN 5 false) (mTst (m2 false pNotIn (mVar 5) (mVar 4))) (m2 false pAdd (mVar 4) (mTup (mACons (mVar 5) mANil))) [5])) mANil))) (rows.map rw') [some (.d (.int (b : Nat))), some (.d F), some (.d turn), some (.ol acc), s4, none] = .nx [some (.d (.int (b : Nat))), some (.d F), some (.d turn), some (.ol (acc ++ (rows.flatMap (ext b)).map rw')), s4', none]
  | [], acc, s4, h4, _, _ => ⟨s4, h4, by simp [forGo]⟩
  | row :: rows, acc, s4, h4, hr, hl => by
    have he := ext_len (b := b) (row := row)
    simp only [List.length_cons] at hl
    obtain ⟨s4', h4', g⟩ := row_for (rows := rows) (acc := acc ++ (ext b row).map rw') (s4 := some (.d (rw' row))) (by trivial) (fun r m => hr r (List.mem_cons_of_mem _ m)) (by simp only [List.length_append, List.length_map]; omega)
    refine ⟨s4', h4', ?_⟩
    rw [List.map_cons]
    unfold forGo
    rw [qN_ok (by simp) (h4.of rfl) rfl]
    have z := ev_frzL (row_lc hs hb (F := F) (turn := turn) (acc := acc) (hr row List.mem_cons_self))
    have d : mDrp (mMtL gExt (mVar 3) (mACons (mFrz (mLc mi (qN 5 false) (mTst (m2 false pNotIn (mVar 5) (mVar 4))) (m2 false pAdd (mVar 4) (mTup (mACons (mVar 5) mANil))) [5])) mANil)) [some (.d (.int (b : Nat))), some (.d F), some (.d turn), some (.ol acc), some (.d (rw' row)), none] = .nx [some (.d (.int (b : Nat))), some (.d F), some (.d turn), some (.ol (acc ++ (ext b row).map rw')), some (.d (rw' row)), none] := by
      refine drp_ev (r := .d .none) ?_
      unfold mMtL
      rw [show mVar 3 [some (.d (.int (b : Nat))), some (.d F), some (.d turn), some (.ol acc), some (.d (rw' row)), none] = .ok (.vr 3) _ from rfl]
      simp only [Res.bind]
      rw [if_pos (show isLst _ = true from rfl), show mACons _ mANil _ = _ from ea_cons z ea_nil]
      have ge : gExt (.ol acc) [.list ((ext b row).map rw')] = some (.none, .ol (acc ++ (ext b row).map rw')) := by
        show (if acc.length + ((ext b row).map rw').length ≤ 16777216 then some (PyData.none, R.ol (acc ++ (ext b row).map rw')) else none) = _
        rw [if_pos (by rw [List.length_map]; omega)]
      show (match gExt (.ol acc) [.list ((ext b row).map rw')] with | some (x, t') => _ | none => _) = _
      rw [ge]
      rfl
    show (match mDrp _ [some (.d (.int (b : Nat))), some (.d F), some (.d turn), some (.ol acc), some (.d (rw' row)), none] with | .nx e2 => _ | .ct e2 => _ | .bk e2 => _ | .rt r e2 => _ | .ex x e2 => _ | .st => _) = _
    rw [d]
    simp only [List.flatMap_cons, List.map_append]
    rw [← List.append_assoc]
    exact g
end
end Pwk91

set_option Elab.async false
set_option linter.all false
set_option maxRecDepth 100000
set_option maxHeartbeats 4000000
/-! k91: all the rows. -/
namespace Pwk91
open PySem PySem.Spec PyProof.Rows L2 Pw
theorem for_src {mi : MI} {q : MQ} {b : MS} {env e1 : En} {xs : List D} {o : RS} (h : mi env = .ok xs e1) (h2 : forGo q b xs e1 = o) : mFor mi q b env = o := by
  unfold mFor
  rw [h]
  exact h2
/-- the rows found so far -/
def Fnd (L : List D) : Option R → Prop
  | some (.ol xs) => xs = L
  | some (.d (.list xs)) => xs = L
  | _ => False
/-- the body for one row more -/
abbrev mTurn (mi : MI) : MS := (mSeq (mSet (qN 3 true) (mLst mANil)) (mSeq (mFor (mSq (mFrz (mVar 1))) (qN 4 false) (mDrp (mMtL gExt (mVar 3) (mACons (mFrz (mLc mi (qN 5 false) (mTst (m2 false pNotIn (mVar 5) (mVar 4))) (m2 false pAdd (mVar 4) (mTup (mACons (mVar 5) mANil))) [5])) mANil)))) (mSet (qN 1 true) (mFrz (mVar 3)))))
def IvR (b t : Nat) (env : En) : Prop := ∃ s1 s2 s3 s4, env = [some (.d (.int (b : Nat))), s1, s2, s3, s4, none] ∧ Fnd ((lay b t).map rw') s1 ∧ Nd s2 ∧ Nd s3 ∧ Nd s4 ∧ (0 < t → ∃ x, s1 = some (.d x))
section
variable {b : Nat} {mi : MI} (hs : Src b mi) (hb : b ≤ 6)
include hs hb
theorem turn_ok {t : Nat} (ht : t ≤ 6) {L : List D} {s1 s3 s4 : Option R} {turn : D} (h1 : Fnd ((lay b t).map rw') s1) (h3 : Nd s3) (h4 : Nd s4) :
    ∃ s4', Nd s4' ∧ mTurn mi [some (.d (.int (b : Nat))), s1, some (.d turn), s3, s4, none] = .nx [some (.d (.int (b : Nat))), some (.d (.list ((lay b (t + 1)).map rw'))), some (.d turn), some (.d (.list ((lay b (t + 1)).map rw'))), s4', none] := by
  have hl := lay_len hb t
  have hp : 6 ^ t ≤ 6 ^ 6 := Nat.pow_le_pow_right (by decide) ht
  have z : mSq (mFrz (mVar 1)) [some (.d (.int (b : Nat))), s1, some (.d turn), some (.ol []), s4, none] = .ok ((lay b t).map rw') [some (.d (.int (b : Nat))), some (.d (.list ((lay b t).map rw'))), some (.d turn), some (.ol []), s4, none] := by
    match s1, h1 with
    | some (.ol xs), h1 => cases h1; rfl
    | some (.d (.list xs)), h1 => cases h1; rfl
  obtain ⟨s4', h4', g⟩ := row_for hs hb (F := .list ((lay b t).map rw')) (turn := turn) (rows := lay b t) (acc := []) h4 (fun r m => by rw [lay_in m]; exact ht) (by simp only [List.length_nil]; omega)
  refine ⟨s4', h4', ?_⟩
  refine seq_nx (set_ev (e2 := [some (.d (.int (b : Nat))), s1, some (.d turn), some (.ol []), s4, none]) (r := .ol []) (ev_lst ea_nil) (qN_ok (by simp) (h3.of rfl) rfl)) ?_
  refine seq_nx (e' := [some (.d (.int (b : Nat))), some (.d (.list ((lay b t).map rw'))), some (.d turn), some (.ol ((lay b (t + 1)).map rw')), s4', none]) ?_ ?_
  · exact for_src z g
  · exact set_ev (r := .d (.list ((lay b (t + 1)).map rw'))) (e' := [some (.d (.int (b : Nat))), some (.d (.list ((lay b t).map rw'))), some (.d turn), some (.d (.list ((lay b (t + 1)).map rw'))), s4', none]) rfl rfl
theorem all_for : ∃ s2 s3 s4, 1 ≤ b → forGo (qN 2 false) (mTurn mi) (rgD 0 (b : Nat)) [some (.d (.int (b : Nat))), some (.ol [.tuple []]), none, none, none, none] = .nx [some (.d (.int (b : Nat))), some (.d (.list ((lay b b).map rw'))), s2, s3, s4, none] := by
  have hL : (rgD 0 (b : Int)).length = b := by rw [rgD_ints, List.length_map, ints_len]
  have h0 : IvR b 0 [some (.d (.int (b : Nat))), some (.ol [.tuple []]), none, none, none, none] := ⟨_, _, _, _, rfl, rfl, trivial, trivial, trivial, fun h => absurd h (Nat.lt_irrefl 0)⟩
  obtain ⟨e', g1, g2⟩ := for_inv (Iv := IvR b) (q := qN 2 false) (b := mTurn mi) (xs := rgD 0 (b : Nat)) 0 h0 (fun j x e hx hi => by
      obtain ⟨s1, s2, s3, s4, he, f1, f2, f3, f4, _⟩ := hi
      subst he
      have hj : j < b := by
        obtain ⟨h, _⟩ := List.getElem?_eq_some_iff.mp hx
        rw [hL] at h
        exact h
      rw [Nat.zero_add] at f1 ⊢
      obtain ⟨s4', k1, k2⟩ := turn_ok hs hb (t := j) (by omega) (L := []) (turn := x) f1 f3 f4
      exact ⟨_, qN_ok (by simp) (f2.of rfl) rfl, _, k2, ⟨_, _, _, _, rfl, rfl, trivial, trivial, k1, fun _ => ⟨_, rfl⟩⟩⟩)
  rw [Nat.zero_add, hL] at g2
  obtain ⟨s1, s2, s3, s4, rfl, f1, _, _, _, f5⟩ := g2
  refine ⟨s2, s3, s4, fun h1 => ?_⟩
  obtain ⟨x, rfl⟩ := f5 h1
  have ex : x = .list ((lay b b).map rw') := by
    cases x <;> first | (cases f1; done) | skip
    rw [show _ = _ from f1]
  rw [← ex]
  exact g1
theorem all_f (h1 : 1 ≤ b) : ∃ s2 s3 s4, mFor (mRgI (mG1 (mVar 0))) (qN 2 false) (mTurn mi) [some (.d (.int (b : Nat))), some (.ol [.tuple []]), none, none, none, none] = .nx [some (.d (.int (b : Nat))), some (.d (.list ((lay b b).map rw'))), s2, s3, s4, none] := by
  obtain ⟨s2, s3, s4, g⟩ := all_for hs hb
  refine ⟨s2, s3, s4, ?_⟩
  have z : mRgI (mG1 (mVar 0)) [some (.d (.int (b : Nat))), some (.ol [.tuple []]), none, none, none, none] = .ok (rgD 0 (b : Nat)) [some (.d (.int (b : Nat))), some (.ol [.tuple []]), none, none, none, none] := es_rg (eg_1 (i := (b : Nat)) ev_var) (rgOk_small (by omega) (by omega) (by omega) (by omega))
  exact for_src z (g h1)
end
theorem all_0 {b : Nat} : mSet (qN 1 true) (mLst (mACons (mTup mANil) mANil)) (env0 6 [.d (.int (b : Nat))]) = .nx [some (.d (.int (b : Nat))), some (.ol [.tuple []]), none, none, none, none] := set_ev (ev_lst (ea_cons (ev_tup ea_nil) ea_nil))
theorem all_run {b : Nat} {mi : MI} (hs : Src b mi) (hb : b ≤ 6) (h1 : 1 ≤ b) : Rn (mSeq (mSet (qN 1 true) (mLst (mACons (mTup mANil) mANil))) (mSeq (mFor (mRgI (mG1 (mVar 0))) (qN 2 false) (mTurn mi)) (mRet (mVar 1)))) 6 [.d (.int (b : Nat))] (.d (.list ((lay b b).map rw'))) := by
  obtain ⟨s2, s3, s4, f⟩ := all_f hs hb h1
  exact ⟨[some (.d (.int (b : Nat))), some (.d (.list ((lay b b).map rw'))), s2, s3, s4, none], run_rt (seq_nx all_0 (seq_nx f (ret_ev ev_var)))⟩
theorem src_rg {b : Nat} (hb : b ≤ 6) : Src b (mRgI (mG1 (mVar 0))) := fun tl => es_rg (eg_1 (i := (b : Nat)) ev_var) (rgOk_small (by omega) (by omega) (by omega) (by omega))
theorem r_rounds {b : Nat} (hb : b ≤ 6) : Rn m_rounds_of 1 [.d (.int (b : Nat))] (.d (.tuple (rgD 0 (b : Nat)))) :=
  ⟨_, run_ret (ev_rgT (eg_1 (i := (b : Nat)) ev_var) (rgOk_small (by omega) (by omega) (by omega) (by omega)))⟩
theorem src_rn {b : Nat} (hb : b ≤ 6) : Src b (mSq (mCall n_rounds_of m_rounds_of (mACons (mVar 0) mANil))) := fun tl => es_tup (ev_rn (ea_cons ev_var ea_nil) (r_rounds hb))
theorem r_law_all {b : Nat} (h1 : 1 ≤ b) (hb : b ≤ 6) : Rn m__law_all 6 [.d (.int (b : Nat))] (.d (.list ((lay b b).map rw'))) := all_run (src_rg hb) hb h1
theorem r_all_rows {b : Nat} (h1 : 1 ≤ b) (hb : b ≤ 6) : Rn m_all_rows 6 [.d (.int (b : Nat))] (.d (.list ((lay b b).map rw'))) := all_run (src_rn hb) hb h1
end Pwk91

set_option Elab.async false
set_option linter.all false
set_option maxRecDepth 100000
set_option maxHeartbeats 4000000
/-! k91: which rows have a mark. -/
namespace Pwk91
open PySem PySem.Spec PyProof.Rows L2 Pw
inductive Mk where
  | B (ts : List (Option Int))
  | U (up : Bool) (p s : Nat)
def oD : Option Int → D
  | none => .none
  | some i => .int i
def wayS (up : Bool) : Str := if up = true then "up" else "down"
def Mk.toD : Mk → D
  | .B ts => .tuple [.str "bells", .tuple (ts.map oD)]
  | .U up p s => .tuple [.str "run", .str (wayS up), .int (p : Nat), .int (s : Nat)]
def Mk.ok (b : Nat) : Mk → Prop
  | .B ts => ts.length = b ∧ (∀ c ∈ ts.filterMap id, 0 ≤ c ∧ c < (b : Nat)) ∧ (ts.filterMap id).Nodup ∧ ts.filterMap id ≠ []
  | .U _ p s => 2 ≤ s ∧ p + s ≤ b
def by' (up : Bool) : Int := if up = true then 1 else -1
def hv (row : List Int) : Mk → Bool
  | .B ts => (ts.zip row).all fun q => match q.1 with
    | none => true
    | some c => decide (c = q.2)
  | .U up p s => (List.range (s - 1)).all fun i => decide (row.getD (p + i + 1) 0 = row.getD (p + i) 0 + by' up)
/-- the law's word -/
def hw (row : List Int) : Mk → Bool
  | .B ts => (ts.zip row).all fun q => match q.1 with
    | none => true
    | some c => decide (c = q.2)
  | .U up p s => decide ((row.drop p).take s = (List.range s).map fun (i : Nat) => ((row.drop p).take s).getD 0 0 + if up = true then (i : Int) else 0 - (i : Int))
theorem pIx_row {row : List Int} {k : Int} (h0 : 0 ≤ k) (h1 : k < (row.length : Nat)) : pIx (rw' row) (.int k) = some (.d (.int (row.getD k.toNat 0))) := by
  have h : k.toNat < row.length := by omega
  have e : k = ((k.toNat : Nat) : Int) := by omega
  have g : (row.map PyData.int)[k.toNat]? = some (.int (row.getD k.toNat 0)) := by
    rw [List.getElem?_map, List.getElem?_eq_getElem h, List.getD_eq_getElem?_getD, List.getElem?_eq_getElem h] <;> rfl
  have z := pIx_tup g
  rw [← e] at z
  exact z
theorem eqvAll_inz : ∀ {l k : List Int}, PyData.eqvAll (l.map PyData.int) (k.map PyData.int) = decide (l = k)
  | [], [] => by simp [PyData.eqvAll]
  | [], _ :: _ => by simp [PyData.eqvAll]
  | _ :: _, [] => by simp [PyData.eqvAll]
  | x :: l, y :: k => by
    rw [List.map_cons, List.map_cons, PyData.eqvAll, eqvAll_inz, Bool.eq_iff_iff]
    simp [PyData.eqv]
theorem pEqT_rows {l k : List Int} : pEqT (.tuple (l.map PyData.int)) (.tuple (k.map PyData.int)) = some (.d (.bool (decide (l = k)))) := by
  show pEq _ _ = _
  unfold pEq
  have h : ∀ l : List Int, okD 40 (.tuple (l.map PyData.int)) = true := fun l => by
    show okDs 39 _ = true
    exact okDs_ints _ _
  rw [h, h]
  simp only [Bool.and_self, if_true, bR, PyData.eqv, eqvAll_inz]
/-- the item of a zip -/
def fz : D → Bool
  | .tuple [t, .int c] => isN t || (match t with
    | .int i => decide (i = c)
    | _ => false)
  | _ => false
theorem zip_items : ∀ {ts : List (Option Int)} {row : List Int}, zipD (ts.map oD) (row.map PyData.int) = (ts.zip row).map fun q => .tuple [oD q.1, .int q.2]
  | [], _ => rfl
  | _ :: _, [] => rfl
  | t :: ts, c :: row => by
    show PyData.tuple [oD t, .int c] :: zipD (ts.map oD) (row.map PyData.int) = _
    rw [zip_items] <;> rfl
theorem zip_all {ts : List (Option Int)} {row : List Int} : (zipD (ts.map oD) (row.map PyData.int)).all fz = hv row (.B ts) := by
  rw [zip_items, List.all_map]
  unfold hv
  congr 1
  funext q
  obtain ⟨t, c⟩ := q
  cases t <;> rfl
theorem num_items {G : Nat → D → D} {f : D → Bool} : ∀ {ts : List (Option Int)} {row : List Int} {k : Nat}, ts.length = row.length → (∀ i t c, row[i]? = some c → f (G (k + i) (oD t)) = match t with | none => true | some d => decide (d = c)) → ((ts.map oD).mapIdx fun i x => G (k + i) x).all f = hv row (.B ts)
  | [], [], _, _, _ => rfl
  | [], _ :: _, _, h, _ => by cases h
  | _ :: _, [], _, h, _ => by cases h
  | t :: ts, c :: row, k, h, g => by
    have ih := num_items (G := G) (f := f) (ts := ts) (row := row) (k := k + 1) (by simpa using h) (fun i t c hi => by
      rw [show k + 1 + i = k + (i + 1) by omega]
      exact g (i + 1) t c (by simpa using hi))
    have e : (fun (i : Nat) (x : D) => G (k + (i + 1)) x) = fun i x => G (k + 1 + i) x := by
      funext i x
      rw [show k + (i + 1) = k + 1 + i by omega]
    rw [List.map_cons, List.mapIdx_cons, List.all_cons, e, ih, g 0 t c rfl]
    cases t <;> rfl
/-- the item of an enumeration -/
def fe (row : List Int) : D → Bool
  | .tuple [.int i, t] => isN t || (match t with
    | .int d => decide (row.getD i.toNat 0 = d)
    | _ => false)
  | _ => false
theorem num_all {ts : List (Option Int)} {row : List Int} (h : ts.length = row.length) : (numD (ts.map oD)).all (fe row) = hv row (.B ts) := by
  have z := num_items (G := fun i x => .tuple [.int (i : Nat), x]) (f := fe row) (k := 0) h (fun i t c hi => by
    cases t with
    | none => rfl
    | some d =>
      show (isN (.int d) || decide (row.getD ((0 + i : Nat) : Int).toNat 0 = d)) = decide (d = c)
      have e : ((0 + i : Nat) : Int).toNat = i := by omega
      rw [e, List.getD_eq_getElem?_getD, hi, Bool.eq_iff_iff]
      simp [isN, eq_comm])
  simp only [Nat.zero_add] at z
  exact z
theorem hw_hv : ∀ (b : Nat), b = 3 ∨ b = 4 ∨ b = 5 → ∀ row ∈ lay b b, ∀ m : Mk, m.ok b → hw row m = hv row m := by
  have k : ∀ b ∈ [3, 4, 5], ∀ row ∈ lay b b, ∀ p ∈ List.range 5, ∀ s ∈ List.range 6, p + s ≤ b → 2 ≤ s → hw row (.U true p s) = hv row (.U true p s) ∧ hw row (.U false p s) = hv row (.U false p s) := by decide +kernel
  intro b hb row hr m ho
  cases m with
  | B ts => rfl
  | U up p s =>
    obtain ⟨h1, h2⟩ := ho
    have hb6 : b ≤ 5 := by omega
    have z := k b (by simp; omega) row hr p (by simp; omega) s (by simp; omega) h2 h1
    cases up
    · exact z.2
    · exact z.1
end Pwk91

set_option Elab.async false
set_option linter.all false
set_option maxRecDepth 100000
set_option maxHeartbeats 4000000
/-! k91: which rows have a mark: the program, the law. -/
namespace Pwk91
open PySem PySem.Spec PyProof.Rows L2 Pw
theorem zip_mem {ts : List (Option Int)} {row : List Int} {x : D} (h : x ∈ zipD (ts.map oD) (row.map PyData.int)) : ∃ t c, x = .tuple [oD t, .int c] := by
  rw [zip_items] at h
  obtain ⟨q, _, rfl⟩ := List.mem_map.mp h
  exact ⟨_, _, rfl⟩
theorem num_mem {ts : List (Option Int)} {x : D} (h : x ∈ numD (ts.map oD)) : ∃ (i : Nat) (t : Option Int), i < ts.length ∧ x = .tuple [.int (i : Nat), oD t] := by
  obtain ⟨i, hi, rfl⟩ := List.mem_mapIdx.mp h
  rw [List.length_map] at hi
  exact ⟨i, ts[i], hi, by rw [List.getElem_map]⟩
theorem run_ne : decide (("run" : Str) = "bells") = false := by decide +kernel
theorem way_up {up : Bool} : decide (wayS up = "up") = up := by cases up <;> decide +kernel
theorem rgD_len {a b : Int} : (rgD a b).length = (b - a).toNat := by simp [rgD]
theorem r_does_have {row : List Int} {m : Mk} {b : Nat} (hb : b ≤ 6) (hr : row.length = b) (ho : m.ok b) : Rn m_does_have 10 [.d (rw' row), .d m.toD] (.d (.bool (hv row m))) := by
  cases m with
  | B ts =>
    obtain ⟨h1, _⟩ := ho
    have zl : Ev (mLc (mZip (m2 true pIx (mVar 1) (mC (.int 1))) (mVar 0)) (qTup 2 (qCons (qN 8 false) (qCons (qN 9 false) qNil))) mYes (mOrV (mTst (m2 true pIs (mVar 8) (mC .none))) (m2 true pEqT (mVar 8) (mVar 9))) [8, 9]) (env0 10 [.d (rw' row), .d (Mk.B ts).toD]) (.ol ((zipD (ts.map oD) (row.map PyData.int)).map fun x => .bool (fz x))) := by
      refine ev_lcA (g := fun x => .bool (fz x)) (es_zipT (ev_m2 ev_var ev_c pIx_1) ev_var) (fun x hx => ?_) ?_
      · obtain ⟨t, c, rfl⟩ := zip_mem hx
        refine ⟨[some (.d (rw' row)), some (.d (Mk.B ts).toD), none, none, none, none, none, none, some (.d (oD t)), some (.d (.int c))], rfl, ?_, rfl⟩
        refine ev_orB (et_tst (ev_m2 ev_var ev_c (pIs_none _))) fun e => ?_
        cases t with
        | none => cases e
        | some i => exact ev_m2 ev_var ev_var (pEqT_int _ _)
      · rw [zip_items, List.length_map, List.length_zip]
        omega
    have z := ev_mN (kl := true) (ea_cons zl ea_nil) (pAll_map _ _)
    rw [zip_all] at z
    exact ⟨_, run_rt (seq_rt (if_t (et_tst (ev_m2 (ev_m2 ev_var ev_c pIx_0) ev_c (pEqT_str "bells" "bells"))) (ret_ev z)))⟩
  | U up p s =>
    obtain ⟨h1, h2⟩ := ho
    let e1 : En := [some (.d (rw' row)), some (.d (Mk.U up p s).toD), some (.d (.str "run")), some (.d (.str (wayS up))), some (.d (.int (p : Nat))), some (.d (.int (s : Nat))), none, none, none, none]
    let e2 : En := [some (.d (rw' row)), some (.d (Mk.U up p s).toD), some (.d (.str "run")), some (.d (.str (wayS up))), some (.d (.int (p : Nat))), some (.d (.int (s : Nat))), some (.d (.int (by' up))), none, none, none]
    have s1 : mSet (qN 6 false) (mIf (mTst (m2 true pEqT (mVar 3) (mC (.str "up")))) (mC (.int 1)) (m1 true pNeg (mC (.int 1)))) e1 = .nx e2 := by
      refine set_ev (r := .d (.int (by' up))) (e' := e1) (ev_if ((et_tst (ev_m2 ev_var ev_c (pEqT_str _ _))).to way_up) (fun e => ?_) (fun e => ?_))
      · subst e; exact ev_c
      · subst e; exact ev_m1 ev_c rfl
    have hL : (rgD (p : Nat) ((p : Nat) + (s : Nat) - 1)) = (List.range (s - 1)).map fun i => PyData.int ((p : Int) + (i : Nat)) := by
      unfold rgD
      congr 2
      omega
    have zl : Ev (mLc (mRgI (mG2 (mVar 4) (m2 true pSub (m2 false pAdd (mVar 4) (mVar 5)) (mC (.int 1))))) (qN 7 false) mYes (m2 true pEqT (m2 true pIx (mVar 0) (m2 false pAdd (mVar 7) (mC (.int 1)))) (m2 false pAdd (m2 true pIx (mVar 0) (mVar 7)) (mVar 6))) [7]) e2
        (.ol ((rgD (p : Nat) ((p : Nat) + (s : Nat) - 1)).map fun x => .bool (match x with | .int k => decide (row.getD (k + 1).toNat 0 = row.getD k.toNat 0 + by' up) | _ => false))) := by
      refine ev_lcA (g := fun x => .bool (match x with | .int k => decide (row.getD (k + 1).toNat 0 = row.getD k.toNat 0 + by' up) | _ => false)) (es_rg (eg_2 (i := (p : Nat)) (j := (p : Nat) + (s : Nat) - 1) ev_var (ev_m2 (ev_m2 ev_var ev_var (pAdd_int _ _)) ev_c (pSub_int _ _))) (rgOk_small (by omega) (by omega) (by omega) (by omega))) (fun x hx => ?_) (by rw [rgD_len]; omega)
      rw [hL] at hx
      obtain ⟨i, hi, rfl⟩ := List.mem_map.mp hx
      rw [List.mem_range] at hi
      refine ⟨[some (.d (rw' row)), some (.d (Mk.U up p s).toD), some (.d (.str "run")), some (.d (.str (wayS up))), some (.d (.int (p : Nat))), some (.d (.int (s : Nat))), some (.d (.int (by' up))), some (.d (.int ((p : Int) + (i : Nat)))), none, none], rfl, ?_, rfl⟩
      exact ev_m2 (ev_m2 ev_var (ev_m2 ev_var ev_c (pAdd_int _ _)) (pIx_row (row := row) (k := (p : Int) + (i : Nat) + 1) (by omega) (by omega))) (ev_m2 (ev_m2 ev_var ev_var (pIx_row (row := row) (k := (p : Int) + (i : Nat)) (by omega) (by omega))) ev_var (pAdd_int _ _)) (pEqT_int _ _)
    have z := ev_mN (kl := true) (ea_cons zl ea_nil) (pAll_map _ _)
    have e3 : ((rgD (p : Nat) ((p : Nat) + (s : Nat) - 1)).all fun x => match x with | .int k => decide (row.getD (k + 1).toNat 0 = row.getD k.toNat 0 + by' up) | _ => false) = hv row (.U up p s) := by
      rw [hL, List.all_map]
      unfold hv
      congr 1
    rw [e3] at z
    exact ⟨_, run_rt (seq_nx (if_f ((et_tst (ev_m2 (ev_m2 ev_var ev_c pIx_0) ev_c (pEqT_str "run" "bells"))).to run_ne) rfl) (seq_nx (e' := e1) (set_ev ev_var) (seq_nx s1 (ret_ev z))))⟩
theorem cut_row {l : List Int} {p s : Nat} (h : p + s ≤ l.length) : cutL (l.map PyData.int) (some ((p : Nat) : Int)) (some ((p : Int) + (s : Int))) = ((l.drop p).take s).map PyData.int := by
  unfold cutL
  rw [show ((p : Int) + (s : Int)) = ((p + s : Nat) : Int) by omega, HT.sIx_nat, HT.sIx_nat, List.length_map, Nat.min_eq_left (show p ≤ l.length by omega), Nat.min_eq_left h, show p + s - p = s by omega, ← List.map_drop, ← List.map_take]
theorem so_ev {m : ME} {env : En} {i : Int} (h : Ev m env (.d (.int i))) : mSo m env = .ok (some i) env := by
  unfold mSo
  rw [show m env = .ok _ env from h] <;> rfl
theorem cut_ev {m : ME} {lo hi : MO} {env : En} {xs : List D} {i j : Option Int} (h : Ev m env (.d (.tuple xs))) (h1 : lo env = .ok i env) (h2 : hi env = .ok j env) : Ev (mCut m lo hi) env (.d (.tuple (cutL xs i j))) := by
  unfold Ev mCut
  rw [show m env = .ok _ env from h]
  simp only [Res.bind, h1, h2]
  rfl
theorem r_law_has {row : List Int} {m : Mk} {b : Nat} (hb : b ≤ 6) (hr : row.length = b) (ho : m.ok b) : Rn m__law_has 5 [.d (rw' row), .d m.toD] (.d (.bool (hw row m))) := by
  cases m with
  | B ts =>
    obtain ⟨h1, _⟩ := ho
    have zl : Ev (mLc (mEnum (m2 true pIx (mVar 1) (mC (.int 1)))) (qTup 2 (qCons (qN 3 false) (qCons (qN 4 false) qNil))) mYes (mOrV (mTst (m2 true pIs (mVar 4) (mC .none))) (m2 true pEqT (m2 true pIx (mVar 0) (mVar 3)) (mVar 4))) [3, 4]) (env0 5 [.d (rw' row), .d (Mk.B ts).toD]) (.ol ((numD (ts.map oD)).map fun x => .bool (fe row x))) := by
      refine ev_lcA (g := fun x => .bool (fe row x)) (es_enum (es_tup (ev_m2 ev_var ev_c pIx_1))) (fun x hx => ?_) ?_
      · obtain ⟨i, t, hi, rfl⟩ := num_mem hx
        refine ⟨[some (.d (rw' row)), some (.d (Mk.B ts).toD), none, some (.d (.int (i : Nat))), some (.d (oD t))], rfl, ?_, rfl⟩
        refine ev_orB (et_tst (ev_m2 ev_var ev_c (pIs_none _))) fun e => ?_
        cases t with
        | none => cases e
        | some c => exact ev_m2 (ev_m2 ev_var ev_var (pIx_row (row := row) (k := (i : Nat)) (by omega) (by omega))) ev_var (pEqT_int _ _)
      · unfold numD
        rw [List.length_mapIdx, List.length_map]
        omega
    have z := ev_mN (kl := true) (ea_cons zl ea_nil) (pAll_map _ _)
    rw [num_all (by omega)] at z
    exact ⟨_, run_rt (seq_rt (if_t (et_tst (ev_m2 (ev_m2 ev_var ev_c pIx_0) ev_c (pEqT_str "bells" "bells"))) (ret_ev z)))⟩
  | U up p s =>
    obtain ⟨h1, h2⟩ := ho
    let sm := (row.drop p).take s
    let e1 : En := [some (.d (rw' row)), some (.d (Mk.U up p s).toD), some (.d (.tuple (sm.map PyData.int))), none, none]
    have hsm : sm.length = s := by
      show ((row.drop p).take s).length = s
      rw [List.length_take, List.length_drop]
      omega
    have s1 : mSet (qN 2 true) (mCut (mVar 0) (mSo (m2 true pIx (mVar 1) (mC (.int 2)))) (mSo (m2 false pAdd (m2 true pIx (mVar 1) (mC (.int 2))) (m2 true pIx (mVar 1) (mC (.int 3)))))) (env0 5 [.d (rw' row), .d (Mk.U up p s).toD]) = .nx e1 := by
      have z : Ev (mCut (mVar 0) (mSo (m2 true pIx (mVar 1) (mC (.int 2)))) (mSo (m2 false pAdd (m2 true pIx (mVar 1) (mC (.int 2))) (m2 true pIx (mVar 1) (mC (.int 3)))))) (env0 5 [.d (rw' row), .d (Mk.U up p s).toD]) (.d (.tuple (cutL (row.map PyData.int) (some ((p : Nat) : Int)) (some ((p : Int) + (s : Int)))))) := cut_ev ev_var (so_ev (ev_m2 ev_var ev_c pIx_2)) (so_ev (ev_m2 (ev_m2 ev_var ev_c pIx_2) (ev_m2 ev_var ev_c pIx_3) (pAdd_int _ _)))
      rw [cut_row (by omega)] at z
      exact set_ev z
    have zl : Ev (mLc (mRgI (mG1 (m2 true pIx (mVar 1) (mC (.int 3))))) (qN 3 false) mYes (mFrz (m2 false pAdd (m2 true pIx (mVar 2) (mC (.int 0))) (mIf (mTst (m2 true pEqT (m2 true pIx (mVar 1) (mC (.int 1))) (mC (.str "up")))) (mVar 3) (m2 true pSub (mC (.int 0)) (mVar 3))))) [3]) e1
        (.ol ((rgD 0 (s : Nat)).map fun x => match x with | .int k => .int (sm.getD 0 0 + if up = true then k else 0 - k) | _ => .none)) := by
      refine ev_lcA (g := fun x => match x with | .int k => .int (sm.getD 0 0 + if up = true then k else 0 - k) | _ => .none) (es_rg (eg_1 (i := (s : Nat)) (ev_m2 ev_var ev_c pIx_3)) (rgOk_small (by omega) (by omega) (by omega) (by omega))) (fun x hx => ?_) (by rw [rgD_len]; omega)
      rw [rgD_ints] at hx
      obtain ⟨k, _, rfl⟩ := List.mem_map.mp hx
      refine ⟨[some (.d (rw' row)), some (.d (Mk.U up p s).toD), some (.d (.tuple (sm.map PyData.int))), some (.d (.int k)), none], rfl, ?_, rfl⟩
      refine ev_frz (ev_m2 (y := .int (if up = true then k else 0 - k)) (ev_m2 (y := .int 0) ev_var ev_c (pIx_row (row := sm) (k := 0) (by omega) (by omega))) (r2 := .d (.int (if up = true then k else 0 - k))) (ev_if ((et_tst (ev_m2 (ev_m2 ev_var ev_c pIx_1) ev_c (pEqT_str _ _))).to way_up) (fun e => ?_) (fun e => ?_)) (pAdd_int _ _))
      · subst e; exact ev_var
      · subst e; exact ev_m2 ev_c ev_var (pSub_int _ _)
    have e3 : ((rgD 0 (s : Nat)).map fun x => match x with | .int k => PyData.int (sm.getD 0 0 + if up = true then k else 0 - k) | _ => .none) = ((List.range s).map fun (i : Nat) => sm.getD 0 0 + if up = true then (i : Int) else 0 - (i : Int)).map PyData.int := by
      rw [rgD_ints, List.map_map]
      unfold inz
      rw [List.map_map, List.map_map]
      rfl
    rw [e3] at zl
    exact ⟨_, run_rt (seq_nx (if_f ((et_tst (ev_m2 (ev_m2 ev_var ev_c pIx_0) ev_c (pEqT_str "run" "bells"))).to run_ne) rfl) (seq_nx s1 (ret_ev (ev_m2 (y := .tuple (((List.range s).map fun (i : Nat) => sm.getD 0 0 + if up = true then (i : Int) else 0 - (i : Int)).map PyData.int)) ev_var (ev_mN (ea_cons zl ea_nil) (show pTup [.list _] = some (.d (.tuple _)) from rfl)) pEqT_rows))))⟩
end Pwk91

set_option Elab.async false
set_option linter.all false
set_option maxRecDepth 100000
set_option maxHeartbeats 4000000
/-! k91: marks are marks, rows are rows; rows_with. -/
namespace Pwk91
open PySem PySem.Spec PyProof.Rows L2 Pw
section
variable {α : Type} {q : MQ} {tt : MT} {me : ME} {mi : MI} {vs : List Nat} {env : En} {h g : α → D} {f : α → Bool}
theorem lc_mapM : ∀ {l : List α} {acc : List D}, (∀ x ∈ l, ∃ e1, q (.d (h x)) env = some e1 ∧ tt e1 = .ok (f x) e1 ∧ (f x = true → me e1 = .ok (.d (g x)) e1) ∧ wipeE e1 vs = env) → acc.length + l.length ≤ 16777216 →
    lcGo q tt me vs acc (l.map h) env = .ok (acc ++ (l.filter f).map g) env
  | [], acc, _, _ => by simp [lcGo]
  | x :: xs, acc, hh, hl => by
    obtain ⟨e1, h1, h2, h3, h4⟩ := hh x List.mem_cons_self
    have ht := fun y hy => hh y (List.mem_cons_of_mem _ hy)
    simp only [List.length_cons] at hl
    rw [List.map_cons]
    unfold lcGo
    simp only [h1, h2]
    cases hf : f x with
    | false =>
      simp only [h4]
      rw [lc_mapM ht (by omega), List.filter_cons_of_neg (by rw [hf]; decide)]
    | true =>
      simp only [h3 hf]
      rw [if_pos (by omega), h4, lc_mapM ht (by simp only [List.length_append, List.length_singleton]; omega), List.filter_cons_of_pos hf]
      simp
theorem ev_lcF {l : List α} (hi : mi env = .ok (l.map h) env) (hh : ∀ x ∈ l, ∃ e1, q (.d (h x)) env = some e1 ∧ tt e1 = .ok (f x) e1 ∧ (f x = true → me e1 = .ok (.d (g x)) e1) ∧ wipeE e1 vs = env) (hl : l.length ≤ 16777216) (hw : wipeE env vs = env := by rfl) :
    Ev (mLc mi q tt me vs) env (.ol ((l.filter f).map g)) := by
  unfold Ev mLc
  rw [hi]
  simp only [Res.bind, hw]
  rw [lc_mapM hh (by simpa using hl)]
  simp
theorem ev_lcM {l : List α} (hi : mi env = .ok (l.map h) env) (hh : ∀ x ∈ l, ∃ e1, q (.d (h x)) env = some e1 ∧ me e1 = .ok (.d (g x)) e1 ∧ wipeE e1 vs = env) (hl : l.length ≤ 16777216) (hw : wipeE env vs = env := by rfl) :
    Ev (mLc mi q mYes me vs) env (.ol (l.map g)) := by
  have z := ev_lcF (tt := mYes) (f := fun _ => true) (g := g) hi (fun x hx => by
    obtain ⟨e1, h1, h2, h3⟩ := hh x hx
    exact ⟨e1, h1, rfl, fun _ => h2, h3⟩) hl hw
  rw [List.filter_eq_self.mpr (fun _ _ => rfl)] at z
  exact z
end
theorem bdl_mono : ∀ {Ls Ms : List Nat} {x : D}, bdl Ls x = true → Ls.length ≤ Ms.length → (∀ i, i < Ls.length → Ls.getD i 0 ≤ Ms.getD i 0) → bdl Ms x = true
  | _, _, .none, _, _, _ => bdl_none
  | _, _, .bool _, _, _, _ => bdl_bool
  | _, _, .int i, h, _, _ => bdl_int.mpr (bdl_int.mp h)
  | _, _, .str i, h, _, _ => by rw [bdl_str] at h ⊢; exact h
  | _, _, .dict i, h, _, _ => by rw [bdl_dict] at h; cases h
  | [], _, .list i, h, _, _ => by rw [bdl_nolist] at h; cases h
  | [], _, .tuple i, h, _, _ => by rw [bdl_notuple] at h; cases h
  | _ :: _, [], .list _, _, h, _ => by simp at h
  | _ :: _, [], .tuple _, _, h, _ => by simp at h
  | L :: Ls, M :: Ms, .list xs, h, hl, hm => by
    obtain ⟨h1, h2⟩ := bdl_list.mp h
    have h0 := hm 0 (by simp)
    simp only [List.getD_cons_zero] at h0
    exact bdl_list.mpr ⟨by omega, fun y hy => bdl_mono (h2 y hy) (by simpa using hl) fun i hi => by simpa using hm (i + 1) (by simpa using hi)⟩
  | L :: Ls, M :: Ms, .tuple xs, h, hl, hm => by
    obtain ⟨h1, h2⟩ := bdl_tuple.mp h
    have h0 := hm 0 (by simp)
    simp only [List.getD_cons_zero] at h0
    exact bdl_tuple.mpr ⟨by omega, fun y hy => bdl_mono (h2 y hy) (by simpa using hl) fun i hi => by simpa using hm (i + 1) (by simpa using hi)⟩
theorem told_oD : ∀ {ts : List (Option Int)}, told (ts.map oD) = (ts.filterMap id).map PyData.int
  | [] => rfl
  | none :: ts => by
    rw [List.map_cons, List.filterMap_cons_none rfl, ← told_oD] <;> rfl
  | some c :: ts => by
    show _ = PyData.int c :: (ts.filterMap id).map PyData.int
    rw [← told_oD] <;> rfl
theorem all_wi {a b : Int} {l : List Int} (h : ∀ c ∈ l, a ≤ c ∧ c ≤ b) : (l.map PyData.int).all (wi a b) = true := by
  rw [List.all_map, List.all_eq_true]
  intro c m
  simp [wi, h c m]
theorem mk_ok {b : Nat} {m : Mk} (h : m.ok b) : mk (b : Nat) m.toD = true := by
  cases m with
  | B ts =>
    obtain ⟨h1, h2, h3, h4⟩ := h
    show (decide (("bells" : Str) = "bells") && apl (b : Nat) (ts.map oD)) = true
    rw [decide_eq_true rfl, Bool.true_and]
    unfold apl
    have e1 : decide (((ts.map oD).length : Int) = (b : Nat)) = true := decide_eq_true (by rw [List.length_map, h1])
    have e2 : (told (ts.map oD)).all (wi 0 ((b : Nat) - 1)) = true := by
      rw [told_oD]
      exact all_wi fun c m => ⟨(h2 c m).1, by have := (h2 c m).2; omega⟩
    have e3 : decide (0 < ((told (ts.map oD)).length : Int)) = true := by
      rw [told_oD, List.length_map]
      have := List.length_pos_iff.mpr h4
      exact decide_eq_true (by omega)
    have e4 : dup (ts.map oD) = true := by
      unfold dup
      rw [told_oD, asInts_of]
      simp only [dd_self h3, decide_true]
    rw [e1, e2, e3, e4] <;> rfl
  | U up p s =>
    obtain ⟨h1, h2⟩ := h
    have e : isWay (wayS up) = true := by cases up <;> decide +kernel
    show (decide (("run" : Str) = "run") && (isWay (wayS up) && okRun (b : Nat) (.int (p : Nat)) (.int (s : Nat)))) = true
    rw [decide_eq_true rfl, e]
    simp only [okRun, wi, Bool.true_and, Bool.and_eq_true, decide_eq_true_eq]
    omega
theorem mk_bdl {b : Nat} {m : Mk} (hb : b ≤ 6) (h : m.ok b) : bdl [4, 6] m.toD = true := by
  cases m with
  | B ts =>
    obtain ⟨h1, h2, h3, h4⟩ := h
    refine bdl_tuple.mpr ⟨by simp, fun y hy => ?_⟩
    simp only [List.mem_cons, List.not_mem_nil, or_false] at hy
    rcases hy with rfl | rfl
    · rw [bdl_str]; decide +kernel
    · refine bdl_tuple.mpr ⟨by rw [List.length_map]; omega, fun y hy => ?_⟩
      obtain ⟨t, ht, rfl⟩ := List.mem_map.mp hy
      cases t with
      | none => exact bdl_none
      | some c =>
        have := h2 c (List.mem_filterMap.mpr ⟨some c, ht, rfl⟩)
        exact bdl_int.mpr (by omega)
  | U up p s =>
    obtain ⟨h1, h2⟩ := h
    refine bdl_tuple.mpr ⟨by simp, fun y hy => ?_⟩
    simp only [List.mem_cons, List.not_mem_nil, or_false] at hy
    rcases hy with rfl | rfl | rfl | rfl
    · rw [bdl_str]; decide +kernel
    · rw [bdl_str]; cases up <;> decide +kernel
    · exact bdl_int.mpr (by omega)
    · exact bdl_int.mpr (by omega)
theorem bdl_LV {x : D} (h : bdl [4, 6] x = true) : bdl LV x = true := bdl_mono h (by decide) (by decide)
theorem bdl_LV2 {x : D} (h : bdl [5, 7, 1] x = true) : bdl LV x = true := bdl_mono h (by decide) (by decide)
theorem mk_LV {b : Nat} {m : Mk} (hb : b ≤ 6) (h : m.ok b) : bdl LV m.toD = true := bdl_LV (mk_bdl hb h)
theorem r_want_mark {b : Nat} {m : Mk} (hb : b ≤ 6) (h : m.ok b) : Rn m_want_mark 2 [.d (.int (b : Nat)), .d m.toD] (.d .none) := by
  have z := @r_is_mark_of m.toD (b : Nat) (mk_LV hb h)
  rw [mk_ok h] at z
  exact ⟨_, run_nx (if_f (et_not (et_tst (ev_rn (ea_cons ev_var (ea_cons ev_var ea_nil)) z))) rfl)⟩
def RowOk (b : Nat) (row : List Int) : Prop := row.length = b ∧ row.Nodup ∧ ∀ c ∈ row, 0 ≤ c ∧ c < (b : Nat)
theorem rows_ok {b : Nat} (hb : b = 3 ∨ b = 4 ∨ b = 5) {row : List Int} (h : row ∈ lay b b) : RowOk b row := by
  have k : ∀ b ∈ [3, 4, 5], ∀ row ∈ lay b b, row.length = b ∧ row.Nodup ∧ ∀ c ∈ row, 0 ≤ c ∧ c < ((b : Nat) : Int) := by decide +kernel
  exact k b (by simp; omega) row h
theorem r_is_row_of {b : Nat} {row : List Int} (hb : b ≤ 6) (h : RowOk b row) : Rn m_is_row_of 3 [.d (.int (b : Nat)), .d (rw' row)] (.d (.bool true)) := by
  obtain ⟨h1, h2, h3⟩ := h
  have zl : Ev (mLc (mSq (mVar 1)) (qN 2 false) mYes (mCall n_is_within m_is_within (mACons (mVar 2) (mACons (mC (.int 0)) (mACons (m2 true pSub (mVar 0) (mC (.int 1))) mANil)))) [2]) (env0 3 [.d (.int (b : Nat)), .d (rw' row)]) (.ol ((row.map PyData.int).map fun d => .bool (wi 0 ((b : Nat) - 1) d))) :=
    ev_lcA (es_tup ev_var) (fun y hy => by
      obtain ⟨c, _, rfl⟩ := List.mem_map.mp hy
      exact ⟨[some (.d (.int (b : Nat))), some (.d (rw' row)), some (.d (.int c))], rfl, ev_rn (ea_cons ev_var (ea_cons ev_c (ea_cons (ev_m2 ev_var ev_c (pSub_int _ _)) ea_nil))) (r_is_within rfl), rfl⟩) (by rw [List.length_map]; omega)
  have za := ev_mN (kl := true) (ea_cons zl ea_nil) (pAll_map _ _)
  rw [all_wi fun c m => ⟨(h3 c m).1, by have := (h3 c m).2; omega⟩] at za
  have t1 := et_or (et_not (et_tst (ev_m1 (kl := false) (ev_var (env := env0 3 [.d (.int (b : Nat)), .d (rw' row)]) (i := 1)) (isi_tuple (x := rw' row) rfl)))) fun _ => et_or (et_tst (ev_m2 (kl := true) (ev_mN (kl := true) (ea_cons (ev_var (i := 1)) ea_nil) (pLen_tup (row.map PyData.int))) (ev_var (i := 0)) (pNeT_int _ (b : Nat)))) fun _ => et_not (et_tst za)
  have ls : lenSet (rw' row) = some (.d (.int (b : Nat))) := by
    unfold lenSet rw'
    simp only [asInts_of, dd_self h2]
    rw [if_pos (by omega), h1]
  have r : Ev (m2 true pEqT (m1 true lenSet (mVar 1)) (mVar 0)) (env0 3 [.d (.int (b : Nat)), .d (rw' row)]) (.d (.bool true)) := (ev_m2 (ev_m1 ev_var ls) ev_var (pEqT_int _ _)).to (by simp)
  exact ⟨_, run_rt (seq_nx (if_f (t1.to (by rw [List.length_map, h1]; simp [isTu, rw'])) rfl) (ret_ev r))⟩
theorem r_want_row {b : Nat} {row : List Int} (hb : b ≤ 6) (h : RowOk b row) : Rn m_want_row 2 [.d (.int (b : Nat)), .d (rw' row)] (.d .none) :=
  ⟨_, run_nx (if_f (et_not (et_tst (ev_rn (ea_cons ev_var (ea_cons ev_var ea_nil)) (r_is_row_of hb h)))) rfl)⟩
theorem bOk {b : Nat} (h : 3 ≤ b) (h2 : b ≤ 6) : BellsOk (b : Nat) := ⟨by omega, by omega⟩
theorem r_has_mark {b : Nat} {row : List Int} {m : Mk} (h3 : 3 ≤ b) (hb : b ≤ 6) (h : RowOk b row) (ho : m.ok b) : Rn m_has_mark 3 [.d (.int (b : Nat)), .d (rw' row), .d m.toD] (.d (.bool (hv row m))) :=
  ⟨_, run_rt (seq_nx (drp_ev (ev_rn (ea_cons ev_var ea_nil) (r_want_bells (bOk h3 hb)))) (seq_nx (drp_ev (ev_rn (ea_cons ev_var (ea_cons ev_var ea_nil)) (r_want_row hb h))) (seq_nx (drp_ev (ev_rn (ea_cons ev_var (ea_cons ev_var ea_nil)) (r_want_mark hb ho))) (ret_ev (ev_rn (ea_cons ev_var (ea_cons ev_var ea_nil)) (r_does_have hb h.1 ho))))))⟩
/-- a list or a tuple of marks -/
def Sq (x : D) (L : List D) : Prop := x = .list L ∨ x = .tuple L
theorem es_sq {x : D} {L : List D} {m : ME} {env : En} (h : Sq x L) (hm : Ev m env (.d x)) : mSq m env = .ok L env := by
  rcases h with rfl | rfl
  · exact es_lst hm
  · exact es_tup hm
theorem sq_len {x : D} {L : List D} (h : Sq x L) : pLen [x] = some (.d (.int (L.length : Nat))) := by rcases h with rfl | rfl <;> rfl
theorem sq_nd {x : D} {L : List D} (h : Sq x L) : noDict x = true := by rcases h with rfl | rfl <;> rfl
theorem sq_li {x : D} {L : List D} (h : Sq x L) : (isLi x || isTu x) = true := by rcases h with rfl | rfl <;> rfl
theorem r_want_marks {b : Nat} {ms : List Mk} {x : D} (hb : b ≤ 6) (ho : ∀ m ∈ ms, m.ok b) (hl : ms.length ≤ 8) (hx : Sq x (ms.map Mk.toD)) : Rn m_want_marks 3 [.d (.int (b : Nat)), .d x] (.d .none) := by
  have zl : Ev (mLc (mSq (mVar 1)) (qN 2 false) mYes (mCall n_is_mark_of m_is_mark_of (mACons (mVar 0) (mACons (mVar 2) mANil))) [2]) (env0 3 [.d (.int (b : Nat)), .d x]) (.ol (ms.map fun m => .bool (mk (b : Nat) m.toD))) :=
    ev_lcM (es_sq hx ev_var) (fun m hm => ⟨[some (.d (.int (b : Nat))), some (.d x), some (.d m.toD)], rfl, ev_rn (ea_cons ev_var (ea_cons ev_var ea_nil)) (r_is_mark_of (mk_LV hb (ho m hm))), rfl⟩) (by omega)
  have za := ev_mN (kl := true) (ea_cons zl ea_nil) (pAll_map _ _)
  have al : (ms.all fun m => mk (b : Nat) m.toD) = true := List.all_eq_true.mpr fun m hm => mk_ok (ho m hm)
  rw [al] at za
  have zt := @r_is_list x (sq_nd hx)
  rw [sq_li hx] at zt
  have t1 := et_or (et_not (et_tst (ev_rn (ea_cons (ev_var (env := env0 3 [.d (.int (b : Nat)), .d x]) (i := 1)) ea_nil) zt))) fun _ => et_or (et_tst (ev_m2 (kl := true) (ev_mN (kl := true) (ea_cons (ev_var (i := 1)) ea_nil) (sq_len hx)) (ev_c (x := .int 8)) (pGt_int _ _))) fun _ => et_not (et_tst za)
  exact ⟨_, run_nx (if_f (t1.to (by rw [List.length_map, decide_eq_false (by omega)]; rfl)) rfl)⟩
theorem all_sm {b : Nat} (hb : b ≤ 6) : (lay b b).length ≤ 46656 := by
  have h := lay_len hb b
  have : 6 ^ b ≤ 6 ^ 6 := Nat.pow_le_pow_right (by decide) hb
  omega
theorem r_rows_with {b : Nat} {ms : List Mk} {x : D} (h3 : 3 ≤ b) (hb : b ≤ 6) (ho : ∀ m ∈ ms, m.ok b) (hl : ms.length ≤ 8) (hx : Sq x (ms.map Mk.toD)) :
    Rn m_rows_with 4 [.d (.int (b : Nat)), .d x] (.ol (((lay b b).filter fun r => ms.all (hv r)).map rw')) := by
  have zl : Ev (mLc (mSq (mFrz (mCall n_all_rows m_all_rows (mACons (mVar 0) mANil)))) (qN 2 false) (mTst (mN true pAll (mACons (mLc (mSq (mVar 1)) (qN 3 false) mYes (mCall n_does_have m_does_have (mACons (mVar 2) (mACons (mVar 3) mANil))) [3]) mANil))) (mVar 2) [2]) (env0 4 [.d (.int (b : Nat)), .d x]) (.ol (((lay b b).filter fun r => ms.all (hv r)).map rw')) := by
    refine ev_lcF (es_lst (ev_frz (ev_rn (ea_cons ev_var ea_nil) (r_all_rows (by omega) hb)))) (fun r hr => ⟨[some (.d (.int (b : Nat))), some (.d x), some (.d (rw' r)), none], rfl, ?_, fun _ => ev_var, rfl⟩) (Nat.le_trans (all_sm hb) (by decide))
    have zi : Ev (mLc (mSq (mVar 1)) (qN 3 false) mYes (mCall n_does_have m_does_have (mACons (mVar 2) (mACons (mVar 3) mANil))) [3]) [some (.d (.int (b : Nat))), some (.d x), some (.d (rw' r)), none] (.ol (ms.map fun m => .bool (hv r m))) :=
      ev_lcM (es_sq hx ev_var) (fun m hm => ⟨[some (.d (.int (b : Nat))), some (.d x), some (.d (rw' r)), some (.d m.toD)], rfl, ev_rn (ea_cons ev_var (ea_cons ev_var ea_nil)) (r_does_have hb (lay_in hr) (ho m hm)), rfl⟩) (by omega)
    exact et_tst (ev_mN (ea_cons zi ea_nil) (pAll_map _ _))
  exact ⟨_, run_rt (seq_nx (drp_ev (ev_rn (ea_cons ev_var ea_nil) (r_want_bells (bOk h3 hb)))) (seq_nx (drp_ev (ev_rn (ea_cons ev_var (ea_cons ev_var ea_nil)) (r_want_marks hb ho hl hx))) (ret_ev zl)))⟩
end Pwk91

set_option Elab.async false
set_option linter.all false
set_option maxRecDepth 100000
set_option maxHeartbeats 4000000
/-! k91: the drawn marks. -/
namespace Pwk91
open PySem PySem.Spec PyProof.Rows L2 Pw
theorem ints_of {ys : List D} (h : ∀ y ∈ ys, ∃ k : Int, y = .int k) : ∃ ks : List Int, ys = ks.map PyData.int := by
  induction ys with
  | nil => exact ⟨[], rfl⟩
  | cons y ys ih =>
    obtain ⟨k, rfl⟩ := h y List.mem_cons_self
    obtain ⟨ks, rfl⟩ := ih fun z m => h z (List.mem_cons_of_mem _ m)
    exact ⟨k :: ks, rfl⟩
theorem sub_filter : ∀ {row : List Int} (F : Nat → Int → Bool), ((row.mapIdx fun i c => if F i c = true then some c else none).filterMap id).Sublist row
  | [], _ => by simp
  | c :: row, F => by
    rw [List.mapIdx_cons]
    have ih := sub_filter (row := row) fun i => F (i + 1)
    cases h : F 0 c with
    | true => exact ih.cons_cons c
    | false => exact ih.cons c
/-- the places of a drawn mark -/
def tsOf (ks row : List Int) (spot : Int) : List (Option Int) := row.mapIdx fun i c => if (decide (ks.getD i 0 = 0) || decide ((i : Int) = spot)) = true then some c else none
theorem tsOf_ok {b : Nat} {ks row : List Int} {spot : Int} (h : RowOk b row) (h0 : 0 ≤ spot) (h1 : spot < (b : Nat)) : (Mk.B (tsOf ks row spot)).ok b := by
  obtain ⟨r1, r2, r3⟩ := h
  have sb := sub_filter (row := row) fun i c => decide (ks.getD i 0 = 0) || decide ((i : Int) = spot)
  refine ⟨by unfold tsOf; rw [List.length_mapIdx, r1], fun c m => r3 c (sb.subset m), sb.nodup r2, fun e => ?_⟩
  have hi : spot.toNat < row.length := by omega
  have m : row[spot.toNat] ∈ (tsOf ks row spot).filterMap id := by
    refine List.mem_filterMap.mpr ⟨some row[spot.toNat], List.mem_mapIdx.mpr ⟨spot.toNat, hi, ?_⟩, rfl⟩
    rw [if_pos]
    have e2 : ((spot.toNat : Nat) : Int) = spot := by omega
    rw [Bool.or_eq_true]
    exact .inr (decide_eq_true e2)
  rw [e] at m
  exact nomatch m
theorem numD_int {row : List Int} {x : D} (h : x ∈ numD (row.map PyData.int)) : ∃ (i : Nat) (c : Int), i < row.length ∧ x = .tuple [.int (i : Nat), .int c] := by
  obtain ⟨i, hi, rfl⟩ := List.mem_mapIdx.mp h
  rw [List.length_map] at hi
  exact ⟨i, row[i], hi, by rw [List.getElem_map]⟩
def gt (ks : List Int) (spot : Int) : D → D
  | .tuple [.int i, c] => if (decide (ks.getD i.toNat 0 = 0) || decide (i = spot)) = true then c else .none
  | _ => .none
theorem gt_all {ks row : List Int} {spot : Int} : (numD (row.map PyData.int)).map (gt ks spot) = (tsOf ks row spot).map oD := by
  unfold numD tsOf
  refine List.ext_getElem (by simp) fun i h1 h2 => ?_
  have hi : i < row.length := by simpa using h2
  simp only [List.getElem_map, List.getElem_mapIdx]
  show (if (decide (ks.getD ((i : Nat) : Int).toNat 0 = 0) || decide (((i : Nat) : Int) = spot)) = true then PyData.int row[i] else .none) = _
  rw [show ((i : Nat) : Int).toNat = i from rfl]
  split <;> rfl
theorem r_law_mark {b : Nat} (hb : b = 3 ∨ b = 4 ∨ b = 5) {l : List D} (hp : PotOk l) : ∃ (m : Mk) (l' : List D), m.ok b ∧ PotOk l' ∧ RnP m__law_mark 8 l [.d (.int (b : Nat))] (.d m.toD) l' := by
  obtain ⟨d, l1, p1, d0, d1, q1⟩ := r_draw (n := 3) hp (by decide) (by decide)
  have t1 : mTst (m2 true pEqT (mCallP n__law_draw m__law_draw (mACons (mVar 0) (mACons (mC (.int 3)) mANil))) (mC (.int 0))) (env0 8 [.pl l, .d (.int (b : Nat))]) = .ok (decide (d = 0)) [some (.pl l1), some (.d (.int (b : Nat))), none, none, none, none, none, none] :=
    to_tst (to_m2 (to_rnP (ea_cons ev_c ea_nil) q1) ev_c (pEqT_int _ _))
  by_cases hd : d = 0
  · rw [decide_eq_true hd] at t1
    obtain ⟨pl, l2, p2, a0, a1, q2⟩ := r_draw (n := (b : Nat) - 1) p1 (by omega) (by omega)
    obtain ⟨y, hy, l3, p3, q3⟩ := r_pick (xs := [.str "up", .str "down"]) (x := .list [.str "up", .str "down"]) p2 (.inr rfl) (by simp) (by simp)
    obtain ⟨sz, l4, p4, c0, c1, q4⟩ := r_draw (n := (b : Nat) - pl - 1) p3 (by omega) (by omega)
    have hup : ∃ up, y = .str (wayS up) := by
      simp only [List.mem_cons, List.not_mem_nil, or_false] at hy
      rcases hy with rfl | rfl
      · exact ⟨true, rfl⟩
      · exact ⟨false, rfl⟩
    obtain ⟨up, rfl⟩ := hup
    have s1 : mSet (qN 2 false) (mCallP n__law_draw m__law_draw (mACons (mVar 0) (mACons (m2 true pSub (mVar 1) (mC (.int 1))) mANil))) [some (.pl l1), some (.d (.int (b : Nat))), none, none, none, none, none, none] = .nx [some (.pl l2), some (.d (.int (b : Nat))), some (.d (.int pl)), none, none, none, none, none] :=
      set_ev (to_rnP (ea_cons (ev_m2 ev_var ev_c (pSub_int _ _)) ea_nil) q2)
    have r1 : mTup (mACons (mC (.str "run")) (mACons (mCallP n__law_pick m__law_pick (mACons (mVar 0) (mACons (mFrz (mLst (mACons (mC (.str "up")) (mACons (mC (.str "down")) mANil)))) mANil))) (mACons (mVar 2) (mACons (m2 false pAdd (mC (.int 2)) (mCallP n__law_draw m__law_draw (mACons (mVar 0) (mACons (m2 true pSub (m2 true pSub (mVar 1) (mVar 2)) (mC (.int 1))) mANil)))) mANil)))) [some (.pl l2), some (.d (.int (b : Nat))), some (.d (.int pl)), none, none, none, none, none] = .ok (.d (.tuple [.str "run", .str (wayS up), .int pl, .int (2 + sz)])) [some (.pl l4), some (.d (.int (b : Nat))), some (.d (.int pl)), none, none, none, none, none] :=
      to_tup (to_cons ev_c (to_cons (to_rnP (ea_cons (ev_frzL (ev_lst (ea_cons ev_c (ea_cons ev_c ea_nil)))) ea_nil) q3) (to_cons ev_var (to_cons (to_m2 ev_c (to_rnP (ea_cons (ev_m2 (ev_m2 ev_var ev_var (pSub_int _ _)) ev_c (pSub_int _ _)) ea_nil) q4) (pAdd_int _ _)) to_nil))))
    refine ⟨.U up pl.toNat (2 + sz).toNat, l4, ⟨by omega, by omega⟩, p4, ?_⟩
    have e : (Mk.U up pl.toNat (2 + sz).toNat).toD = .tuple [.str "run", .str (wayS up), .int pl, .int (2 + sz)] := by
      show PyData.tuple [.str "run", .str (wayS up), .int ((pl.toNat : Nat) : Int), .int (((2 + sz).toNat : Nat) : Int)] = _
      rw [show ((pl.toNat : Nat) : Int) = pl by omega, show (((2 + sz).toNat : Nat) : Int) = 2 + sz by omega]
    rw [e]
    exact ⟨_, run_rt (seq_rt (if_t t1 (seq_nx s1 (ret_ev r1)))), rfl⟩
  · rw [decide_eq_false hd] at t1
    have hb1 : 1 ≤ b := by omega
    have hb6 : b ≤ 6 := by omega
    obtain ⟨y, hy, l2, p2, q2⟩ := r_pick (xs := (lay b b).map rw') (x := .list ((lay b b).map rw')) p1 (.inr rfl) (by
      have k : ∀ b ∈ [3, 4, 5], (lay b b).isEmpty = false := by decide +kernel
      have z := k b (by simp; omega)
      intro e
      rw [List.map_eq_nil_iff.mp e] at z
      cases z) (by have := all_sm hb6; rw [List.length_map]; omega)
    obtain ⟨row, hr, rfl⟩ := List.mem_map.mp hy
    have ro := rows_ok hb hr
    have hz : (rgD 0 (b : Int)).length = b := by rw [rgD_ints, List.length_map, ints_len]
    obtain ⟨ys, e', g1, ⟨l3, p3, rfl⟩, g3, g4⟩ := ev_lcI (Iv := fun e => ∃ l, PotOk l ∧ e = [some (.pl l), some (.d (.int (b : Nat))), none, none, none, none, none, none]) (Y := fun y => ∃ k : Int, y = .int k) (q := qN 2 false) (tt := mYes) (me := mCallP n__law_draw m__law_draw (mACons (mVar 0) (mACons (mC (.int 3)) mANil))) (vs := [2]) (mi := mRgI (mG1 (mVar 1)))
      (env := [some (.pl l2), some (.d (.int (b : Nat))), none, none, none, none, none, none]) (env1 := [some (.pl l2), some (.d (.int (b : Nat))), none, none, none, none, none, none]) (es_rg (eg_1 (i := (b : Nat)) ev_var) (rgOk_small (by omega) (by omega) (by omega) (by omega))) ⟨l2, p2, rfl⟩ (fun x _ e ⟨l, hl, he⟩ => by
        subst he
        obtain ⟨k, l', pk, _, _, qk⟩ := r_draw (n := 3) hl (by decide) (by decide)
        exact ⟨[some (.pl l), some (.d (.int (b : Nat))), some (.d x), none, none, none, none, none], _, .int k, [some (.pl l'), some (.d (.int (b : Nat))), some (.d x), none, none, none, none, none], rfl, rfl, to_rnP (ea_cons ev_c ea_nil) qk, ⟨l', pk, rfl⟩, ⟨k, rfl⟩⟩) (by rw [hz]; omega)
    obtain ⟨ks, rfl⟩ := ints_of g4
    have hk : ks.length = row.length := by
      rw [hz, List.length_map] at g3
      rw [g3, ro.1]
    obtain ⟨spot, l4, p4, c0, c1, q4⟩ := r_draw (n := (b : Nat)) p3 (by omega) (by omega)
    have s1 : mSet (qTup 2 (qCons (qN 3 false) (qCons (qN 4 false) qNil))) (mTup (mACons (mCallP n__law_pick m__law_pick (mACons (mVar 0) (mACons (mFrz (mCall n__law_all m__law_all (mACons (mVar 1) mANil))) mANil))) (mACons (mFrz (mLc (mRgI (mG1 (mVar 1))) (qN 2 false) mYes (mCallP n__law_draw m__law_draw (mACons (mVar 0) (mACons (mC (.int 3)) mANil))) [2])) mANil))) [some (.pl l1), some (.d (.int (b : Nat))), none, none, none, none, none, none] = .nx [some (.pl l3), some (.d (.int (b : Nat))), none, some (.d (rw' row)), some (.d (.list (ks.map PyData.int))), none, none, none] :=
      set_ev (to_tup (to_cons (to_rnP (ea_cons (ev_frz (ev_rn (ea_cons ev_var ea_nil) (r_law_all hb1 hb6))) ea_nil) q2) (to_cons (to_frzL g1) to_nil)))
    have s2 : mSet (qN 5 false) (mCallP n__law_draw m__law_draw (mACons (mVar 0) (mACons (mVar 1) mANil))) [some (.pl l3), some (.d (.int (b : Nat))), none, some (.d (rw' row)), some (.d (.list (ks.map PyData.int))), none, none, none] = .nx [some (.pl l4), some (.d (.int (b : Nat))), none, some (.d (rw' row)), some (.d (.list (ks.map PyData.int))), some (.d (.int spot)), none, none] :=
      set_ev (to_rnP (ea_cons ev_var ea_nil) q4)
    have zl : Ev (mLc (mEnum (mVar 3)) (qTup 2 (qCons (qN 6 false) (qCons (qN 7 false) qNil))) mYes (mIf (mOrT (mTst (m2 true pEqT (m2 true pIx (mVar 4) (mVar 6)) (mC (.int 0)))) (mTst (m2 true pEqT (mVar 6) (mVar 5)))) (mVar 7) (mC .none)) [6, 7]) [some (.pl l4), some (.d (.int (b : Nat))), none, some (.d (rw' row)), some (.d (.list (ks.map PyData.int))), some (.d (.int spot)), none, none] (.ol ((numD (row.map PyData.int)).map (gt ks spot))) := by
      refine ev_lcA (es_enum (es_tup (xs := row.map PyData.int) ev_var)) (fun x hx => ?_) (by unfold numD; rw [List.length_mapIdx, List.length_map]; have := ro.1; omega)
      obtain ⟨i, c, hi, rfl⟩ := numD_int hx
      refine ⟨[some (.pl l4), some (.d (.int (b : Nat))), none, some (.d (rw' row)), some (.d (.list (ks.map PyData.int))), some (.d (.int spot)), some (.d (.int (i : Nat))), some (.d (.int c))], rfl, ?_, rfl⟩
      have hx2 : pIx (.list (ks.map PyData.int)) (.int (i : Nat)) = some (.d (.int (ks.getD i 0))) := by
        refine pIx_lst ?_
        rw [List.getElem?_map, List.getElem?_eq_getElem (by omega), List.getD_eq_getElem?_getD, List.getElem?_eq_getElem (by omega)] <;> rfl
      have eg : gt ks spot (.tuple [.int (i : Nat), .int c]) = if (decide (ks.getD i 0 = 0) || decide ((i : Int) = spot)) = true then .int c else .none := rfl
      rw [eg]
      exact ev_if (et_or (et_tst (ev_m2 (ev_m2 ev_var ev_var hx2) ev_c (pEqT_int _ _))) fun _ => et_tst (ev_m2 ev_var ev_var (pEqT_int _ _))) (fun e => by rw [if_pos e]; exact ev_var) (fun e => by rw [e, if_neg (by decide)]; exact ev_c)
    rw [gt_all] at zl
    refine ⟨.B (tsOf ks row spot), l4, tsOf_ok ro c0 c1, p4, ?_⟩
    exact ⟨_, run_rt (seq_nx (if_f t1 rfl) (seq_nx s1 (seq_nx s2 (ret_ev (ev_tup (ea_cons ev_c (ea_cons (ev_mN (ea_cons zl ea_nil) (show pTup [.list _] = some (.d (.tuple _)) from rfl)) ea_nil))))))), rfl⟩
end Pwk91

set_option Elab.async false
set_option linter.all false
set_option maxRecDepth 100000
set_option maxHeartbeats 4000000
/-! k91: bent values. -/
namespace Pwk91
open PySem PySem.Spec PyProof.Rows L2 Pw
def up' : List Nat → List Nat
  | [] => [1]
  | L :: Ls => (L + 1) :: up' Ls
theorem up_mono : ∀ {Ls : List Nat} {x : D}, bdl Ls x = true → bdl (up' Ls) x = true
  | _, .none, _ => bdl_none
  | _, .bool _, _ => bdl_bool
  | _, .int i, h => bdl_int.mpr (bdl_int.mp h)
  | _, .str i, h => by rw [bdl_str] at h ⊢; exact h
  | _, .dict i, h => by rw [bdl_dict] at h; cases h
  | [], .list i, h => by rw [bdl_nolist] at h; cases h
  | [], .tuple i, h => by rw [bdl_notuple] at h; cases h
  | L :: Ls, .list xs, h => by
    obtain ⟨h1, h2⟩ := bdl_list.mp h
    exact bdl_list.mpr ⟨by omega, fun y hy => up_mono (h2 y hy)⟩
  | L :: Ls, .tuple xs, h => by
    obtain ⟨h1, h2⟩ := bdl_tuple.mp h
    exact bdl_tuple.mpr ⟨by omega, fun y hy => up_mono (h2 y hy)⟩
def cs : List D := [.none, .int 0, .int 1, .int 2, .int 3, .int 5, .int 6, .int (-1), .bool true, .bool false, .str "up", .str "down", .str "run", .str "bells", .tuple [], .str "x"]
theorem up_hd : ∀ Ls : List Nat, ∃ M Ms, up' Ls = M :: Ms
  | [] => ⟨_, _, rfl⟩
  | _ :: _ => ⟨_, _, rfl⟩
theorem cs_bdl {Ls : List Nat} {y : D} (h : y ∈ cs) : bdl (up' Ls) y = true := by
  obtain ⟨M, Ms, e⟩ := up_hd Ls
  rw [e]
  have w : okW "up" = true ∧ okW "down" = true ∧ okW "run" = true ∧ okW "bells" = true ∧ okW "x" = true := by decide +kernel
  simp only [cs, List.mem_cons, List.not_mem_nil, or_false] at h
  rcases h with rfl | rfl | rfl | rfl | rfl | rfl | rfl | rfl | rfl | rfl | rfl | rfl | rfl | rfl | rfl | rfl
  all_goals first
    | exact bdl_none
    | exact bdl_bool
    | exact bdl_int.mpr (by omega)
    | (rw [bdl_str]; first | exact w.1 | exact w.2.1 | exact w.2.2.1 | exact w.2.2.2.1 | exact w.2.2.2.2)
    | exact bdl_tuple.mpr ⟨by simp, fun y hy => nomatch hy⟩
theorem par3_ev {i j l : Nat} {bi bj bl : Bool} {as : MA} {e e1 e2 e3 e4 : En} {r1 r2 r3 : R} (h : as e = .ok [r1, r2, r3] e1) (h1 : qN i bi r1 e1 = some e2 := by rfl) (h2 : qN j bj r2 e2 = some e3 := by rfl) (h3 : okSt bl r3 = true := by rfl) (h4 : qN l bl r3 e3 = some e4 := by rfl) : mPar3 i j l bi bj bl as e = .nx e4 := by
  unfold mPar3
  rw [h]
  simp only [h1, h2, h3, if_true, h4, stOf]
theorem cutL_ev {m : ME} {lo hi : MO} {env : En} {xs : List D} {i j : Option Int} {r : R} (h : Ev m env r) (h1 : lo env = .ok i env) (h2 : hi env = .ok j env) (hd : r.dat true env = some (.list xs) := by rfl) : Ev (mCut m lo hi) env (.ol (cutL xs i j)) := by
  unfold Ev mCut
  rw [show m env = .ok _ env from h]
  simp only [Res.bind, h1, h2, hd]
  rfl
theorem cutL_mem {xs : List D} {i j : Option Int} {y : D} (h : y ∈ cutL xs i j) : y ∈ xs := List.mem_of_mem_drop (List.mem_of_mem_take h)
theorem cut_len (xs : List D) (p : Nat) : (cutL xs none (some ((p : Nat) : Int)) ++ cutL xs (some ((p : Int) + 1)) none).length ≤ xs.length := by
  unfold cutL
  rw [show ((p : Int) + 1) = ((p + 1 : Nat) : Int) by omega, HT.sIx_nat, HT.sIx_nat, HT.sIx_none, HT.sIx_none]
  simp only [List.length_append, List.length_take, List.length_drop]
  omega
theorem set_mem {xs : List D} {j : Nat} {x y : D} (h : y ∈ xs.set j x) : y ∈ xs ∨ y = x := List.mem_or_eq_of_mem_set h
theorem ixN_at {n j : Nat} (hj : j < n) : ixN n (j : Int) = some j := by
  unfold ixN
  rw [if_pos (by omega)]
  rw [if_pos (by omega)]
  simp
/-- what the law's bending gives -/
def Bent (l : List D) (f : Nat) (Ls : List Nat) (x : D) : Prop := ∃ r y l', PotOk l' ∧ RnP (m__law_bent f) 5 l [.d x] r l' ∧ (r = .d y ∨ ∃ ys, r = .ol ys ∧ y = .list ys) ∧ bdl (up' Ls) y = true
abbrev mCs : ME := (mCallP n__law_pick m__law_pick (mACons (mVar 0) (mACons (mFrz (mLst (mACons (mC .none) (mACons (mC (.int 0)) (mACons (mC (.int 1)) (mACons (mC (.int 2)) (mACons (mC (.int 3)) (mACons (mC (.int 5)) (mACons (mC (.int 6)) (mACons (m1 true pNeg (mC (.int 1))) (mACons (mC (.bool true)) (mACons (mC (.bool false)) (mACons (mC (.str "up")) (mACons (mC (.str "down")) (mACons (mC (.str "run")) (mACons (mC (.str "bells")) (mACons (mTup mANil) (mACons (mC (.str "x")) mANil)))))))))))))))))) mANil)))
theorem cs_ev {l : List D} {tl : En} (hp : PotOk l) : ∃ y ∈ cs, ∃ l', PotOk l' ∧ mCs (some (.pl l) :: tl) = .ok (.d y) (some (.pl l') :: tl) := by
  obtain ⟨y, hy, l', p, q⟩ := r_pick (xs := cs) (x := .list cs) hp (.inr rfl) (by simp [cs]) (by simp [cs])
  have z : Ev (mLst (mACons (mC .none) (mACons (mC (.int 0)) (mACons (mC (.int 1)) (mACons (mC (.int 2)) (mACons (mC (.int 3)) (mACons (mC (.int 5)) (mACons (mC (.int 6)) (mACons (m1 true pNeg (mC (.int 1))) (mACons (mC (.bool true)) (mACons (mC (.bool false)) (mACons (mC (.str "up")) (mACons (mC (.str "down")) (mACons (mC (.str "run")) (mACons (mC (.str "bells")) (mACons (mTup mANil) (mACons (mC (.str "x")) mANil))))))))))))))))) (some (.pl l) :: tl) (.ol cs) :=
    ev_lst (ea_cons ev_c (ea_cons ev_c (ea_cons ev_c (ea_cons ev_c (ea_cons ev_c (ea_cons ev_c (ea_cons ev_c (ea_cons (ev_m1 (x := .int 1) (r := .d (.int (-1))) ev_c rfl) (ea_cons ev_c (ea_cons ev_c (ea_cons ev_c (ea_cons ev_c (ea_cons ev_c (ea_cons ev_c (ea_cons (ev_tup ea_nil) (ea_cons ev_c ea_nil)))))))))))))))) rfl (by simp [cs])
  exact ⟨y, hy, l', p, to_rnP (ea_cons (ev_frzL z) ea_nil) q⟩
theorem bent_out {f : Nat} {l l1 : List D} {Ls : List Nat} {x : D} (hp : PotOk l1) (ht : mAndT (mTst (m1 false (isiD "tuple") (mVar 1))) (mAndT (mTst (m2 true pGt (mN true pLen (mACons (mVar 1) mANil)) (mC (.int 0)))) (mTst (m2 true pGt (mCallP n__law_draw m__law_draw (mACons (mVar 0) (mACons (mC (.int 5)) mANil))) (mC (.int 0))))) (env0 5 [.pl l, .d x]) = .ok false [some (.pl l1), some (.d x), none, none, none]) : Bent l (f + 1) Ls x := by
  obtain ⟨y, hy, l', p, q⟩ := cs_ev (l := l1) (tl := [some (.d x), none, none, none]) hp
  exact ⟨.d y, y, l', p, ⟨_, run_rt (seq_nx (if_f ht rfl) (ret_ev q)), rfl⟩, .inl rfl, cs_bdl hy⟩
theorem r_bent : ∀ (Ls : List Nat) (f : Nat) (x : D) (l : List D), Ls.length < f → (∀ L ∈ Ls, L ≤ 1000) → PotOk l → bdl Ls x = true → Bent l f Ls x
  | _, 0, _, _, h, _, _, _ => by omega
  | Ls, f + 1, x, l, hf, hL, hp, hx => by
    have hn := bdl_noDict hx
    by_cases ht : isTu x = true
    case neg =>
      have ht : isTu x = false := by simpa using ht
      refine bent_out hp ?_
      exact (et_and (env := [some (.pl l), some (.d x), none, none, none]) (b := false) (et_tst (ev_m1 ev_var (isi_tuple hn))) (fun e => by rw [ht] at e; cases e)).to (by rw [ht]; rfl)
    cases x <;> first | (cases ht; done) | skip
    rename_i xs
    match Ls, xs, hf, hL, hx, hn with
    | [], xs, _, _, hx, _ => rw [bdl_notuple] at hx; cases hx
    | L :: Ls, [], _, _, hx, hn =>
      refine bent_out hp ?_
      exact (et_and (env := [some (.pl l), some (.d (.tuple [])), none, none, none]) (b := false) (et_tst (ev_m1 ev_var (isi_tuple hn))) (fun _ => (et_and (b := false) (et_tst (ev_m2 (ev_mN (ea_cons ev_var ea_nil) (pLen_tup _)) ev_c (pGt_int _ _))) (fun e => by cases e)).to (by simp))).to (by simp)
    | L :: Ls, x0 :: xs0, hf, hL, hx, hn =>
    obtain ⟨d, l1, p1, d0, d1, q1⟩ := r_draw (n := 5) hp (by decide) (by decide)
    have tt : mAndT (mTst (m1 false (isiD "tuple") (mVar 1))) (mAndT (mTst (m2 true pGt (mN true pLen (mACons (mVar 1) mANil)) (mC (.int 0)))) (mTst (m2 true pGt (mCallP n__law_draw m__law_draw (mACons (mVar 0) (mACons (mC (.int 5)) mANil))) (mC (.int 0))))) (env0 5 [.pl l, .d (.tuple (x0 :: xs0))]) = .ok (decide (0 < d)) [some (.pl l1), some (.d (.tuple (x0 :: xs0))), none, none, none] := by
      refine to_and (a := true) (e1 := [some (.pl l), some (.d (.tuple (x0 :: xs0))), none, none, none]) (et_tst (ev_m1 ev_var (isi_tuple hn))) (fun _ => ?_) (fun e => by cases e)
      refine to_and (a := true) (e1 := [some (.pl l), some (.d (.tuple (x0 :: xs0))), none, none, none]) (EvT.to (et_tst (ev_m2 (ev_mN (ea_cons ev_var ea_nil) (pLen_tup _)) ev_c (pGt_int _ _))) (decide_eq_true (by simp))) (fun _ => ?_) (fun e => by cases e)
      exact to_tst (to_m2 (to_rnP (ea_cons ev_c ea_nil) q1) ev_c (pGt_int _ _))
    by_cases hd : 0 < d
    case neg => exact bent_out p1 (tt.trans (by rw [decide_eq_false hd]))
    rw [decide_eq_true hd] at tt
    generalize hxs : x0 :: xs0 = xs at hx hn tt
    have hlen : 0 < xs.length := by rw [← hxs]; simp
    obtain ⟨b1, b2⟩ := bdl_tuple.mp hx
    have hL0 : L ≤ 1000 := hL L List.mem_cons_self
    obtain ⟨a, l2, p2, a0, a1, q2⟩ := r_draw (n := (xs.length : Nat)) p1 (by omega) (by omega)
    obtain ⟨w, l3, p3, w0, w1, q3⟩ := r_draw (n := 7) p2 (by decide) (by decide)
    obtain ⟨y0, hm, ha, hea⟩ := pick_at a0 a1
    let e3 : En := [some (.pl l3), some (.d (.tuple xs)), some (.d (.int a)), some (.d (.int w)), some (.ol xs)]
    have s1 : mPar3 2 3 4 false false true (mACons (mCallP n__law_draw m__law_draw (mACons (mVar 0) (mACons (mN true pLen (mACons (mVar 1) mANil)) mANil))) (mACons (mCallP n__law_draw m__law_draw (mACons (mVar 0) (mACons (mC (.int 7)) mANil))) (mACons (mN true pLst (mACons (mVar 1) mANil)) mANil))) [some (.pl l1), some (.d (.tuple xs)), none, none, none] = .nx e3 :=
      par3_ev (to_cons (to_rnP (ea_cons (ev_mN (ea_cons ev_var ea_nil) (pLen_tup _)) ea_nil) q2) (to_cons (to_rnP (ea_cons ev_c ea_nil) q3) (to_cons (to_mN (r := .ol xs) (xs := [.tuple xs]) (ea_cons ev_var ea_nil) rfl) to_nil)))
    have tw : ∀ {k : Int}, EvT (mTst (m2 true pEqT (mVar 3) (mC (.int k)))) e3 (decide (w = k)) := fun {k} => et_tst (ev_m2 ev_var ev_c (pEqT_int _ _))
    have ix : pIx (.list xs) (.int a) = some (.d y0) := by rw [hea]; exact pIx_lst ha
    /- the end: the changed list as a tuple -/
    have fin : ∀ {S : MS} {zs l4 : List D}, S e3 = .nx [some (.pl l4), some (.d (.tuple xs)), some (.d (.int a)), some (.d (.int w)), some (.ol zs)] → PotOk l4 → zs.length ≤ L + 1 → (∀ z ∈ zs, bdl (up' Ls) z = true) →
        ∀ {X : MT} {Y : MS}, X (env0 5 [.pl l, .d (.tuple xs)]) = .ok true [some (.pl l1), some (.d (.tuple xs)), none, none, none] → ∃ e', fRun (mSeq (mIfS X (mSeq (mPar3 2 3 4 false false true (mACons (mCallP n__law_draw m__law_draw (mACons (mVar 0) (mACons (mN true pLen (mACons (mVar 1) mANil)) mANil))) (mACons (mCallP n__law_draw m__law_draw (mACons (mVar 0) (mACons (mC (.int 7)) mANil))) (mACons (mN true pLst (mACons (mVar 1) mANil)) mANil)))) (mSeq S (mRet (mN true pTup (mACons (mVar 4) mANil))))) mNext) Y) (env0 5 [.pl l, .d (.tuple xs)]) = some (.d (.tuple zs), e') ∧ potE e' = some l4 := fun {S zs l4} hS _ _ _ {X Y} hX =>
      ⟨_, run_rt (seq_rt (if_t hX (seq_nx s1 (seq_nx hS (ret_ev (ev_mN (ea_cons ev_own ea_nil) (show pTup [.list _] = some (.d (.tuple _)) from rfl))))))), rfl⟩
    have out : ∀ {zs l4 : List D}, PotOk l4 → zs.length ≤ L + 1 → (∀ z ∈ zs, bdl (up' Ls) z = true) → (∃ e', fRun (m__law_bent (f + 1)) (env0 5 [.pl l, .d (.tuple xs)]) = some (.d (.tuple zs), e') ∧ potE e' = some l4) → Bent l (f + 1) (L :: Ls) (.tuple xs) := fun {zs l4} h1 h2 h3 h4 =>
      ⟨_, .tuple zs, l4, h1, h4, .inl rfl, bdl_tuple.mpr ⟨h2, h3⟩⟩
    by_cases w0' : w = 0
    · have s2 := cut_len xs a.toNat
      rw [← hea] at s2
      refine out (zs := cutL xs none (some a) ++ cutL xs (some (a + 1)) none) p3 (by omega) (fun z hz => up_mono (b2 z (by
        rcases List.mem_append.mp hz with h | h
        · exact cutL_mem h
        · exact cutL_mem h))) (fin (if_t (tw.to (decide_eq_true w0')) (set_ev (ev_m2 (x := .list (cutL xs none (some a))) (y := .list (cutL xs (some (a + 1)) none)) (cutL_ev ev_own rfl (so_ev ev_var)) (cutL_ev ev_own (so_ev (ev_m2 ev_var ev_c (pAdd_int _ _))) rfl) (show (if _ then some (R.ol _) else none) = some (.ol _) from if_pos (by rw [← List.length_append]; omega))))) p3 (by omega) (fun z hz => up_mono (b2 z (by
        rcases List.mem_append.mp hz with h | h
        · exact cutL_mem h
        · exact cutL_mem h))) tt)
    by_cases w1' : w = 1
    · have ap : pAdd (.list xs) (.list [y0]) = some (.ol (xs ++ [y0])) := by
        show (if xs.length + [y0].length ≤ 16777216 then some (R.ol (xs ++ [y0])) else none) = _
        rw [if_pos (by rw [List.length_singleton]; omega)]
      have hl2 : (xs ++ [y0]).length ≤ L + 1 := by rw [List.length_append, List.length_singleton]; omega
      have hm2 : ∀ z ∈ xs ++ [y0], bdl (up' Ls) z = true := fun z hz => up_mono (b2 z (by
        rcases List.mem_append.mp hz with h | h
        · exact h
        · rw [List.mem_singleton.mp h]; exact hm))
      exact out (zs := xs ++ [y0]) p3 hl2 hm2 (fin (if_f (tw.to (decide_eq_false w0')) (if_t (tw.to (decide_eq_true w1')) (set_ev (ev_m2 ev_own (ev_lst (ea_cons (ev_m2 ev_own ev_var ix) ea_nil)) ap)))) p3 hl2 hm2 tt)
    by_cases w2' : w = 2
    · refine ⟨.ol xs, .list xs, l3, p3, ⟨_, run_rt (seq_rt (if_t tt (seq_nx s1 (seq_rt (if_f (tw.to (decide_eq_false w0')) (if_f (tw.to (decide_eq_false w1')) (if_t (tw.to (decide_eq_true w2')) (show mRet (mVar 4) e3 = .rt (.ol xs) [some (.pl l3), some (.d (.tuple xs)), some (.d (.int a)), some (.d (.int w)), none] from rfl)))))))), rfl⟩, .inr ⟨xs, rfl, rfl⟩, up_mono (bdl_list.mpr ⟨b1, b2⟩)⟩
    obtain ⟨r, y, l4, p4, q4, hr, hy⟩ := r_bent Ls f y0 l3 (by simpa using hf) (fun M m => hL M (List.mem_cons_of_mem _ m)) p3 (b2 y0 hm)
    have cl : mCallP n__law_bent (m__law_bent f) (mACons (mVar 0) (mACons (m2 true pIx (mVar 4) (mVar 2)) mANil)) e3 = .ok r [some (.pl l4), some (.d (.tuple xs)), some (.d (.int a)), some (.d (.int w)), some (.ol xs)] :=
      to_rnP (ea_cons (ev_m2 ev_own ev_var ix) ea_nil) q4
    have fz' : mFrz (mCallP n__law_bent (m__law_bent f) (mACons (mVar 0) (mACons (m2 true pIx (mVar 4) (mVar 2)) mANil))) e3 = .ok (.d y) [some (.pl l4), some (.d (.tuple xs)), some (.d (.int a)), some (.d (.int w)), some (.ol xs)] := by
      rcases hr with rfl | ⟨ys, rfl, rfl⟩
      · exact to_frz cl
      · exact to_frzL cl
    have hj : a.toNat < xs.length := by omega
    have hset : qSub (mVar 4) (mVar 2) (.d y) [some (.pl l4), some (.d (.tuple xs)), some (.d (.int a)), some (.d (.int w)), some (.ol xs)] = some [some (.pl l4), some (.d (.tuple xs)), some (.d (.int a)), some (.d (.int w)), some (.ol (xs.set a.toNat y))] := by
      show ((ixN xs.length a).map fun j => R.ol (xs.set j y)).map (fun t' => ([some (.pl l4), some (.d (.tuple xs)), some (.d (.int a)), some (.d (.int w)), some (.ol xs)] : En).set 4 (some t')) = _
      rw [show ixN xs.length a = some a.toNat by rw [hea]; exact ixN_at hj] <;> rfl
    have hl2 : (xs.set a.toNat y).length ≤ L + 1 := by rw [List.length_set]; omega
    have hm2 : ∀ z ∈ xs.set a.toNat y, bdl (up' Ls) z = true := fun z hz => by
      rcases set_mem hz with h | rfl
      · exact up_mono (b2 z h)
      · exact hy
    exact out (zs := xs.set a.toNat y) p4 hl2 hm2 (fin (if_f (tw.to (decide_eq_false w0')) (if_f (tw.to (decide_eq_false w1')) (if_f (tw.to (decide_eq_false w2')) (set_ev fz' hset)))) p4 hl2 hm2 tt)
end Pwk91

set_option Elab.async false
set_option linter.all false
set_option maxRecDepth 100000
set_option maxHeartbeats 4000000
/-! k91: the law on marks. -/
namespace Pwk91
open PySem PySem.Spec PyProof.Rows L2 Pw
theorem show_ev {as : MA} {env : En} {rs : List R} {ds : List D} (h : EvA as env rs) (hs : showAll (.list ds) = true) (hl : ds.length ≤ 16777216) (hd : datL false env rs = some ds := by rfl) : Ev (mShowL as) env (.d (.str (PyData.list ds).shown)) := by
  unfold Ev mShowL
  rw [show as env = .ok rs env from h]
  simp only [Res.bind, hd]
  rw [if_pos (by rw [hs, decide_eq_true hl] <;> rfl)]
theorem pShow_ok {d : D} (h : showAll d = true) : pShow [d] = some (.d (.str d.shown)) := by
  show (if showAll d = true then some (R.d (.str d.shown)) else none) = _
  rw [if_pos h]
theorem par_ev {i j : Nat} {bi bj : Bool} {as : MA} {e e1 e2 e3 : En} {r1 r2 : R} (h : as e = .ok [r1, r2] e1) (h1 : qN i bi r1 e1 = some e2 := by rfl) (h2 : qN j bj r2 e2 = some e3 := by rfl) : mPar i j bi bj as e = .nx e3 := by
  unfold mPar
  rw [h]
  simp only [h1, h2, stOf]
theorem app_ev {env : En} {xs : List D} {x : D} {i : Nat} {m : ME} (h : env[i]? = some (some (.ol xs))) (hm : Ev m env (.d x)) (hl : xs.length < 16777216) : mMtL gApp (mVar i) (mACons m mANil) env = .ok (.d .none) (env.set i (some (.ol (xs ++ [x])))) := by
  unfold mMtL
  rw [show mVar i env = .ok (.vr i) env from ev_own h rfl]
  simp only [Res.bind]
  rw [if_pos (show isLst _ = true by rw [h]; rfl), show mACons _ mANil _ = _ from ea_cons hm ea_nil]
  simp only [allD, Option.map, h]
  have g : gApp (.ol xs) [x] = some (.none, .ol (xs ++ [x])) := by
    show (if xs.length < 16777216 then some (PyData.none, R.ol (xs ++ [x])) else none) = _
    rw [if_pos hl]
  simp only [g]
def due (b : Nat) (ms : List Mk) : List D := ((lay b b).filter fun r => ms.all (hv r)).map rw'
theorem all_120 {b : Nat} (hb : b = 3 ∨ b = 4 ∨ b = 5) : (lay b b).length ≤ 120 := by
  have k : ∀ b ∈ [3, 4, 5], (lay b b).length ≤ 120 := by decide +kernel
  exact k b (by simp; omega)
theorem due_len {b : Nat} (hb : b = 3 ∨ b = 4 ∨ b = 5) {ms : List Mk} : (due b ms).length ≤ 120 := by
  unfold due
  rw [List.length_map]
  exact Nat.le_trans (List.length_filter_le _ _) (all_120 hb)
theorem row_bdl {b : Nat} (hb : b = 3 ∨ b = 4 ∨ b = 5) {r : List Int} (h : r ∈ lay b b) : bdl [6] (rw' r) = true := by
  obtain ⟨h1, h2, h3⟩ := rows_ok hb h
  refine bdl_tuple.mpr ⟨by rw [List.length_map]; omega, fun y hy => ?_⟩
  obtain ⟨c, hc, rfl⟩ := List.mem_map.mp hy
  have := h3 c hc
  exact bdl_int.mpr (by omega)
theorem due_bdl {b : Nat} (hb : b = 3 ∨ b = 4 ∨ b = 5) {ms : List Mk} : bdl [120, 6] (.list (due b ms)) = true := by
  refine bdl_list.mpr ⟨due_len hb, fun y hy => ?_⟩
  obtain ⟨r, hr, rfl⟩ := List.mem_map.mp hy
  exact row_bdl hb (List.mem_filter.mp hr).1
theorem two_bdl {Ls : List Nat} {x : D} (h : bdl Ls x = true) : bdl (2 :: Ls) (.list [x, x]) = true := by
  refine bdl_list.mpr ⟨by simp, fun y hy => ?_⟩
  simp only [List.mem_cons, List.not_mem_nil, or_false] at hy
  rcases hy with rfl | rfl <;> exact h
theorem hw_all {b : Nat} (hb : b = 3 ∨ b = 4 ∨ b = 5) {ms : List Mk} (ho : ∀ m ∈ ms, m.ok b) : ((lay b b).filter fun r => ms.all (hw r)).map rw' = due b ms := by
  unfold due
  congr 1
  refine List.filter_congr fun r hr => ?_
  rw [Bool.eq_iff_iff, List.all_eq_true, List.all_eq_true]
  constructor
  · intro h m hm
    rw [← hw_hv b hb r hr m (ho m hm)]
    exact h m hm
  · intro h m hm
    rw [hw_hv b hb r hr m (ho m hm)]
    exact h m hm
theorem r_marks_right {b : Nat} (hb : b = 3 ∨ b = 4 ∨ b = 5) {l : List D} {ms : List Mk} (hp : PotOk l) (ho : ∀ m ∈ ms, m.ok b) (hl : ms.length ≤ 8) :
    ∃ l', PotOk l' ∧ RnP m__law_marks_right 10 l [.d (.int (b : Nat)), .d (.list (ms.map Mk.toD))] (.d (.bool true)) l' := by
  have h1 : 1 ≤ b := by omega
  have h3 : 3 ≤ b := by omega
  have h6 : b ≤ 6 := by omega
  have sqL : Sq (.list (ms.map Mk.toD)) (ms.map Mk.toD) := .inl rfl
  have sqT : Sq (.tuple (ms.map Mk.toD)) (ms.map Mk.toD) := .inr rfl
  have shM : showAll (.list (ms.map Mk.toD)) = true := bdl_show (Ls := [8, 4, 6]) (bdl_list.mpr ⟨by rw [List.length_map]; exact hl, fun y hy => by
    obtain ⟨m, hm, rfl⟩ := List.mem_map.mp hy
    exact mk_bdl h6 (ho m hm)⟩) (by decide) (by decide +kernel)
  have shD : showAll (.list (due b ms)) = true := bdl_show (due_bdl hb) (by decide) (by decide +kernel)
  have shDD : showAll (.list [.list (due b ms), .list (due b ms)]) = true := bdl_show (two_bdl (due_bdl hb)) (by decide) (by decide +kernel)
  obtain ⟨y, hy, l', p', q'⟩ := r_pick (xs := (lay b b).map rw') (x := .list ((lay b b).map rw')) hp (.inr rfl) (by
      have k : ∀ b ∈ [3, 4, 5], (lay b b).isEmpty = false := by decide +kernel
      have z := k b (by simp; omega)
      intro e
      rw [List.map_eq_nil_iff.mp e] at z
      cases z) (by have := all_sm h6; rw [List.length_map]; omega)
  obtain ⟨row, hr, rfl⟩ := List.mem_map.mp hy
  have ro := rows_ok hb hr
  generalize hM : PyData.list (ms.map Mk.toD) = M at *
  generalize hDu : due b ms = Du at *
  have dl : Du.length ≤ 120 := by rw [← hDu]; exact due_len hb
  generalize hRw : PyData.list ((lay b b).map rw') = Rw at *
  let e1 : En := [some (.pl l), some (.d (.int (b : Nat))), some (.d M), some (.d Rw), none, none, none, none, none, none]
  let e2 : En := [some (.pl l), some (.d (.int (b : Nat))), some (.d M), some (.d Rw), none, none, some (.ol Du), some (.d (.str M.shown)), none, none]
  let e3 : En := [some (.pl l), some (.d (.int (b : Nat))), some (.d M), some (.d Rw), none, none, some (.ol Du), some (.d (.str M.shown)), some (.ol Du), none]
  let e4 : En := [some (.pl l), some (.d (.int (b : Nat))), some (.d M), some (.d Rw), none, none, some (.ol Du), some (.d (.str M.shown)), some (.ol (Du ++ [.none])), none]
  let e5 : Option R → Option R → En := fun s5 s9 => [some (.pl l'), some (.d (.int (b : Nat))), some (.d M), some (.d Rw), some (.d (rw' row)), s5, some (.ol Du), some (.d (.str M.shown)), some (.ol (Du ++ [.none])), s9]
  have s1 : mSet (qN 3 true) (mCall n__law_all m__law_all (mACons (mVar 1) mANil)) (env0 10 [.pl l, .d (.int (b : Nat)), .d M]) = .nx e1 := by
    have z := r_law_all h1 h6
    rw [hRw] at z
    exact set_ev (ev_rn (ea_cons ev_var ea_nil) z)
  have zl : Ev (mLc (mSq (mFrz (mVar 3))) (qN 4 false) (mTst (mN true pAll (mACons (mLc (mSq (mVar 2)) (qN 5 false) mYes (mCall n__law_has m__law_has (mACons (mVar 4) (mACons (mVar 5) mANil))) [5]) mANil))) (mVar 4) [4]) e1 (.ol (((lay b b).filter fun r => ms.all (hw r)).map rw')) := by
    refine ev_lcF (es_lst (by rw [hRw]; exact ev_frz ev_var)) (fun r hr => ⟨[some (.pl l), some (.d (.int (b : Nat))), some (.d M), some (.d Rw), some (.d (rw' r)), none, none, none, none, none], rfl, ?_, fun _ => ev_var, rfl⟩) (Nat.le_trans (all_sm h6) (by decide))
    have zi : Ev (mLc (mSq (mVar 2)) (qN 5 false) mYes (mCall n__law_has m__law_has (mACons (mVar 4) (mACons (mVar 5) mANil))) [5]) [some (.pl l), some (.d (.int (b : Nat))), some (.d M), some (.d Rw), some (.d (rw' r)), none, none, none, none, none] (.ol (ms.map fun m => .bool (hw r m))) :=
      ev_lcM (es_sq sqL ev_var) (fun m hm => ⟨[some (.pl l), some (.d (.int (b : Nat))), some (.d M), some (.d Rw), some (.d (rw' r)), some (.d m.toD), none, none, none, none], rfl, ev_rn (ea_cons ev_var (ea_cons ev_var ea_nil)) (r_law_has h6 (lay_in hr) (ho m hm)), rfl⟩) (by omega)
    exact et_tst (ev_mN (ea_cons zi ea_nil) (pAll_map _ _))
  rw [hw_all hb ho, hDu] at zl
  have s2 : mPar 6 7 true false (mACons (mLc (mSq (mFrz (mVar 3))) (qN 4 false) (mTst (mN true pAll (mACons (mLc (mSq (mVar 2)) (qN 5 false) mYes (mCall n__law_has m__law_has (mACons (mVar 4) (mACons (mVar 5) mANil))) [5]) mANil))) (mVar 4) [4]) (mACons (mN false pShow (mACons (mVar 2) mANil)) mANil)) e1 = .nx e2 :=
    par_ev (ea_cons zl (ea_cons (ev_mN (ea_cons ev_var ea_nil) (pShow_ok shM)) ea_nil))
  have rwL : Rn m_rows_with 4 [.d (.int (b : Nat)), .d M] (.ol Du) := by rw [← hDu]; exact r_rows_with h3 h6 ho hl sqL
  have rwT : Rn m_rows_with 4 [.d (.int (b : Nat)), .d (.tuple (ms.map Mk.toD))] (.ol Du) := by rw [← hDu]; exact r_rows_with h3 h6 ho hl sqT
  have s3 : mSet (qN 8 true) (mCall n_rows_with m_rows_with (mACons (mVar 1) (mACons (mVar 2) mANil))) e2 = .nx e3 := set_ev (ev_rn (ea_cons ev_var (ea_cons ev_var ea_nil)) rwL)
  have tM : pTup [M] = some (.d (.tuple (ms.map Mk.toD))) := by rw [← hM] <;> rfl
  have t4 : EvT (mTst (m2 true pNeT (mShowL (mACons (mVar 8) (mACons (mCallK [1, 0] n_rows_with m_rows_with (mACons (mN true pTup (mACons (mVar 2) mANil)) (mACons (mVar 1) mANil))) mANil))) (mShowL (mACons (mVar 6) (mACons (mVar 6) mANil))))) e3 false :=
    (et_tst (ev_m2 (show_ev (ea_cons ev_own (ea_cons (ev_rnK (perm := [1, 0]) (ea_cons (ev_mN (ea_cons ev_var ea_nil) tM) (ea_cons ev_var ea_nil)) rwT) ea_nil)) shDD (by simp)) (show_ev (ea_cons ev_own (ea_cons ev_own ea_nil)) shDD (by simp)) (pNeT_str _ _))).to (by simp)
  have s5 : mDrp (mMtL gApp (mVar 8) (mACons (mC .none) mANil)) e3 = .nx e4 := drp_ev (app_ev (i := 8) rfl ev_c (by omega))
  have s6 : mSet (qN 4 false) (mCallP n__law_pick m__law_pick (mACons (mVar 0) (mACons (mFrz (mVar 3)) mANil))) e4 = .nx (e5 none none) := set_ev (to_rnP (ea_cons (ev_frz ev_var) ea_nil) q')
  have s7 : ∃ s5 s9, mFor (mSq (mVar 2)) (qN 5 false) (mSeq (mSet (qN 9 false) (mCall n__law_has m__law_has (mACons (mVar 4) (mACons (mVar 5) mANil)))) (mIfS (mTst (m2 true pNeT (mShowL (mACons (mCall n_has_mark m_has_mark (mACons (mVar 1) (mACons (mVar 4) (mACons (mVar 5) mANil)))) (mACons (mCallK [2, 1, 0] n_has_mark m_has_mark (mACons (mVar 5) (mACons (mVar 4) (mACons (mVar 1) mANil)))) mANil))) (mShowL (mACons (mVar 9) (mACons (mVar 9) mANil))))) (mRet (mC (.bool false))) mNext)) (e5 none none) = .nx (e5 s5 s9) := by
    obtain ⟨e', g1, s5, s9, he, n5, n9⟩ := for_inv (Iv := fun _ e => ∃ s5 s9, e = e5 s5 s9 ∧ Nd s5 ∧ Nd s9) (q := qN 5 false) (b := (mSeq (mSet (qN 9 false) (mCall n__law_has m__law_has (mACons (mVar 4) (mACons (mVar 5) mANil)))) (mIfS (mTst (m2 true pNeT (mShowL (mACons (mCall n_has_mark m_has_mark (mACons (mVar 1) (mACons (mVar 4) (mACons (mVar 5) mANil)))) (mACons (mCallK [2, 1, 0] n_has_mark m_has_mark (mACons (mVar 5) (mACons (mVar 4) (mACons (mVar 1) mANil)))) mANil))) (mShowL (mACons (mVar 9) (mACons (mVar 9) mANil))))) (mRet (mC (.bool false))) mNext))) (xs := ms.map Mk.toD) (env := e5 none none) 0 ⟨none, none, rfl, trivial, trivial⟩ (fun j x e hx hi => by
      obtain ⟨s5, s9, rfl, n5, n9⟩ := hi
      obtain ⟨m, hm, rfl⟩ := List.mem_map.mp (List.mem_of_getElem? hx)
      have w1 := r_law_has h6 ro.1 (ho m hm)
      rw [hw_hv b hb row hr m (ho m hm)] at w1
      have w2 := r_has_mark h3 h6 ro (ho m hm)
      have shB : showAll (.list [.bool (hv row m), .bool (hv row m)]) = true := bdl_show (two_bdl (Ls := []) bdl_bool) (by decide) (by decide +kernel)
      have q1 : mSet (qN 9 false) (mCall n__law_has m__law_has (mACons (mVar 4) (mACons (mVar 5) mANil))) (e5 (some (.d m.toD)) s9) = .nx (e5 (some (.d m.toD)) (some (.d (.bool (hv row m))))) :=
        set_ev (ev_rn (ea_cons ev_var (ea_cons ev_var ea_nil)) w1) (qN_ok (i := 9) (by simp [e5]) (n9.of rfl) rfl)
      refine ⟨e5 (some (.d m.toD)) s9, qN_ok (i := 5) (by simp [e5]) (n5.of rfl) rfl, e5 (some (.d m.toD)) (some (.d (.bool (hv row m)))), seq_nx q1 (if_f (EvT.to (et_tst (ev_m2 (show_ev (ea_cons (ev_rn (ea_cons ev_var (ea_cons ev_var (ea_cons ev_var ea_nil))) w2) (ea_cons (ev_rnK (perm := [2, 1, 0]) (ea_cons ev_var (ea_cons ev_var (ea_cons ev_var ea_nil))) w2) ea_nil)) shB (by simp)) (show_ev (ea_cons ev_var (ea_cons ev_var ea_nil)) shB (by simp)) (pNeT_str _ _))) (by simp)) rfl), ⟨_, _, rfl, trivial, trivial⟩⟩)
    subst he
    exact ⟨s5, s9, for_src (es_sq sqL ev_var) g1⟩
  obtain ⟨s5', s9', s7⟩ := s7
  have r8 : Ev (mAndV (mTst (m2 true pEqT (mN false pShow (mACons (mCall n_rows_with m_rows_with (mACons (mVar 1) (mACons (mVar 2) mANil))) mANil)) (mN false pShow (mACons (mVar 6) mANil)))) (m2 true pEqT (mN false pShow (mACons (mVar 2) mANil)) (mVar 7))) (e5 s5' s9') (.d (.bool true)) :=
    (ev_andB (et_tst (ev_m2 (ev_mN (ea_cons (ev_rn (ea_cons ev_var (ea_cons ev_var ea_nil)) rwL) ea_nil) (pShow_ok shD)) (ev_mN (ea_cons ev_own ea_nil) (pShow_ok shD)) (pEqT_str _ _))) fun _ => ev_m2 (ev_mN (ea_cons ev_var ea_nil) (pShow_ok shM)) ev_var (pEqT_str _ _)).to (by simp)
  exact ⟨l', p', _, run_rt (seq_nx s1 (seq_nx s2 (seq_nx s3 (seq_nx (if_f t4 rfl) (seq_nx s5 (seq_nx s6 (seq_nx s7 (ret_ev r8)))))))), rfl⟩
end Pwk91

set_option Elab.async false
set_option linter.all false
set_option maxRecDepth 100000
set_option maxHeartbeats 4000000
/-! k91: the law on six bells. -/
namespace Pwk91
open PySem PySem.Spec PyProof.Rows L2 Pw
theorem to_rn {env e1 : En} {as : MA} {n : Nat} {mc : MS} {r : R} {rs : List R} (h : as env = .ok rs e1) (hr : Rn mc n rs r) (hd : rs.all isDK = true := by rfl) : mCall n mc as env = .ok r e1 := by
  obtain ⟨e', h'⟩ := hr
  unfold mCall
  rw [h]
  simp only [Res.bind, hd, if_true, h']
theorem to_lst {env e1 : En} {as : MA} {rs : List R} {xs : List D} (h : as env = .ok rs e1) (hd : allD rs = some xs := by rfl) (hl : xs.length ≤ 16777216 := by simp) : mLst as env = .ok (.ol xs) e1 := by
  unfold mLst
  rw [h]
  simp only [Res.bind, hd, if_pos hl]
def fct : Nat → Int
  | 0 => 1
  | t + 1 => fct t * ((t : Int) + 1)
def row6 : List Int := [5, 4, 3, 2, 1, 0]
def ts6 (p s : Nat) : List (Option Int) := (inz 6).map fun k => if (decide ((p : Int) ≤ k) && decide (k < (p : Int) + (s : Int))) = true then some (row6.getD k.toNat 0) else none
theorem six_all : ∀ s ∈ List.range 7, 2 ≤ s → ∀ p ∈ List.range 5, p + s ≤ 6 →
    (((ts6 p s).length = 6 ∧ (∀ c ∈ (ts6 p s).filterMap id, 0 ≤ c ∧ c < ((6 : Nat) : Int)) ∧ ((ts6 p s).filterMap id).Nodup ∧ (ts6 p s).filterMap id ≠ []) ∧
    (((lay 6 6).filter fun r => [Mk.B (ts6 p s)].all (hv r)).length : Int) = fct (6 - s)) ∧
    ((((lay 6 6).filter fun r => [Mk.U true p s].all (hv r)).length : Int) = fct (6 - s) * (7 - (s : Int)) ∧
    (((lay 6 6).filter fun r => [Mk.U false p s].all (hv r)).length : Int) = fct (6 - s) * (7 - (s : Int))) := by decide +kernel
theorem fct_small : ∀ t ∈ List.range 5, 0 ≤ fct t ∧ fct t ≤ 24 := by decide +kernel
theorem r_six_right {l : List D} (hp : PotOk l) : ∃ l', PotOk l' ∧ RnP m__law_six_right 9 l [] (.d (.bool true)) l' := by
  obtain ⟨d, l1, p1, d0, d1, q1⟩ := r_draw (n := 5) hp (by decide) (by decide)
  obtain ⟨s, hs⟩ : ∃ s : Nat, (2 : Int) + d = (s : Int) := ⟨(2 + d).toNat, by omega⟩
  have s2 : 2 ≤ s := by omega
  have s6 : s ≤ 6 := by omega
  obtain ⟨pl, l2, p2, c0, c1, q2⟩ := r_draw (n := 7 - (s : Int)) p1 (by omega) (by omega)
  obtain ⟨p, rfl⟩ : ∃ p : Nat, pl = (p : Int) := ⟨pl.toNat, by omega⟩
  have ps : p + s ≤ 6 := by omega
  obtain ⟨⟨hB, cB⟩, cT, cF⟩ := six_all s (by simp; omega) s2 p (by simp; omega) ps
  obtain ⟨y, hy, l3, p3, q3⟩ := r_pick (xs := [.str "up", .str "down"]) (x := .list [.str "up", .str "down"]) p2 (.inr rfl) (by simp) (by simp)
  have hup : ∃ up, y = .str (wayS up) := by
    simp only [List.mem_cons, List.not_mem_nil, or_false] at hy
    rcases hy with rfl | rfl
    · exact ⟨true, rfl⟩
    · exact ⟨false, rfl⟩
  obtain ⟨up, rfl⟩ := hup
  have cU : (((lay 6 6).filter fun r => [Mk.U up p s].all (hv r)).length : Int) = fct (6 - s) * (7 - (s : Int)) := by
    cases up
    · exact cF
    · exact cT
  let e1 : En := [some (.pl l1), some (.d (.int (s : Nat))), some (.d (.int 1)), none, none, none, none, none, none]
  let e2 : Int → Option R → En := fun many s4 => [some (.pl l2), some (.d (.int (s : Nat))), some (.d (.int many)), some (.d (.int (p : Nat))), s4, none, none, none, none]
  have a1 : mSet (qTup 2 (qCons (qN 1 false) (qCons (qN 2 false) qNil))) (mTup (mACons (m2 false pAdd (mC (.int 2)) (mCallP n__law_draw m__law_draw (mACons (mVar 0) (mACons (mC (.int 5)) mANil)))) (mACons (mC (.int 1)) mANil))) (env0 9 [.pl l]) = .nx e1 := by
    have z : pAdd (.int 2) (.int d) = some (.d (.int (s : Nat))) := by rw [pAdd_int, hs]
    exact set_ev (to_tup (to_cons (to_m2 (env := [some (.pl l), none, none, none, none, none, none, none, none]) ev_c (to_rnP (ea_cons ev_c ea_nil) q1) z) (to_cons ev_c to_nil)))
  have a2 : mSet (qN 3 false) (mCallP n__law_draw m__law_draw (mACons (mVar 0) (mACons (m2 true pSub (mC (.int 7)) (mVar 1)) mANil))) e1 = .nx (e2 1 none) :=
    set_ev (to_rnP (ea_cons (ev_m2 ev_c ev_var (pSub_int _ _)) ea_nil) q2)
  have a3 : ∃ s4, Nd s4 ∧ mFor (mRgI (mG1 (m2 true pSub (mC (.int 6)) (mVar 1)))) (qN 4 false) (mSet (qN 2 false) (m2 false pMul (mVar 2) (m2 false pAdd (mVar 4) (mC (.int 1))))) (e2 1 none) = .nx (e2 (fct (6 - s)) s4) := by
    have hL : rgD 0 ((6 : Int) - (s : Int)) = (inz (6 - s)).map PyData.int := by
      rw [show (6 : Int) - (s : Int) = ((6 - s : Nat) : Int) by omega, rgD_ints]
    obtain ⟨e', g1, s4, he, n4⟩ := for_inv (Iv := fun t e => ∃ s4, e = e2 (fct t) s4 ∧ Nd s4) (q := qN 4 false) (b := (mSet (qN 2 false) (m2 false pMul (mVar 2) (m2 false pAdd (mVar 4) (mC (.int 1)))))) (xs := (inz (6 - s)).map PyData.int) (env := e2 1 none) 0 ⟨none, rfl, trivial⟩ (fun j x e hx hi => by
      obtain ⟨s4, rfl, n4⟩ := hi
      have hj : j < 6 - s := by
        obtain ⟨h, _⟩ := List.getElem?_eq_some_iff.mp hx
        rw [List.length_map, ints_len] at h
        exact h
      have hx2 : x = .int (j : Nat) := by
        unfold inz at hx
        rw [List.getElem?_map, List.getElem?_map, List.getElem?_range hj] at hx
        cases hx
        rfl
      subst hx2
      rw [Nat.zero_add]
      have sm := fct_small j (by simp; omega)
      refine ⟨e2 (fct j) (some (.d (.int (j : Nat)))), qN_ok (i := 4) (by simp [e2]) (n4.of rfl) rfl, e2 (fct (j + 1)) (some (.d (.int (j : Nat)))), ?_, ⟨_, rfl, trivial⟩⟩
      exact set_ev (r := .d (.int (fct j * ((j : Int) + 1)))) (ev_m2 (x := .int (fct j)) (y := .int ((j : Int) + 1)) ev_var (ev_m2 ev_var ev_c (pAdd_int _ _)) (pMul_int (.inl (small64_of (by omega) (by omega))))))
    rw [Nat.zero_add, List.length_map, ints_len] at he
    subst he
    have z : mRgI (mG1 (m2 true pSub (mC (.int 6)) (mVar 1))) (e2 1 none) = .ok (rgD 0 ((6 : Int) - (s : Int))) (e2 1 none) := es_rg (eg_1 (ev_m2 ev_c ev_var (pSub_int _ _))) (rgOk_small (by omega) (by omega) (by omega) (by omega))
    rw [hL] at z
    exact ⟨s4, n4, for_src z g1⟩
  obtain ⟨s4, n4, a3⟩ := a3
  let e3 : En := [some (.pl l2), some (.d (.int (s : Nat))), some (.d (.int (fct (6 - s)))), some (.d (.int (p : Nat))), s4, some (.d (rw' row6)), none, none, none]
  let e4 : En := [some (.pl l2), some (.d (.int (s : Nat))), some (.d (.int (fct (6 - s)))), some (.d (.int (p : Nat))), s4, some (.d (rw' row6)), some (.d (Mk.B (ts6 p s)).toD), none, none]
  have zr : ∀ {tl : En}, mRgI (mG1 (mC (.int 6))) tl = .ok ((inz 6).map PyData.int) tl := fun {tl} => by
    have z := es_rg (eg_1 (env := tl) (i := 6) ev_c) (rgOk_small (by omega) (by omega) (by omega) (by omega))
    rw [show (6 : Int) = ((6 : Nat) : Int) from rfl, rgD_ints] at z
    exact z
  have a4 : mSet (qN 5 false) (mN true pTup (mACons (mLc (mRgI (mG1 (mC (.int 6)))) (qN 8 false) mYes (m2 true pSub (mC (.int 5)) (mVar 8)) [8]) mANil)) (e2 (fct (6 - s)) s4) = .nx e3 := by
    have zl : Ev (mLc (mRgI (mG1 (mC (.int 6)))) (qN 8 false) mYes (m2 true pSub (mC (.int 5)) (mVar 8)) [8]) (e2 (fct (6 - s)) s4) (.ol ((inz 6).map fun k => .int (5 - k))) :=
      ev_lcM zr (fun k _ => ⟨[some (.pl l2), some (.d (.int (s : Nat))), some (.d (.int (fct (6 - s)))), some (.d (.int (p : Nat))), s4, none, none, none, some (.d (.int k))], rfl, ev_m2 ev_c ev_var (pSub_int _ _), rfl⟩) (by rw [ints_len]; decide)
    have er : ((inz 6).map fun k => PyData.int (5 - k)) = row6.map PyData.int := by rfl
    rw [er] at zl
    exact set_ev (ev_mN (ea_cons zl ea_nil) (show pTup [.list _] = some (.d (.tuple _)) from rfl))
  have a5 : mSet (qN 6 false) (mTup (mACons (mC (.str "bells")) (mACons (mN true pTup (mACons (mLc (mRgI (mG1 (mC (.int 6)))) (qN 8 false) mYes (mIf (mTst (mCh pLe pLt true true (mVar 3) (mVar 8) (m2 false pAdd (mVar 3) (mVar 1)))) (m2 true pIx (mVar 5) (mVar 8)) (mC .none)) [8]) mANil)) mANil))) e3 = .nx e4 := by
    have zl : Ev (mLc (mRgI (mG1 (mC (.int 6)))) (qN 8 false) mYes (mIf (mTst (mCh pLe pLt true true (mVar 3) (mVar 8) (m2 false pAdd (mVar 3) (mVar 1)))) (m2 true pIx (mVar 5) (mVar 8)) (mC .none)) [8]) e3 (.ol ((inz 6).map fun k => oD (if (decide ((p : Int) ≤ k) && decide (k < (p : Int) + (s : Int))) = true then some (row6.getD k.toNat 0) else none))) := by
      refine ev_lcM zr (fun k hk => ⟨[some (.pl l2), some (.d (.int (s : Nat))), some (.d (.int (fct (6 - s)))), some (.d (.int (p : Nat))), s4, some (.d (rw' row6)), none, none, some (.d (.int k))], rfl, ?_, rfl⟩) (by rw [ints_len]; decide)
      obtain ⟨i, hi, rfl⟩ := List.mem_map.mp hk
      rw [List.mem_range] at hi
      refine ev_if (et_tst (ev_ch ev_var ev_var (fun _ => ev_m2 ev_var ev_var (pAdd_int _ _)) (pLe_int _ _) fun _ => pLt_int _ _)) (fun e => ?_) (fun e => ?_)
      · rw [if_pos e]
        exact ev_m2 ev_var ev_var (pIx_row (row := row6) (k := (i : Nat)) (by omega) (by simp [row6]; omega))
      · rw [e, if_neg (by decide)]
        exact ev_c
    have er : ((inz 6).map fun k => oD (if (decide ((p : Int) ≤ k) && decide (k < (p : Int) + (s : Int))) = true then some (row6.getD k.toNat 0) else none)) = (ts6 p s).map oD := by
      unfold ts6
      rw [List.map_map]
      rfl
    rw [er] at zl
    exact set_ev (ev_tup (ea_cons ev_c (ea_cons (ev_mN (ea_cons zl ea_nil) (show pTup [.list _] = some (.d (.tuple _)) from rfl)) ea_nil)))
  have rU : Rn m_rows_with 4 [.d (.int 6), .d (.list [.tuple [.str "run", .str (wayS up), .int (p : Nat), .int (s : Nat)]])] (.ol (((lay 6 6).filter fun r => [Mk.U up p s].all (hv r)).map rw')) :=
    r_rows_with (b := 6) (ms := [Mk.U up p s]) (by decide) (by decide) (fun m hm => by rw [List.mem_singleton.mp hm]; exact ⟨s2, ps⟩) (by simp) (.inl rfl)
  have rB : Rn m_rows_with 4 [.d (.int 6), .d (.list [(Mk.B (ts6 p s)).toD])] (.ol (((lay 6 6).filter fun r => [Mk.B (ts6 p s)].all (hv r)).map rw')) :=
    r_rows_with (b := 6) (ms := [Mk.B (ts6 p s)]) (by decide) (by decide) (fun m hm => by rw [List.mem_singleton.mp hm]; exact hB) (by simp) (.inl rfl)
  generalize hDU : ((lay 6 6).filter fun r => [Mk.U up p s].all (hv r)) = DU at *
  generalize hDB : ((lay 6 6).filter fun r => [Mk.B (ts6 p s)].all (hv r)) = DB at *
  let e5 : En := [some (.pl l3), some (.d (.int (s : Nat))), some (.d (.int (fct (6 - s)))), some (.d (.int (p : Nat))), s4, some (.d (rw' row6)), some (.d (Mk.B (ts6 p s)).toD), some (.ol (DU.map rw')), none]
  have a6 : mSet (qN 7 true) (mCall n_rows_with m_rows_with (mACons (mC (.int 6)) (mACons (mFrz (mLst (mACons (mTup (mACons (mC (.str "run")) (mACons (mCallP n__law_pick m__law_pick (mACons (mVar 0) (mACons (mFrz (mLst (mACons (mC (.str "up")) (mACons (mC (.str "down")) mANil)))) mANil))) (mACons (mVar 3) (mACons (mVar 1) mANil))))) mANil))) mANil))) e4 = .nx e5 :=
    set_ev (to_rn (to_cons (e1 := e4) ev_c (to_cons (to_frzL (to_lst (to_cons (to_tup (to_cons (e1 := e4) ev_c (to_cons (to_rnP (ea_cons (ev_frzL (ev_lst (ea_cons ev_c (ea_cons ev_c ea_nil)))) ea_nil) q3) (to_cons ev_var (to_cons ev_var to_nil))))) to_nil))) to_nil)) rU)
  have a7 : Ev (mAndV (mTst (m2 true pEqT (mN true pLen (mACons (mCall n_rows_with m_rows_with (mACons (mC (.int 6)) (mACons (mFrz (mLst (mACons (mVar 6) mANil))) mANil))) mANil)) (mVar 2))) (m2 true pEqT (mN true pLen (mACons (mVar 7) mANil)) (m2 false pMul (mVar 2) (m2 true pSub (mC (.int 7)) (mVar 1))))) e5 (.d (.bool true)) := by
    have sm := fct_small (6 - s) (by simp; omega)
    refine (ev_andB (et_tst (ev_m2 (ev_mN (ea_cons (ev_rn (ea_cons ev_c (ea_cons (ev_frzL (ev_lst (ea_cons ev_var ea_nil))) ea_nil)) rB) ea_nil) (pLen_lst _)) ev_var (pEqT_int _ _))) fun _ => ev_m2 (ev_mN (ea_cons ev_own ea_nil) (pLen_lst _)) (ev_m2 (x := .int (fct (6 - s))) (y := .int (7 - (s : Int))) ev_var (ev_m2 ev_c ev_var (pSub_int _ _)) (pMul_int (.inl (small64_of (by omega) (by omega))))) (pEqT_int _ _)).to ?_
    rw [List.length_map, List.length_map, decide_eq_true cB, decide_eq_true cU] <;> rfl
  exact ⟨l3, p3, e5, run_rt (seq_nx a1 (seq_nx a2 (seq_nx a3 (seq_nx a4 (seq_nx a5 (seq_nx a6 (ret_ev a7))))))), rfl⟩
end Pwk91

set_option Elab.async false
set_option linter.all false
set_option maxRecDepth 100000
set_option maxHeartbeats 4000000
/-! k91: the law's turn, first half. -/
namespace Pwk91
open PySem PySem.Spec PyProof.Rows L2 Pw
theorem to_rnP2 {tl tl' : En} {as : MA} {n : Nat} {mc : MS} {r : R} {rest : List R} {xs0 xs ys : List D} (h : as (some (.pl xs0) :: tl) = .ok rest (some (.pl xs) :: tl')) (hr : RnP mc n xs rest r ys) (hd : rest.all isDK = true := by rfl) : mCallP n mc (mACons (mVar 0) as) (some (.pl xs0) :: tl) = .ok r (some (.pl ys) :: tl') := by
  obtain ⟨e', h', h2⟩ := hr
  have hv : mVar 0 (some (.pl xs0) :: tl) = .ok (.vr 0) (some (.pl xs0) :: tl) := rfl
  unfold mCallP mACons
  rw [hv]
  simp only [Res.bind]
  rw [h]
  have e0 : (some (R.pl xs) :: tl' : En)[0]? = some (some (.pl xs)) := rfl
  simp only [hd, if_true, e0, potL, h', h2, reP]
  rfl
theorem to_rgI {m : ME} {env e1 : En} {i : Int} (h : m env = .ok (.d (.int i)) e1) (ok : rgOk 0 i = true) : mRgI (mG1 m) env = .ok (rgD 0 i) e1 := by
  unfold mRgI mG1
  rw [h]
  show (if rgOk 0 i = true then Res.ok (rgD 0 i) e1 else .st) = _
  rw [if_pos ok]
theorem ext_ev {env : En} {xs ys : List D} {i : Nat} {m : ME} (h : env[i]? = some (some (.ol xs))) (hm : Ev m env (.d (.list ys))) (hl : xs.length + ys.length ≤ 16777216) : mMtL gExt (mVar i) (mACons m mANil) env = .ok (.d .none) (env.set i (some (.ol (xs ++ ys)))) := by
  unfold mMtL
  rw [show mVar i env = .ok (.vr i) env from ev_own h rfl]
  simp only [Res.bind]
  rw [if_pos (show isLst _ = true by rw [h]; rfl), show mACons _ mANil _ = _ from ea_cons hm ea_nil]
  simp only [allD, Option.map, h]
  have g : gExt (.ol xs) [.list ys] = some (.none, .ol (xs ++ ys)) := by
    show (if xs.length + ys.length ≤ 16777216 then some (PyData.none, R.ol (xs ++ ys)) else none) = _
    rw [if_pos hl]
  simp only [g]
theorem mks_of {b : Nat} {ys : List D} (h : ∀ y ∈ ys, ∃ m : Mk, m.ok b ∧ y = m.toD) : ∃ ms : List Mk, ys = ms.map Mk.toD ∧ ∀ m ∈ ms, m.ok b := by
  induction ys with
  | nil => exact ⟨[], rfl, fun m h => nomatch h⟩
  | cons y ys ih =>
    obtain ⟨m, hm, rfl⟩ := h y List.mem_cons_self
    obtain ⟨ms, rfl, ho⟩ := ih fun z q => h z (List.mem_cons_of_mem _ q)
    exact ⟨m :: ms, rfl, fun k hk => by
      rcases List.mem_cons.mp hk with rfl | hk
      · exact hm
      · exact ho k hk⟩
def its : Mk → List D
  | .B ts => [.str "bells", .tuple (ts.map oD)]
  | .U up p s => [.str "run", .str (wayS up), .int (p : Nat), .int (s : Nat)]
theorem toD_its (m : Mk) : m.toD = .tuple (its m) := by cases m <;> rfl
theorem pAdd_lst {xs ys : List D} (h : xs.length + ys.length ≤ 16777216) : pAdd (.list xs) (.list ys) = some (.ol (xs ++ ys)) := by
  show (if xs.length + ys.length ≤ 16777216 then some (R.ol (xs ++ ys)) else none) = _
  rw [if_pos h]
theorem pMul_rep {x : D} {b : Nat} (h : 2 ≤ b) (h2 : b ≤ 6) : pMul (.tuple [x]) (.int (b : Nat)) = some (.d (.tuple (List.replicate b [x]).flatten)) := by
  show (if (decide ((2 : Int) ≤ (b : Nat)) && decide (((b : Nat) : Int) ≤ 1000) && decide ([x].length ≤ 1000) && ![x].isEmpty) = true then some (R.d (.tuple (List.replicate ((b : Nat) : Int).toNat [x]).flatten)) else none) = _
  rw [if_pos, show ((b : Nat) : Int).toNat = b from rfl]
  simp only [Bool.and_eq_true, decide_eq_true_eq]
  exact ⟨⟨⟨by omega, by omega⟩, by simp⟩, rfl⟩
theorem rep_bdl {x : D} {b : Nat} (hb : b ≤ 6) (hx : bdl [10, 10] x = true) : bdl LV (.tuple [.str "bells", .tuple (List.replicate b [x]).flatten]) = true ↔ bdl [10] x = true ∨ b = 0 := by
  constructor
  · intro h
    by_cases h0 : b = 0
    · exact .inr h0
    · refine .inl ?_
      have z := bdl_sub h (y := .tuple (List.replicate b [x]).flatten) (by simp)
      exact bdl_sub z (List.mem_flatten.mpr ⟨[x], List.mem_replicate.mpr ⟨h0, rfl⟩, by simp⟩)
  · intro h
    refine bdl_tuple.mpr ⟨by simp, fun y hy => ?_⟩
    simp only [List.mem_cons, List.not_mem_nil, or_false] at hy
    rcases hy with rfl | rfl
    · rw [bdl_str]; decide +kernel
    · refine bdl_tuple.mpr ⟨by simp; omega, fun y hy => ?_⟩
      obtain ⟨q, h1, h2⟩ := List.mem_flatten.mp hy
      obtain ⟨h3, rfl⟩ := List.mem_replicate.mp h1
      rw [List.mem_singleton.mp h2]
      rcases h with h | h
      · exact h
      · exact absurd h h3
/-- the fixed values -/
def vals (b : Nat) : List D := [.none, .int 0, .str "bells", .tuple [], .tuple [.str "bells"], .tuple [.str "run", .str "up", .int 0], .tuple [.str "bells", .tuple (List.replicate b [.none]).flatten], .tuple [.str "bells", .tuple (List.replicate b [.int 0]).flatten], .tuple [.str "bells", .tuple (rgD 0 ((b : Int) + 1))]]
theorem vals_bdl {b : Nat} (hb : b ≤ 6) : ∀ v ∈ vals b, bdl LV v = true := by
  have w : bdl [10, 10] (.str "bells") = true ∧ bdl [10, 10] (.str "run") = true ∧ bdl [10, 10] (.str "up") = true ∧ bdl LV (.str "bells") = true := by
    refine ⟨?_, ?_, ?_, ?_⟩ <;> (rw [bdl_str]; decide +kernel)
  intro v hv
  simp only [vals, List.mem_cons, List.not_mem_nil, or_false] at hv
  rcases hv with rfl | rfl | rfl | rfl | rfl | rfl | rfl | rfl | rfl
  · exact bdl_none
  · exact bdl_int.mpr (by omega)
  · exact w.2.2.2
  · exact bdl_tuple.mpr ⟨by simp, fun y hy => nomatch hy⟩
  · exact bdl_tuple.mpr ⟨by simp, fun y hy => by rw [List.mem_singleton.mp hy]; exact w.1⟩
  · refine bdl_tuple.mpr ⟨by simp, fun y hy => ?_⟩
    simp only [List.mem_cons, List.not_mem_nil, or_false] at hy
    rcases hy with rfl | rfl | rfl
    · exact w.2.1
    · exact w.2.2.1
    · exact bdl_int.mpr (by omega)
  · exact (rep_bdl hb bdl_none).mpr (.inl bdl_none)
  · exact (rep_bdl hb (bdl_int.mpr (by omega))).mpr (.inl (bdl_int.mpr (by omega)))
  · refine bdl_tuple.mpr ⟨by simp, fun y hy => ?_⟩
    simp only [List.mem_cons, List.not_mem_nil, or_false] at hy
    rcases hy with rfl | rfl
    · exact w.1
    · refine bdl_tuple.mpr ⟨by rw [rgD_len]; omega, fun y hy => ?_⟩
      rw [show ((b : Int) + 1) = ((b + 1 : Nat) : Int) by omega, rgD_ints] at hy
      obtain ⟨c, hc, rfl⟩ := List.mem_map.mp hy
      obtain ⟨i, hi, rfl⟩ := List.mem_map.mp hc
      rw [List.mem_range] at hi
      exact bdl_int.mpr (by omega)
end Pwk91

set_option Elab.async false
set_option linter.all false
set_option maxRecDepth 100000
set_option maxHeartbeats 4000000
/-! k91: the law's turn. -/
namespace Pwk91
open PySem PySem.Spec PyProof.Rows L2 Pw
/-- the slots of a turn -/
abbrev E12 (l : List D) (b : Nat) (M s3 s4 s5 s6 s7 s8 : Option R) : En := [some (.pl l), some (.d (.int (b : Nat))), M, s3, s4, s5, s6, s7, s8, none, none, none]
theorem t_marks {b : Nat} (hb : b = 3 ∨ b = 4 ∨ b = 5) {l : List D} (hp : PotOk l) : ∃ (ms : List Mk) (l' : List D), PotOk l' ∧ (∀ m ∈ ms, m.ok b) ∧ ms.length ≤ 3 ∧
    mSet (qN 2 true) (mLc (mRgI (mG1 (mCallP n__law_draw m__law_draw (mACons (mVar 0) (mACons (mC (.int 4)) mANil))))) (qN 9 false) mYes (mCallP n__law_mark m__law_mark (mACons (mVar 0) (mACons (mVar 1) mANil))) [9]) (E12 l b none none none none none none none) = .nx (E12 l' b (some (.ol (ms.map Mk.toD))) none none none none none none) := by
  obtain ⟨n, l1, p1, n0, n1, q1⟩ := r_draw (n := 4) hp (by decide) (by decide)
  have hz : (rgD 0 n).length ≤ 3 := by rw [rgD_len]; omega
  obtain ⟨ys, e', g1, ⟨l2, p2, rfl⟩, g3, g4⟩ := ev_lcI (Iv := fun e => ∃ l, PotOk l ∧ e = E12 l b none none none none none none none) (Y := fun y => ∃ m : Mk, m.ok b ∧ y = m.toD) (q := qN 9 false) (tt := mYes) (me := mCallP n__law_mark m__law_mark (mACons (mVar 0) (mACons (mVar 1) mANil))) (vs := [9]) (mi := mRgI (mG1 (mCallP n__law_draw m__law_draw (mACons (mVar 0) (mACons (mC (.int 4)) mANil)))))
    (env := E12 l b none none none none none none none) (env1 := E12 l1 b none none none none none none none) (to_rgI (to_rnP (ea_cons ev_c ea_nil) q1) (rgOk_small (by omega) (by omega) (by omega) (by omega))) ⟨l1, p1, rfl⟩ (fun x _ e ⟨l, hl, he⟩ => by
      subst he
      obtain ⟨m, l', ok, pk, qk⟩ := r_law_mark hb hl
      exact ⟨[some (.pl l), some (.d (.int (b : Nat))), none, none, none, none, none, none, none, some (.d x), none, none], _, m.toD, [some (.pl l'), some (.d (.int (b : Nat))), none, none, none, none, none, none, none, some (.d x), none, none], rfl, rfl, to_rnP (ea_cons ev_var ea_nil) qk, ⟨l', pk, rfl⟩, ⟨m, ok, rfl⟩⟩) (by omega)
  obtain ⟨ms, rfl, ho⟩ := mks_of g4
  exact ⟨ms, l2, p2, ho, by rw [List.length_map] at g3; omega, set_ev g1⟩
theorem t_vals {b : Nat} (hb : b = 3 ∨ b = 4 ∨ b = 5) {l : List D} {ms : List Mk} (ho : ∀ m ∈ ms, m.ok b) (hm : ms.length ≤ 3) : ∃ vs : List D, (∀ v ∈ vs, bdl LV v = true) ∧ vs.length ≤ 15 ∧
    mSet (qN 3 true) (m2 false pAdd (m2 false pAdd (mVar 2) (mLc (mSq (mFrz (mVar 2))) (qN 10 false) mYes (mFrz (mN true pLst (mACons (mVar 10) mANil))) [10])) (mLst (mACons (mC .none) (mACons (mC (.int 0)) (mACons (mC (.str "bells")) (mACons (mTup mANil) (mACons (mTup (mACons (mC (.str "bells")) mANil)) (mACons (mTup (mACons (mC (.str "run")) (mACons (mC (.str "up")) (mACons (mC (.int 0)) mANil)))) (mACons (mTup (mACons (mC (.str "bells")) (mACons (m2 false pMul (mTup (mACons (mC .none) mANil)) (mVar 1)) mANil))) (mACons (mTup (mACons (mC (.str "bells")) (mACons (m2 false pMul (mTup (mACons (mC (.int 0)) mANil)) (mVar 1)) mANil))) (mACons (mTup (mACons (mC (.str "bells")) (mACons (mRgT (mG1 (m2 false pAdd (mVar 1) (mC (.int 1))))) mANil))) mANil)))))))))))
      (E12 l b (some (.ol (ms.map Mk.toD))) none none none none none none) = .nx (E12 l b (some (.d (.list (ms.map Mk.toD)))) (some (.ol vs)) none none none none none) := by
  have h6 : b ≤ 6 := by omega
  let eL : En := E12 l b (some (.d (.list (ms.map Mk.toD)))) none none none none none none
  have zl : mLc (mSq (mFrz (mVar 2))) (qN 10 false) mYes (mFrz (mN true pLst (mACons (mVar 10) mANil))) [10] (E12 l b (some (.ol (ms.map Mk.toD))) none none none none none none) = .ok (.ol (ms.map fun m => .list (its m))) eL := by
    have z := ev_lcM (α := Mk) (env := eL) (mi := fun e => .ok (ms.map Mk.toD) e) (q := qN 10 false) (me := mFrz (mN true pLst (mACons (mVar 10) mANil))) (vs := [10]) (h := Mk.toD) (g := fun m => .list (its m)) rfl (fun m _ => ⟨[some (.pl l), some (.d (.int (b : Nat))), some (.d (.list (ms.map Mk.toD))), none, none, none, none, none, none, none, some (.d m.toD), none], rfl, ev_frzL (ev_mN (xs := [m.toD]) (ea_cons ev_var ea_nil) (by rw [toD_its] <;> rfl)), rfl⟩) (by omega)
    exact z
  have zv : Ev (mLst (mACons (mC .none) (mACons (mC (.int 0)) (mACons (mC (.str "bells")) (mACons (mTup mANil) (mACons (mTup (mACons (mC (.str "bells")) mANil)) (mACons (mTup (mACons (mC (.str "run")) (mACons (mC (.str "up")) (mACons (mC (.int 0)) mANil)))) (mACons (mTup (mACons (mC (.str "bells")) (mACons (m2 false pMul (mTup (mACons (mC .none) mANil)) (mVar 1)) mANil))) (mACons (mTup (mACons (mC (.str "bells")) (mACons (m2 false pMul (mTup (mACons (mC (.int 0)) mANil)) (mVar 1)) mANil))) (mACons (mTup (mACons (mC (.str "bells")) (mACons (mRgT (mG1 (m2 false pAdd (mVar 1) (mC (.int 1))))) mANil))) mANil)))))))))) eL (.ol (vals b)) :=
    ev_lst (ea_cons ev_c (ea_cons ev_c (ea_cons ev_c (ea_cons (ev_tup ea_nil) (ea_cons (ev_tup (ea_cons ev_c ea_nil)) (ea_cons (ev_tup (ea_cons ev_c (ea_cons ev_c (ea_cons ev_c ea_nil)))) (ea_cons (ev_tup (ea_cons ev_c (ea_cons (ev_m2 (ev_tup (ea_cons ev_c ea_nil)) ev_var (pMul_rep (by omega) h6)) ea_nil))) (ea_cons (ev_tup (ea_cons ev_c (ea_cons (ev_m2 (ev_tup (ea_cons ev_c ea_nil)) ev_var (pMul_rep (by omega) h6)) ea_nil))) (ea_cons (ev_tup (ea_cons ev_c (ea_cons (ev_rgT (eg_1 (i := (b : Int) + 1) (ev_m2 ev_var ev_c (pAdd_int _ _))) (rgOk_small (by omega) (by omega) (by omega) (by omega))) ea_nil))) ea_nil))))))))) rfl (by simp [vals])
  refine ⟨ms.map Mk.toD ++ (ms.map fun m => .list (its m)) ++ vals b, fun v hv => ?_, by simp only [List.length_append, List.length_map, vals, List.length_cons, List.length_nil]; omega, ?_⟩
  · rcases List.mem_append.mp hv with hv | hv
    · rcases List.mem_append.mp hv with hv | hv
      · obtain ⟨m, q, rfl⟩ := List.mem_map.mp hv
        exact mk_LV h6 (ho m q)
      · obtain ⟨m, q, rfl⟩ := List.mem_map.mp hv
        have z := mk_LV h6 (ho m q)
        rw [toD_its] at z
        exact bdl_list.mpr (bdl_tuple.mp z)
    · exact vals_bdl h6 v hv
  · refine set_ev (to_m2 (e1 := eL) (e2 := eL) (r1 := .ol (ms.map Mk.toD ++ ms.map fun m => .list (its m))) (to_m2 (e2 := eL) (x := .list (ms.map Mk.toD)) (y := .list (ms.map fun m => .list (its m))) (show mVar 2 _ = .ok (.vr 2) _ from rfl) zl (pAdd_lst (xs := ms.map Mk.toD) (ys := ms.map fun m => .list (its m)) (by rw [List.length_map, List.length_map]; omega))) zv (pAdd_lst (xs := ms.map Mk.toD ++ ms.map fun m => .list (its m)) (ys := vals b) (by simp only [List.length_append, List.length_map, vals, List.length_cons, List.length_nil]; omega)))
end Pwk91

set_option Elab.async false
set_option linter.all false
set_option maxRecDepth 100000
set_option maxHeartbeats 4000000
/-! k91: the law's turn: the runs told, the bent values, the comparison. -/
namespace Pwk91
open PySem PySem.Spec PyProof.Rows L2 Pw
abbrev mExt : MS := (mDrp (mMtL gExt (mVar 3) (mACons (mFrz (mLc (mSq (mTup (mACons (mC (.int 1)) (mACons (mC (.int 2)) (mACons (mC (.int 3)) (mACons (mVar 1) (mACons (m2 false pAdd (mVar 1) (mC (.int 1))) (mACons (mC (.bool true)) mANil)))))))) (qN 11 false) mYes (mTup (mACons (mC (.str "run")) (mACons (mVar 4) (mACons (mVar 5) (mACons (mVar 11) mANil))))) [11])) mANil)))
/-- the values: of bounded length, bounded themselves -/
def VsOk (k : Nat) (vs : List D) : Prop := vs.length ≤ k ∧ ∀ v ∈ vs, bdl LV v = true
theorem t_ext {b : Nat} (h6 : b ≤ 6) {l : List D} {M : Option R} {vs : List D} {k : Nat} {w : Str} {pl : Int} (hv : VsOk k vs) (hk : k ≤ 1000) (hw : okW w = true) (hp : -1 ≤ pl) (hp2 : pl ≤ 6) :
    ∃ vs', VsOk (k + 6) vs' ∧ mExt (E12 l b M (some (.ol vs)) (some (.d (.str w))) (some (.d (.int pl))) none none none) = .nx (E12 l b M (some (.ol vs')) (some (.d (.str w))) (some (.d (.int pl))) none none none) := by
  have zl : Ev (mLc (mSq (mTup (mACons (mC (.int 1)) (mACons (mC (.int 2)) (mACons (mC (.int 3)) (mACons (mVar 1) (mACons (m2 false pAdd (mVar 1) (mC (.int 1))) (mACons (mC (.bool true)) mANil)))))))) (qN 11 false) mYes (mTup (mACons (mC (.str "run")) (mACons (mVar 4) (mACons (mVar 5) (mACons (mVar 11) mANil))))) [11]) (E12 l b M (some (.ol vs)) (some (.d (.str w))) (some (.d (.int pl))) none none none) (.ol ([.int 1, .int 2, .int 3, .int (b : Nat), .int ((b : Int) + 1), .bool true].map fun x => .tuple [.str "run", .str w, .int pl, x])) :=
    ev_lcA (es_tup (ev_tup (ea_cons ev_c (ea_cons ev_c (ea_cons ev_c (ea_cons ev_var (ea_cons (ev_m2 ev_var ev_c (pAdd_int _ _)) (ea_cons ev_c ea_nil)))))))) (fun x _ => ⟨[some (.pl l), some (.d (.int (b : Nat))), M, some (.ol vs), some (.d (.str w)), some (.d (.int pl)), none, none, none, none, none, some (.d x)], rfl, ev_tup (ea_cons ev_c (ea_cons ev_var (ea_cons ev_var (ea_cons ev_var ea_nil)))), rfl⟩) (by simp)
  refine ⟨vs ++ [.int 1, .int 2, .int 3, .int (b : Nat), .int ((b : Int) + 1), .bool true].map fun x => .tuple [.str "run", .str w, .int pl, x], ⟨?_, fun v h => ?_⟩, drp_ev (ext_ev (i := 3) rfl (ev_frzL zl) (by have := hv.1; simp only [List.length_map, List.length_cons, List.length_nil]; omega))⟩
  · have := hv.1
    simp only [List.length_append, List.length_map, List.length_cons, List.length_nil]
    omega
  · rcases List.mem_append.mp h with h | h
    · exact hv.2 v h
    · obtain ⟨x, hx, rfl⟩ := List.mem_map.mp h
      have hx2 : bdl [10, 10] x = true := by
        simp only [List.mem_cons, List.not_mem_nil, or_false] at hx
        rcases hx with rfl | rfl | rfl | rfl | rfl | rfl
        all_goals first | exact bdl_bool | exact bdl_int.mpr (by omega)
      refine bdl_tuple.mpr ⟨by simp, fun y hy => ?_⟩
      simp only [List.mem_cons, List.not_mem_nil, or_false] at hy
      rcases hy with rfl | rfl | rfl | rfl
      · rw [bdl_str]; decide +kernel
      · rw [bdl_str]; exact hw
      · exact bdl_int.mpr (by omega)
      · exact hx2
theorem t_runs {b : Nat} (h3 : 3 ≤ b) (h6 : b ≤ 6) {l : List D} {M : Option R} {vs : List D} (hv : VsOk 15 vs) :
    ∃ vs' s4 s5, VsOk 87 vs' ∧ mFor (mSq (mTup (mACons (mC (.str "up")) (mACons (mC (.str "down")) (mACons (mC (.str "off")) mANil))))) (qN 4 false) (mFor (mSq (mTup (mACons (mC (.int 0)) (mACons (m2 true pSub (mVar 1) (mC (.int 2))) (mACons (m2 true pSub (mVar 1) (mC (.int 1))) (mACons (m1 true pNeg (mC (.int 1))) mANil)))))) (qN 5 false) mExt) (E12 l b M (some (.ol vs)) none none none none none) = .nx (E12 l b M (some (.ol vs')) s4 s5 none none none) ∧ Nd s4 ∧ Nd s5 := by
  obtain ⟨e', g1, vs', s4, s5, rfl, v', n4, n5⟩ := for_inv (Iv := fun i e => ∃ vs s4 s5, e = E12 l b M (some (.ol vs)) s4 s5 none none none ∧ VsOk (15 + 24 * i) vs ∧ Nd s4 ∧ Nd s5) (q := qN 4 false) (b := (mFor (mSq (mTup (mACons (mC (.int 0)) (mACons (m2 true pSub (mVar 1) (mC (.int 2))) (mACons (m2 true pSub (mVar 1) (mC (.int 1))) (mACons (m1 true pNeg (mC (.int 1))) mANil)))))) (qN 5 false) mExt)) (xs := [.str "up", .str "down", .str "off"]) (env := E12 l b M (some (.ol vs)) none none none none none) 0 ⟨vs, none, none, rfl, hv, trivial, trivial⟩ (fun i x e hx hi => by
    obtain ⟨vs, s4, s5, rfl, hv, n4, n5⟩ := hi
    have hi3 : i < 3 := by
      obtain ⟨h, _⟩ := List.getElem?_eq_some_iff.mp hx
      exact h
    have hw : ∃ w, x = .str w ∧ okW w = true := by
      have m := List.mem_of_getElem? hx
      simp only [List.mem_cons, List.not_mem_nil, or_false] at m
      rcases m with rfl | rfl | rfl
      all_goals exact ⟨_, rfl, by decide +kernel⟩
    obtain ⟨w, rfl, hw⟩ := hw
    refine ⟨E12 l b M (some (.ol vs)) (some (.d (.str w))) s5 none none none, qN_ok (i := 4) (by simp) (n4.of rfl) rfl, ?_⟩
    obtain ⟨e', g1, vs', s5', rfl, v', n5'⟩ := for_inv (Iv := fun j e => ∃ vs s5, e = E12 l b M (some (.ol vs)) (some (.d (.str w))) s5 none none none ∧ VsOk (15 + 24 * (0 + i) + 6 * j) vs ∧ Nd s5) (q := qN 5 false) (b := mExt) (xs := [.int 0, .int ((b : Int) - 2), .int ((b : Int) - 1), .int (-1)]) (env := E12 l b M (some (.ol vs)) (some (.d (.str w))) s5 none none none) 0 ⟨vs, s5, rfl, hv, n5⟩ (fun j y e hy hj => by
      obtain ⟨vs, s5, rfl, hv, n5⟩ := hj
      have hj4 : j < 4 := by
        obtain ⟨h, _⟩ := List.getElem?_eq_some_iff.mp hy
        exact h
      have hpl : ∃ pl : Int, y = .int pl ∧ -1 ≤ pl ∧ pl ≤ 6 := by
        have m := List.mem_of_getElem? hy
        simp only [List.mem_cons, List.not_mem_nil, or_false] at m
        rcases m with rfl | rfl | rfl | rfl
        all_goals exact ⟨_, rfl, by omega, by omega⟩
      obtain ⟨pl, rfl, q1, q2⟩ := hpl
      obtain ⟨vs', v', g⟩ := t_ext h6 (l := l) (M := M) hv (by omega) hw q1 q2
      exact ⟨E12 l b M (some (.ol vs)) (some (.d (.str w))) (some (.d (.int pl))) none none none, qN_ok (i := 5) (by simp) (n5.of rfl) rfl, _, g, vs', _, rfl, v', trivial⟩)
    refine ⟨_, for_src (es_tup (ev_tup (ea_cons ev_c (ea_cons (ev_m2 ev_var ev_c (pSub_int _ _)) (ea_cons (ev_m2 ev_var ev_c (pSub_int _ _)) (ea_cons (ev_m1 (x := .int 1) (r := .d (.int (-1))) ev_c rfl) ea_nil)))))) g1, vs', _, s5', rfl, ⟨Nat.le_trans v'.1 (by simp; omega), v'.2⟩, trivial, n5'⟩)
  exact ⟨vs', s4, s5, ⟨Nat.le_trans v'.1 (by simp), v'.2⟩, for_src (es_tup (ev_tup (ea_cons ev_c (ea_cons ev_c (ea_cons ev_c ea_nil))))) g1, n4, n5⟩
end Pwk91

set_option Elab.async false
set_option linter.all false
set_option maxRecDepth 100000
set_option maxHeartbeats 4000000
/-! k91: the law gives True. -/
namespace Pwk91
open PySem PySem.Spec PyProof.Rows L2 Pw
theorem to_sqL {m : ME} {env e1 : En} {xs : List D} (h : m env = .ok (.d (.list xs)) e1) : mSq m env = .ok xs e1 := by
  unfold mSq
  rw [h] <;> rfl
theorem t_bent {b : Nat} (hb : b = 3 ∨ b = 4 ∨ b = 5) {l : List D} (hp : PotOk l) {M s4 s5 : Option R} {vs : List D} (hv : VsOk 87 vs) : ∃ (l' : List D) (ws : List D), PotOk l' ∧ (∀ v ∈ ws, bdl LV v = true) ∧
    mSq (mFrz (m2 false pAdd (mVar 3) (mLc (mRgI (mG1 (mC (.int 14)))) (qN 9 false) mYes (mFrz (mCallP n__law_bent (m__law_bent 4) (mACons (mVar 0) (mACons (mCallP n__law_mark m__law_mark (mACons (mVar 0) (mACons (mVar 1) mANil))) mANil)))) [9]))) (E12 l b M (some (.ol vs)) s4 s5 none none none) = .ok ws (E12 l' b M (some (.ol vs)) s4 s5 none none none) := by
  have h6 : b ≤ 6 := by omega
  obtain ⟨ys, e', g1, ⟨l2, p2, rfl⟩, g3, g4⟩ := ev_lcI (Iv := fun e => ∃ l, PotOk l ∧ e = E12 l b M (some (.ol vs)) s4 s5 none none none) (Y := fun y => bdl LV y = true) (q := qN 9 false) (tt := mYes) (me := mFrz (mCallP n__law_bent (m__law_bent 4) (mACons (mVar 0) (mACons (mCallP n__law_mark m__law_mark (mACons (mVar 0) (mACons (mVar 1) mANil))) mANil)))) (vs := [9]) (mi := mRgI (mG1 (mC (.int 14))))
    (env := E12 l b M (some (.ol vs)) s4 s5 none none none) (env1 := E12 l b M (some (.ol vs)) s4 s5 none none none) (es_rg (eg_1 (i := 14) ev_c) (rgOk_small (by omega) (by omega) (by omega) (by omega))) ⟨l, hp, rfl⟩ (fun x _ e ⟨l, hl, he⟩ => by
      subst he
      obtain ⟨m, l', ok, pk, qk⟩ := r_law_mark hb hl
      obtain ⟨r, y, l3, p3, q3, hr, hy⟩ := r_bent [4, 6] 4 m.toD l' (by decide) (by decide) pk (mk_bdl h6 ok)
      have z : mCallP n__law_bent (m__law_bent 4) (mACons (mVar 0) (mACons (mCallP n__law_mark m__law_mark (mACons (mVar 0) (mACons (mVar 1) mANil))) mANil)) [some (.pl l), some (.d (.int (b : Nat))), M, some (.ol vs), s4, s5, none, none, none, some (.d x), none, none] = .ok r [some (.pl l3), some (.d (.int (b : Nat))), M, some (.ol vs), s4, s5, none, none, none, some (.d x), none, none] :=
        to_rnP2 (to_cons (to_rnP (ea_cons ev_var ea_nil) qk) to_nil) q3
      refine ⟨[some (.pl l), some (.d (.int (b : Nat))), M, some (.ol vs), s4, s5, none, none, none, some (.d x), none, none], _, y, [some (.pl l3), some (.d (.int (b : Nat))), M, some (.ol vs), s4, s5, none, none, none, some (.d x), none, none], rfl, rfl, ?_, ⟨l3, p3, rfl⟩, bdl_LV2 hy⟩
      rcases hr with rfl | ⟨ys, rfl, rfl⟩
      · exact to_frz z
      · exact to_frzL z) (by rw [rgD_len]; decide)
  have hl : ys.length ≤ 14 := by rw [g3, rgD_len]; decide
  have := hv.1
  refine ⟨l2, vs ++ ys, p2, fun v h => ?_, to_sqL (to_frzL (to_m2 (x := .list vs) (y := .list ys) (show mVar 3 _ = .ok (.vr 3) _ from rfl) g1 (pAdd_lst (by omega))))⟩
  rcases List.mem_append.mp h with h | h
  · exact hv.2 v h
  · exact g4 v h
theorem t_cmp {b : Nat} (h3 : 3 ≤ b) (h6 : b ≤ 6) {l : List D} {M S3 s4 s5 : Option R} {ws : List D} {mi : MI} {env : En} (hv : ∀ v ∈ ws, bdl LV v = true) (hi : mi env = .ok ws (E12 l b M S3 s4 s5 none none none)) : ∃ s6 s7 s8,
    mFor mi (qN 6 false) (mSeq (mPar 7 8 false false (mACons (mCall n__law_is_mark m__law_is_mark (mACons (mVar 1) (mACons (mVar 6) mANil))) (mACons (mN false pShow (mACons (mVar 6) mANil)) mANil))) (mIfS (mOrT (mTst (m2 true pNeT (mShowL (mACons (mCall n_is_mark m_is_mark (mACons (mVar 1) (mACons (mVar 6) mANil))) (mACons (mCallK [1, 0] n_is_mark m_is_mark (mACons (mVar 6) (mACons (mVar 1) mANil))) mANil))) (mShowL (mACons (mVar 7) (mACons (mVar 7) mANil))))) (mTst (m2 true pNeT (mN false pShow (mACons (mVar 6) mANil)) (mVar 8)))) (mRet (mC (.bool false))) mNext)) env = .nx (E12 l b M S3 s4 s5 s6 s7 s8) := by
  obtain ⟨e', g1, s6, s7, s8, rfl, _⟩ := for_inv (Iv := fun _ e => ∃ s6 s7 s8, e = E12 l b M S3 s4 s5 s6 s7 s8 ∧ Nd s6 ∧ Nd s7 ∧ Nd s8) (q := qN 6 false) (b := (mSeq (mPar 7 8 false false (mACons (mCall n__law_is_mark m__law_is_mark (mACons (mVar 1) (mACons (mVar 6) mANil))) (mACons (mN false pShow (mACons (mVar 6) mANil)) mANil))) (mIfS (mOrT (mTst (m2 true pNeT (mShowL (mACons (mCall n_is_mark m_is_mark (mACons (mVar 1) (mACons (mVar 6) mANil))) (mACons (mCallK [1, 0] n_is_mark m_is_mark (mACons (mVar 6) (mACons (mVar 1) mANil))) mANil))) (mShowL (mACons (mVar 7) (mACons (mVar 7) mANil))))) (mTst (m2 true pNeT (mN false pShow (mACons (mVar 6) mANil)) (mVar 8)))) (mRet (mC (.bool false))) mNext))) (xs := ws) (env := E12 l b M S3 s4 s5 none none none) 0 ⟨none, none, none, rfl, trivial, trivial, trivial⟩ (fun j v e hx hi => by
    obtain ⟨s6, s7, s8, rfl, n6, n7, n8⟩ := hi
    have hb := hv v (List.mem_of_getElem? hx)
    have sh : showAll v = true := bdl_show hb (by decide) (by decide +kernel)
    have shB : showAll (.list [.bool (mk (b : Nat) v), .bool (mk (b : Nat) v)]) = true := bdl_show (two_bdl (Ls := []) bdl_bool) (by decide) (by decide +kernel)
    have w1 := r_law_is_mark (b := (b : Nat)) hb
    have w2 := r_is_mark (bOk h3 h6) hb
    let e6 : En := E12 l b M S3 s4 s5 (some (.d v)) s7 s8
    let e8 : En := E12 l b M S3 s4 s5 (some (.d v)) (some (.d (.bool (mk (b : Nat) v)))) (some (.d (.str v.shown)))
    have q1 : mPar 7 8 false false (mACons (mCall n__law_is_mark m__law_is_mark (mACons (mVar 1) (mACons (mVar 6) mANil))) (mACons (mN false pShow (mACons (mVar 6) mANil)) mANil)) e6 = .nx e8 :=
      par_ev (ea_cons (ev_rn (ea_cons ev_var (ea_cons ev_var ea_nil)) w1) (ea_cons (ev_mN (ea_cons ev_var ea_nil) (pShow_ok sh)) ea_nil)) (qN_ok (i := 7) (by simp [e6]) (n7.of rfl) rfl) (qN_ok (i := 8) (by simp [e6]) (n8.of rfl) rfl)
    refine ⟨e6, qN_ok (i := 6) (by simp) (n6.of rfl) rfl, e8, seq_nx q1 (if_f (EvT.to (et_or (et_tst (ev_m2 (show_ev (ea_cons (ev_rn (ea_cons ev_var (ea_cons ev_var ea_nil)) w2) (ea_cons (ev_rnK (perm := [1, 0]) (ea_cons ev_var (ea_cons ev_var ea_nil)) w2) ea_nil)) shB (by simp)) (show_ev (ea_cons ev_var (ea_cons ev_var ea_nil)) shB (by simp)) (pNeT_str _ _))) fun _ => et_tst (ev_m2 (ev_mN (ea_cons ev_var ea_nil) (pShow_ok sh)) ev_var (pNeT_str _ _))) (by simp)) rfl), ⟨_, _, _, rfl, trivial, trivial, trivial⟩⟩)
  exact ⟨s6, s7, s8, for_src hi g1⟩
theorem r_law_right {l : List D} (hp : PotOk l) : ∃ e', fRun m__law_right (env0 12 [.pl l]) = some (.d (.bool true), e') := by
  obtain ⟨d, l1, p1, d0, d1, q1⟩ := r_draw (n := 3) hp (by decide) (by decide)
  obtain ⟨b, hbd⟩ : ∃ b : Nat, (3 : Int) + d = (b : Int) := ⟨(3 + d).toNat, by omega⟩
  have hb : b = 3 ∨ b = 4 ∨ b = 5 := by omega
  have h3 : 3 ≤ b := by omega
  have h6 : b ≤ 6 := by omega
  have a1 : mSet (qN 1 false) (m2 false pAdd (mC (.int 3)) (mCallP n__law_draw m__law_draw (mACons (mVar 0) (mACons (mC (.int 3)) mANil)))) (env0 12 [.pl l]) = .nx (E12 l1 b none none none none none none none) := by
    have z : pAdd (.int 3) (.int d) = some (.d (.int (b : Nat))) := by rw [pAdd_int, hbd]
    exact set_ev (to_m2 (env := [some (.pl l), none, none, none, none, none, none, none, none, none, none, none]) ev_c (to_rnP (ea_cons ev_c ea_nil) q1) z)
  obtain ⟨ms, l2, p2, ho, hm, a2⟩ := t_marks hb p1
  obtain ⟨vs, v1, v2, a3⟩ := t_vals (l := l2) hb ho hm
  obtain ⟨vs', s4, s5, v', a4, n4, n5⟩ := t_runs (l := l2) (M := some (.d (.list (ms.map Mk.toD)))) h3 h6 ⟨v2, v1⟩
  obtain ⟨l3, ws, p3, hw, a5⟩ := t_bent hb p2 (M := some (.d (.list (ms.map Mk.toD)))) (s4 := s4) (s5 := s5) v'
  obtain ⟨s6, s7, s8, a6⟩ := t_cmp h3 h6 hw a5
  obtain ⟨l4, p4, q4⟩ := r_marks_right hb p3 ho (by omega)
  obtain ⟨k, l5, p5, _, _, q5⟩ := r_draw (n := 4) p4 (by decide) (by decide)
  obtain ⟨l6, p6, q6⟩ := r_six_right p5
  have t1 : mTst (mCallP n__law_marks_right m__law_marks_right (mACons (mVar 0) (mACons (mVar 1) (mACons (mFrz (mVar 2)) mANil)))) (E12 l3 b (some (.d (.list (ms.map Mk.toD)))) (some (.ol vs')) s4 s5 s6 s7 s8) = .ok true (E12 l4 b (some (.d (.list (ms.map Mk.toD)))) (some (.ol vs')) s4 s5 s6 s7 s8) :=
    to_tst (to_rnP (ea_cons ev_var (ea_cons (ev_frz ev_var) ea_nil)) q4)
  have t2 : mTst (m2 true pGt (mCallP n__law_draw m__law_draw (mACons (mVar 0) (mACons (mC (.int 4)) mANil))) (mC (.int 0))) (E12 l4 b (some (.d (.list (ms.map Mk.toD)))) (some (.ol vs')) s4 s5 s6 s7 s8) = .ok (decide (0 < k)) (E12 l5 b (some (.d (.list (ms.map Mk.toD)))) (some (.ol vs')) s4 s5 s6 s7 s8) :=
    to_tst (to_m2 (to_rnP (ea_cons ev_c ea_nil) q5) ev_c (pGt_int _ _))
  have t3 : ∃ e', mOrV (mTst (m2 true pGt (mCallP n__law_draw m__law_draw (mACons (mVar 0) (mACons (mC (.int 4)) mANil))) (mC (.int 0)))) (mCallP n__law_six_right m__law_six_right (mACons (mVar 0) mANil)) (E12 l4 b (some (.d (.list (ms.map Mk.toD)))) (some (.ol vs')) s4 s5 s6 s7 s8) = .ok (.d (.bool true)) e' := by
    unfold mOrV
    rw [t2]
    cases decide (0 < k) with
    | true => exact ⟨_, rfl⟩
    | false => exact ⟨_, to_rnP (tl := [some (.d (.int (b : Nat))), some (.d (.list (ms.map Mk.toD))), some (.ol vs'), s4, s5, s6, s7, s8, none, none, none]) ea_nil q6⟩
  obtain ⟨e', t3⟩ := t3
  exact ⟨e', run_rt (seq_nx a1 (seq_nx a2 (seq_nx a3 (seq_nx a4 (seq_nx a6 (ret_ev ((and_t t1).trans t3)))))))⟩
end Pwk91

set_option Elab.async false
set_option linter.all false
set_option maxRecDepth 100000
set_option maxHeartbeats 4000000
/-! k91: the plain law. -/
namespace Pwk91
open PySem PySem.Spec PyProof.Rows L2 Pw
/-- a fresh list, written by the def -/
theorem ev_rnO {env : En} {m : ME} {n : Nat} {mc : MS} {r : R} {xs : List D} {e' : En} (h : Ev m env (.ol xs)) (hr : fRun mc (env0 n [.pl xs]) = some (r, e')) : Ev (mCallP n mc (mACons m mANil)) env r := by
  unfold Ev mCallP
  rw [show mACons m mANil env = .ok [.ol xs] env from ea_cons h ea_nil]
  simp only [Res.bind]
  rw [if_pos (show ([] : List R).all isDK = true from rfl)]
  simp only [hr]
theorem r_law (ns : List Int) : ∃ e', fRun m_law (env0 n_law [.kl (ns.map PyData.int)]) = some (.d (.bool true), e') := by
  let N : Int := if (if ((ns.map PyData.int).length : Int) < 2 then ((ns.map PyData.int).length : Int) else 2) > 1 then (if ((ns.map PyData.int).length : Int) < 2 then ((ns.map PyData.int).length : Int) else 2) else 1
  have hN : 1 ≤ N ∧ N ≤ 2 := by
    show 1 ≤ (if (if ((ns.map PyData.int).length : Int) < 2 then ((ns.map PyData.int).length : Int) else 2) > 1 then (if ((ns.map PyData.int).length : Int) < 2 then ((ns.map PyData.int).length : Int) else 2) else 1) ∧ (if (if ((ns.map PyData.int).length : Int) < 2 then ((ns.map PyData.int).length : Int) else 2) > 1 then (if ((ns.map PyData.int).length : Int) < 2 then ((ns.map PyData.int).length : Int) else 2) else 1) ≤ 2
    split <;> split <;> omega
  have zn : Ev (mN true pMax2 (mACons (mC (.int 1)) (mACons (mN true pMin2 (mACons (mC (.int 2)) (mACons (mN true pLen (mACons (mVar 0) mANil)) mANil))) mANil))) (env0 n_law [.kl (ns.map PyData.int)]) (.d (.int N)) :=
    ev_mN (ea_cons ev_c (ea_cons (ev_mN (ea_cons ev_c (ea_cons (ev_mN (ea_cons ev_var ea_nil) (pLen_lst _)) ea_nil)) (show pMin2 [.int 2, .int _] = some (.d (.int _)) from rfl)) ea_nil)) (pMax2_int _ _)
  have zl : Ev (mLc (mRgI (mG1 (mN true pMax2 (mACons (mC (.int 1)) (mACons (mN true pMin2 (mACons (mC (.int 2)) (mACons (mN true pLen (mACons (mVar 0) mANil)) mANil))) mANil))))) (qN 1 false) mYes (mCallP n__law_right m__law_right (mACons (mCall n__law_pot m__law_pot (mACons (mVar 0) (mACons (mVar 1) mANil))) mANil)) [1]) (env0 n_law [.kl (ns.map PyData.int)]) (.ol ((rgD 0 N).map fun x => .bool ((fun _ => true) x))) := by
    refine ev_lcA (es_rg (eg_1 zn) (rgOk_small (by omega) (by omega) (by omega) (by omega))) (fun x hx => ?_) (by rw [rgD_len]; omega)
    rw [show N = ((N.toNat : Nat) : Int) by omega, rgD_ints] at hx
    obtain ⟨k, hk, rfl⟩ := List.mem_map.mp hx
    obtain ⟨i, _, rfl⟩ := List.mem_map.mp hk
    obtain ⟨l, pl, q⟩ := r_pot (ns := ns) (k := (i : Nat)) (by omega)
    obtain ⟨e', qr⟩ := r_law_right pl
    exact ⟨[some (.kl (ns.map PyData.int)), some (.d (.int (i : Nat)))], rfl, ev_rnO (ev_rn (ea_cons ev_var (ea_cons ev_var ea_nil)) q) qr, rfl⟩
  refine ⟨_, run_ret ((ev_mN (ea_cons zl ea_nil) (pAll_map _ _)).to ?_)⟩
  rw [List.all_eq_true.mpr fun _ _ => rfl]
end Pwk91

set_option Elab.async false
set_option linter.all false
set_option maxRecDepth 100000
set_option maxHeartbeats 4000000
/-! the end: the top, the law. -/
namespace Pwk91
open PySem PySem.Spec PyProof.Rows L2 Pw
theorem all_mk {K : PySem.W.Frag} {mg : Str → Option Value} {h : Heap} (X : K.In h) (G : h.Ns mainGlobals mg)
    {f0 : Addr} {oc0 : Value} {od0 an0 : Option Addr} {osl0 : Array (Option Value)} {kV0 dc0 pm0 cd0 ct0 : Value} (a0 : PySem.W.nsIn K mainGlobals "_law_pot" = some (some (.ref f0)))
    (l0 : K.lookup f0 = some ⟨oc0, od0, .func (PySem.W.fnOf "_law_pot" "_law_pot" (defArgs s__law_pot) (defBody s__law_pot) (defScope s__law_pot) .none kV0 dc0 pm0 an0 cd0 ct0), osl0⟩) (c0 : PySem.W.codeIn K cd0 "_law_pot" = true) (k0 : PySem.W.keepIn K (.ref f0) = true)
    {f1 : Addr} {oc1 : Value} {od1 an1 : Option Addr} {osl1 : Array (Option Value)} {kV1 dc1 pm1 cd1 ct1 : Value} (a1 : PySem.W.nsIn K mainGlobals "is_integer" = some (some (.ref f1)))
    (l1 : K.lookup f1 = some ⟨oc1, od1, .func (PySem.W.fnOf "is_integer" "is_integer" (defArgs s_is_integer) (defBody s_is_integer) (defScope s_is_integer) .none kV1 dc1 pm1 an1 cd1 ct1), osl1⟩) (c1 : PySem.W.codeIn K cd1 "is_integer" = true) (k1 : PySem.W.keepIn K (.ref f1) = true)
    {f2 : Addr} {oc2 : Value} {od2 an2 : Option Addr} {osl2 : Array (Option Value)} {kV2 dc2 pm2 cd2 ct2 : Value} (a2 : PySem.W.nsIn K mainGlobals "is_within" = some (some (.ref f2)))
    (l2 : K.lookup f2 = some ⟨oc2, od2, .func (PySem.W.fnOf "is_within" "is_within" (defArgs s_is_within) (defBody s_is_within) (defScope s_is_within) .none kV2 dc2 pm2 an2 cd2 ct2), osl2⟩) (c2 : PySem.W.codeIn K cd2 "is_within" = true) (k2 : PySem.W.keepIn K (.ref f2) = true)
    {f3 : Addr} {oc3 : Value} {od3 an3 : Option Addr} {osl3 : Array (Option Value)} {kV3 dc3 pm3 cd3 ct3 : Value} (a3 : PySem.W.nsIn K mainGlobals "is_bells" = some (some (.ref f3)))
    (l3 : K.lookup f3 = some ⟨oc3, od3, .func (PySem.W.fnOf "is_bells" "is_bells" (defArgs s_is_bells) (defBody s_is_bells) (defScope s_is_bells) .none kV3 dc3 pm3 an3 cd3 ct3), osl3⟩) (c3 : PySem.W.codeIn K cd3 "is_bells" = true) (k3 : PySem.W.keepIn K (.ref f3) = true)
    {f4 : Addr} {oc4 : Value} {od4 an4 : Option Addr} {osl4 : Array (Option Value)} {kV4 dc4 pm4 cd4 ct4 : Value} (a4 : PySem.W.nsIn K mainGlobals "want_bells" = some (some (.ref f4)))
    (l4 : K.lookup f4 = some ⟨oc4, od4, .func (PySem.W.fnOf "want_bells" "want_bells" (defArgs s_want_bells) (defBody s_want_bells) (defScope s_want_bells) .none kV4 dc4 pm4 an4 cd4 ct4), osl4⟩) (c4 : PySem.W.codeIn K cd4 "want_bells" = true) (k4 : PySem.W.keepIn K (.ref f4) = true)
    {f5 : Addr} {oc5 : Value} {od5 an5 : Option Addr} {osl5 : Array (Option Value)} {kV5 dc5 pm5 cd5 ct5 : Value} (a5 : PySem.W.nsIn K mainGlobals "is_tuple" = some (some (.ref f5)))
    (l5 : K.lookup f5 = some ⟨oc5, od5, .func (PySem.W.fnOf "is_tuple" "is_tuple" (defArgs s_is_tuple) (defBody s_is_tuple) (defScope s_is_tuple) .none kV5 dc5 pm5 an5 cd5 ct5), osl5⟩) (c5 : PySem.W.codeIn K cd5 "is_tuple" = true) (k5 : PySem.W.keepIn K (.ref f5) = true)
    {f6 : Addr} {oc6 : Value} {od6 an6 : Option Addr} {osl6 : Array (Option Value)} {kV6 dc6 pm6 cd6 ct6 : Value} (a6 : PySem.W.nsIn K mainGlobals "are_places" = some (some (.ref f6)))
    (l6 : K.lookup f6 = some ⟨oc6, od6, .func (PySem.W.fnOf "are_places" "are_places" (defArgs s_are_places) (defBody s_are_places) (defScope s_are_places) .none kV6 dc6 pm6 an6 cd6 ct6), osl6⟩) (c6 : PySem.W.codeIn K cd6 "are_places" = true) (k6 : PySem.W.keepIn K (.ref f6) = true)
    {f7 : Addr} {oc7 : Value} {od7 an7 : Option Addr} {osl7 : Array (Option Value)} {kV7 dc7 pm7 cd7 ct7 : Value} (a7 : PySem.W.nsIn K mainGlobals "is_mark_of" = some (some (.ref f7)))
    (l7 : K.lookup f7 = some ⟨oc7, od7, .func (PySem.W.fnOf "is_mark_of" "is_mark_of" (defArgs s_is_mark_of) (defBody s_is_mark_of) (defScope s_is_mark_of) .none kV7 dc7 pm7 an7 cd7 ct7), osl7⟩) (c7 : PySem.W.codeIn K cd7 "is_mark_of" = true) (k7 : PySem.W.keepIn K (.ref f7) = true)
    {f8 : Addr} {oc8 : Value} {od8 an8 : Option Addr} {osl8 : Array (Option Value)} {kV8 dc8 pm8 cd8 ct8 : Value} (a8 : PySem.W.nsIn K mainGlobals "is_mark" = some (some (.ref f8)))
    (l8 : K.lookup f8 = some ⟨oc8, od8, .func (PySem.W.fnOf "is_mark" "is_mark" (defArgs s_is_mark) (defBody s_is_mark) (defScope s_is_mark) .none kV8 dc8 pm8 an8 cd8 ct8), osl8⟩) (c8 : PySem.W.codeIn K cd8 "is_mark" = true) (k8 : PySem.W.keepIn K (.ref f8) = true)
    {f9 : Addr} {oc9 : Value} {od9 an9 : Option Addr} {osl9 : Array (Option Value)} {kV9 dc9 pm9 cd9 ct9 : Value} (a9 : PySem.W.nsIn K mainGlobals "_law_draw" = some (some (.ref f9)))
    (l9 : K.lookup f9 = some ⟨oc9, od9, .func (PySem.W.fnOf "_law_draw" "_law_draw" (defArgs s__law_draw) (defBody s__law_draw) (defScope s__law_draw) .none kV9 dc9 pm9 an9 cd9 ct9), osl9⟩) (c9 : PySem.W.codeIn K cd9 "_law_draw" = true) (k9 : PySem.W.keepIn K (.ref f9) = true)
    {f10 : Addr} {oc10 : Value} {od10 an10 : Option Addr} {osl10 : Array (Option Value)} {kV10 dc10 pm10 cd10 ct10 : Value} (a10 : PySem.W.nsIn K mainGlobals "_law_pick" = some (some (.ref f10)))
    (l10 : K.lookup f10 = some ⟨oc10, od10, .func (PySem.W.fnOf "_law_pick" "_law_pick" (defArgs s__law_pick) (defBody s__law_pick) (defScope s__law_pick) .none kV10 dc10 pm10 an10 cd10 ct10), osl10⟩) (c10 : PySem.W.codeIn K cd10 "_law_pick" = true) (k10 : PySem.W.keepIn K (.ref f10) = true)
    {f11 : Addr} {oc11 : Value} {od11 an11 : Option Addr} {osl11 : Array (Option Value)} {kV11 dc11 pm11 cd11 ct11 : Value} (a11 : PySem.W.nsIn K mainGlobals "_law_all" = some (some (.ref f11)))
    (l11 : K.lookup f11 = some ⟨oc11, od11, .func (PySem.W.fnOf "_law_all" "_law_all" (defArgs s__law_all) (defBody s__law_all) (defScope s__law_all) .none kV11 dc11 pm11 an11 cd11 ct11), osl11⟩) (c11 : PySem.W.codeIn K cd11 "_law_all" = true) (k11 : PySem.W.keepIn K (.ref f11) = true)
    {f12 : Addr} {oc12 : Value} {od12 an12 : Option Addr} {osl12 : Array (Option Value)} {kV12 dc12 pm12 cd12 ct12 : Value} (a12 : PySem.W.nsIn K mainGlobals "_law_mark" = some (some (.ref f12)))
    (l12 : K.lookup f12 = some ⟨oc12, od12, .func (PySem.W.fnOf "_law_mark" "_law_mark" (defArgs s__law_mark) (defBody s__law_mark) (defScope s__law_mark) .none kV12 dc12 pm12 an12 cd12 ct12), osl12⟩) (c12 : PySem.W.codeIn K cd12 "_law_mark" = true) (k12 : PySem.W.keepIn K (.ref f12) = true)
    {f13 : Addr} {oc13 : Value} {od13 an13 : Option Addr} {osl13 : Array (Option Value)} {kV13 dc13 pm13 cd13 ct13 : Value} (a13 : PySem.W.nsIn K mainGlobals "_law_is_number" = some (some (.ref f13)))
    (l13 : K.lookup f13 = some ⟨oc13, od13, .func (PySem.W.fnOf "_law_is_number" "_law_is_number" (defArgs s__law_is_number) (defBody s__law_is_number) (defScope s__law_is_number) .none kV13 dc13 pm13 an13 cd13 ct13), osl13⟩) (c13 : PySem.W.codeIn K cd13 "_law_is_number" = true) (k13 : PySem.W.keepIn K (.ref f13) = true)
    {f14 : Addr} {oc14 : Value} {od14 an14 : Option Addr} {osl14 : Array (Option Value)} {kV14 dc14 pm14 cd14 ct14 : Value} (a14 : PySem.W.nsIn K mainGlobals "_law_is_mark" = some (some (.ref f14)))
    (l14 : K.lookup f14 = some ⟨oc14, od14, .func (PySem.W.fnOf "_law_is_mark" "_law_is_mark" (defArgs s__law_is_mark) (defBody s__law_is_mark) (defScope s__law_is_mark) .none kV14 dc14 pm14 an14 cd14 ct14), osl14⟩) (c14 : PySem.W.codeIn K cd14 "_law_is_mark" = true) (k14 : PySem.W.keepIn K (.ref f14) = true)
    {f15 : Addr} {oc15 : Value} {od15 an15 : Option Addr} {osl15 : Array (Option Value)} {kV15 dc15 pm15 cd15 ct15 : Value} (a15 : PySem.W.nsIn K mainGlobals "_law_bent" = some (some (.ref f15)))
    (l15 : K.lookup f15 = some ⟨oc15, od15, .func (PySem.W.fnOf "_law_bent" "_law_bent" (defArgs s__law_bent) (defBody s__law_bent) (defScope s__law_bent) .none kV15 dc15 pm15 an15 cd15 ct15), osl15⟩) (c15 : PySem.W.codeIn K cd15 "_law_bent" = true) (k15 : PySem.W.keepIn K (.ref f15) = true)
    {f16 : Addr} {oc16 : Value} {od16 an16 : Option Addr} {osl16 : Array (Option Value)} {kV16 dc16 pm16 cd16 ct16 : Value} (a16 : PySem.W.nsIn K mainGlobals "is_row_of" = some (some (.ref f16)))
    (l16 : K.lookup f16 = some ⟨oc16, od16, .func (PySem.W.fnOf "is_row_of" "is_row_of" (defArgs s_is_row_of) (defBody s_is_row_of) (defScope s_is_row_of) .none kV16 dc16 pm16 an16 cd16 ct16), osl16⟩) (c16 : PySem.W.codeIn K cd16 "is_row_of" = true) (k16 : PySem.W.keepIn K (.ref f16) = true)
    {f17 : Addr} {oc17 : Value} {od17 an17 : Option Addr} {osl17 : Array (Option Value)} {kV17 dc17 pm17 cd17 ct17 : Value} (a17 : PySem.W.nsIn K mainGlobals "want_row" = some (some (.ref f17)))
    (l17 : K.lookup f17 = some ⟨oc17, od17, .func (PySem.W.fnOf "want_row" "want_row" (defArgs s_want_row) (defBody s_want_row) (defScope s_want_row) .none kV17 dc17 pm17 an17 cd17 ct17), osl17⟩) (c17 : PySem.W.codeIn K cd17 "want_row" = true) (k17 : PySem.W.keepIn K (.ref f17) = true)
    {f18 : Addr} {oc18 : Value} {od18 an18 : Option Addr} {osl18 : Array (Option Value)} {kV18 dc18 pm18 cd18 ct18 : Value} (a18 : PySem.W.nsIn K mainGlobals "want_mark" = some (some (.ref f18)))
    (l18 : K.lookup f18 = some ⟨oc18, od18, .func (PySem.W.fnOf "want_mark" "want_mark" (defArgs s_want_mark) (defBody s_want_mark) (defScope s_want_mark) .none kV18 dc18 pm18 an18 cd18 ct18), osl18⟩) (c18 : PySem.W.codeIn K cd18 "want_mark" = true) (k18 : PySem.W.keepIn K (.ref f18) = true)
    {f19 : Addr} {oc19 : Value} {od19 an19 : Option Addr} {osl19 : Array (Option Value)} {kV19 dc19 pm19 cd19 ct19 : Value} (a19 : PySem.W.nsIn K mainGlobals "does_have" = some (some (.ref f19)))
    (l19 : K.lookup f19 = some ⟨oc19, od19, .func (PySem.W.fnOf "does_have" "does_have" (defArgs s_does_have) (defBody s_does_have) (defScope s_does_have) .none kV19 dc19 pm19 an19 cd19 ct19), osl19⟩) (c19 : PySem.W.codeIn K cd19 "does_have" = true) (k19 : PySem.W.keepIn K (.ref f19) = true)
    {f20 : Addr} {oc20 : Value} {od20 an20 : Option Addr} {osl20 : Array (Option Value)} {kV20 dc20 pm20 cd20 ct20 : Value} (a20 : PySem.W.nsIn K mainGlobals "has_mark" = some (some (.ref f20)))
    (l20 : K.lookup f20 = some ⟨oc20, od20, .func (PySem.W.fnOf "has_mark" "has_mark" (defArgs s_has_mark) (defBody s_has_mark) (defScope s_has_mark) .none kV20 dc20 pm20 an20 cd20 ct20), osl20⟩) (c20 : PySem.W.codeIn K cd20 "has_mark" = true) (k20 : PySem.W.keepIn K (.ref f20) = true)
    {f21 : Addr} {oc21 : Value} {od21 an21 : Option Addr} {osl21 : Array (Option Value)} {kV21 dc21 pm21 cd21 ct21 : Value} (a21 : PySem.W.nsIn K mainGlobals "is_list" = some (some (.ref f21)))
    (l21 : K.lookup f21 = some ⟨oc21, od21, .func (PySem.W.fnOf "is_list" "is_list" (defArgs s_is_list) (defBody s_is_list) (defScope s_is_list) .none kV21 dc21 pm21 an21 cd21 ct21), osl21⟩) (c21 : PySem.W.codeIn K cd21 "is_list" = true) (k21 : PySem.W.keepIn K (.ref f21) = true)
    {f22 : Addr} {oc22 : Value} {od22 an22 : Option Addr} {osl22 : Array (Option Value)} {kV22 dc22 pm22 cd22 ct22 : Value} (a22 : PySem.W.nsIn K mainGlobals "want_marks" = some (some (.ref f22)))
    (l22 : K.lookup f22 = some ⟨oc22, od22, .func (PySem.W.fnOf "want_marks" "want_marks" (defArgs s_want_marks) (defBody s_want_marks) (defScope s_want_marks) .none kV22 dc22 pm22 an22 cd22 ct22), osl22⟩) (c22 : PySem.W.codeIn K cd22 "want_marks" = true) (k22 : PySem.W.keepIn K (.ref f22) = true)
    {f23 : Addr} {oc23 : Value} {od23 an23 : Option Addr} {osl23 : Array (Option Value)} {kV23 dc23 pm23 cd23 ct23 : Value} (a23 : PySem.W.nsIn K mainGlobals "rounds_of" = some (some (.ref f23)))
    (l23 : K.lookup f23 = some ⟨oc23, od23, .func (PySem.W.fnOf "rounds_of" "rounds_of" (defArgs s_rounds_of) (defBody s_rounds_of) (defScope s_rounds_of) .none kV23 dc23 pm23 an23 cd23 ct23), osl23⟩) (c23 : PySem.W.codeIn K cd23 "rounds_of" = true) (k23 : PySem.W.keepIn K (.ref f23) = true)
    {f24 : Addr} {oc24 : Value} {od24 an24 : Option Addr} {osl24 : Array (Option Value)} {kV24 dc24 pm24 cd24 ct24 : Value} (a24 : PySem.W.nsIn K mainGlobals "all_rows" = some (some (.ref f24)))
    (l24 : K.lookup f24 = some ⟨oc24, od24, .func (PySem.W.fnOf "all_rows" "all_rows" (defArgs s_all_rows) (defBody s_all_rows) (defScope s_all_rows) .none kV24 dc24 pm24 an24 cd24 ct24), osl24⟩) (c24 : PySem.W.codeIn K cd24 "all_rows" = true) (k24 : PySem.W.keepIn K (.ref f24) = true)
    {f25 : Addr} {oc25 : Value} {od25 an25 : Option Addr} {osl25 : Array (Option Value)} {kV25 dc25 pm25 cd25 ct25 : Value} (a25 : PySem.W.nsIn K mainGlobals "rows_with" = some (some (.ref f25)))
    (l25 : K.lookup f25 = some ⟨oc25, od25, .func (PySem.W.fnOf "rows_with" "rows_with" (defArgs s_rows_with) (defBody s_rows_with) (defScope s_rows_with) .none kV25 dc25 pm25 an25 cd25 ct25), osl25⟩) (c25 : PySem.W.codeIn K cd25 "rows_with" = true) (k25 : PySem.W.keepIn K (.ref f25) = true)
    {f26 : Addr} {oc26 : Value} {od26 an26 : Option Addr} {osl26 : Array (Option Value)} {kV26 dc26 pm26 cd26 ct26 : Value} (a26 : PySem.W.nsIn K mainGlobals "_law_has" = some (some (.ref f26)))
    (l26 : K.lookup f26 = some ⟨oc26, od26, .func (PySem.W.fnOf "_law_has" "_law_has" (defArgs s__law_has) (defBody s__law_has) (defScope s__law_has) .none kV26 dc26 pm26 an26 cd26 ct26), osl26⟩) (c26 : PySem.W.codeIn K cd26 "_law_has" = true) (k26 : PySem.W.keepIn K (.ref f26) = true)
    {f27 : Addr} {oc27 : Value} {od27 an27 : Option Addr} {osl27 : Array (Option Value)} {kV27 dc27 pm27 cd27 ct27 : Value} (a27 : PySem.W.nsIn K mainGlobals "_law_marks_right" = some (some (.ref f27)))
    (l27 : K.lookup f27 = some ⟨oc27, od27, .func (PySem.W.fnOf "_law_marks_right" "_law_marks_right" (defArgs s__law_marks_right) (defBody s__law_marks_right) (defScope s__law_marks_right) .none kV27 dc27 pm27 an27 cd27 ct27), osl27⟩) (c27 : PySem.W.codeIn K cd27 "_law_marks_right" = true) (k27 : PySem.W.keepIn K (.ref f27) = true)
    {f28 : Addr} {oc28 : Value} {od28 an28 : Option Addr} {osl28 : Array (Option Value)} {kV28 dc28 pm28 cd28 ct28 : Value} (a28 : PySem.W.nsIn K mainGlobals "_law_six_right" = some (some (.ref f28)))
    (l28 : K.lookup f28 = some ⟨oc28, od28, .func (PySem.W.fnOf "_law_six_right" "_law_six_right" (defArgs s__law_six_right) (defBody s__law_six_right) (defScope s__law_six_right) .none kV28 dc28 pm28 an28 cd28 ct28), osl28⟩) (c28 : PySem.W.codeIn K cd28 "_law_six_right" = true) (k28 : PySem.W.keepIn K (.ref f28) = true)
    {f29 : Addr} {oc29 : Value} {od29 an29 : Option Addr} {osl29 : Array (Option Value)} {kV29 dc29 pm29 cd29 ct29 : Value} (a29 : PySem.W.nsIn K mainGlobals "_law_right" = some (some (.ref f29)))
    (l29 : K.lookup f29 = some ⟨oc29, od29, .func (PySem.W.fnOf "_law_right" "_law_right" (defArgs s__law_right) (defBody s__law_right) (defScope s__law_right) .none kV29 dc29 pm29 an29 cd29 ct29), osl29⟩) (c29 : PySem.W.codeIn K cd29 "_law_right" = true) (k29 : PySem.W.keepIn K (.ref f29) = true)
    {f30 : Addr} {oc30 : Value} {od30 an30 : Option Addr} {osl30 : Array (Option Value)} {kV30 dc30 pm30 cd30 ct30 : Value} (a30 : PySem.W.nsIn K mainGlobals "law" = some (some (.ref f30)))
    (l30 : K.lookup f30 = some ⟨oc30, od30, .func (PySem.W.fnOf "law" "law" (defArgs s_law) (defBody s_law) (defScope s_law) .none kV30 dc30 pm30 an30 cd30 ct30), osl30⟩) (c30 : PySem.W.codeIn K cd30 "law" = true) (k30 : PySem.W.keepIn K (.ref f30) = true)
    (n_abs : PySem.W.nsIn K mainGlobals "abs" = some none)
    (n_all : PySem.W.nsIn K mainGlobals "all" = some none)
    (n_bool : PySem.W.nsIn K mainGlobals "bool" = some none)
    (n_divmod : PySem.W.nsIn K mainGlobals "divmod" = some none)
    (n_enumerate : PySem.W.nsIn K mainGlobals "enumerate" = some none)
    (n_int : PySem.W.nsIn K mainGlobals "int" = some none)
    (n_isinstance : PySem.W.nsIn K mainGlobals "isinstance" = some none)
    (n_len : PySem.W.nsIn K mainGlobals "len" = some none)
    (n_list : PySem.W.nsIn K mainGlobals "list" = some none)
    (n_max : PySem.W.nsIn K mainGlobals "max" = some none)
    (n_min : PySem.W.nsIn K mainGlobals "min" = some none)
    (n_range : PySem.W.nsIn K mainGlobals "range" = some none)
    (n_repr : PySem.W.nsIn K mainGlobals "repr" = some none)
    (n_set : PySem.W.nsIn K mainGlobals "set" = some none)
    (n_str : PySem.W.nsIn K mainGlobals "str" = some none)
    (n_tuple : PySem.W.nsIn K mainGlobals "tuple" = some none)
    (n_zip : PySem.W.nsIn K mainGlobals "zip" = some none)
    {t_BELLS : Tok} (c_BELLS : PySem.W.nsIn K mainGlobals "BELLS" = some (some (.str "bells" t_BELLS)))
    {t_DOWN : Tok} (c_DOWN : PySem.W.nsIn K mainGlobals "DOWN" = some (some (.str "down" t_DOWN)))
    {t_LEAST_BELLS : Tok} (c_LEAST_BELLS : PySem.W.nsIn K mainGlobals "LEAST_BELLS" = some (some (.int 3 t_LEAST_BELLS)))
    {t_LEAST_RUN : Tok} (c_LEAST_RUN : PySem.W.nsIn K mainGlobals "LEAST_RUN" = some (some (.int 2 t_LEAST_RUN)))
    {t_MOST_BELLS : Tok} (c_MOST_BELLS : PySem.W.nsIn K mainGlobals "MOST_BELLS" = some (some (.int 6 t_MOST_BELLS)))
    {t_MOST_MARKS : Tok} (c_MOST_MARKS : PySem.W.nsIn K mainGlobals "MOST_MARKS" = some (some (.int 8 t_MOST_MARKS)))
    {t_RUN : Tok} (c_RUN : PySem.W.nsIn K mainGlobals "RUN" = some (some (.str "run" t_RUN)))
    {t_UP : Tok} (c_UP : PySem.W.nsIn K mainGlobals "UP" = some (some (.str "up" t_UP)))
    : ∃ T : TB K mg, T.f_law = f30 ∧ ∀ (s : Shared) (u : Value), BindsTo s T.d_law ⟨[u], []⟩ [("script", u)] :=
  ⟨{ f__law_pot := f0
     d__law_pot := _
     F__law_pot := (fun_mk (st := s__law_pot) l0 c0 k0)
     g__law_pot := PySem.W.mg_of X G a0
     b__law_pot := Fun.binds (fun_mk (st := s__law_pot) l0 c0 k0) (ps := ["script", "k"]) fun _ _ _ _ _ _ us hl => match us, hl with | [_, _], _ => rfl
     f_is_integer := f1
     d_is_integer := _
     F_is_integer := (fun_mk (st := s_is_integer) l1 c1 k1)
     g_is_integer := PySem.W.mg_of X G a1
     b_is_integer := Fun.binds (fun_mk (st := s_is_integer) l1 c1 k1) (ps := ["value"]) fun _ _ _ _ _ _ us hl => match us, hl with | [_], _ => rfl
     f_is_within := f2
     d_is_within := _
     F_is_within := (fun_mk (st := s_is_within) l2 c2 k2)
     g_is_within := PySem.W.mg_of X G a2
     b_is_within := Fun.binds (fun_mk (st := s_is_within) l2 c2 k2) (ps := ["value", "least", "most"]) fun _ _ _ _ _ _ us hl => match us, hl with | [_, _, _], _ => rfl
     f_is_bells := f3
     d_is_bells := _
     F_is_bells := (fun_mk (st := s_is_bells) l3 c3 k3)
     g_is_bells := PySem.W.mg_of X G a3
     b_is_bells := Fun.binds (fun_mk (st := s_is_bells) l3 c3 k3) (ps := ["value"]) fun _ _ _ _ _ _ us hl => match us, hl with | [_], _ => rfl
     f_want_bells := f4
     d_want_bells := _
     F_want_bells := (fun_mk (st := s_want_bells) l4 c4 k4)
     g_want_bells := PySem.W.mg_of X G a4
     b_want_bells := Fun.binds (fun_mk (st := s_want_bells) l4 c4 k4) (ps := ["bells"]) fun _ _ _ _ _ _ us hl => match us, hl with | [_], _ => rfl
     f_is_tuple := f5
     d_is_tuple := _
     F_is_tuple := (fun_mk (st := s_is_tuple) l5 c5 k5)
     g_is_tuple := PySem.W.mg_of X G a5
     b_is_tuple := Fun.binds (fun_mk (st := s_is_tuple) l5 c5 k5) (ps := ["value", "many"]) fun _ _ _ _ _ _ us hl => match us, hl with | [_, _], _ => rfl
     f_are_places := f6
     d_are_places := _
     F_are_places := (fun_mk (st := s_are_places) l6 c6 k6)
     g_are_places := PySem.W.mg_of X G a6
     b_are_places := Fun.binds (fun_mk (st := s_are_places) l6 c6 k6) (ps := ["bells", "value"]) fun _ _ _ _ _ _ us hl => match us, hl with | [_, _], _ => rfl
     f_is_mark_of := f7
     d_is_mark_of := _
     F_is_mark_of := (fun_mk (st := s_is_mark_of) l7 c7 k7)
     g_is_mark_of := PySem.W.mg_of X G a7
     b_is_mark_of := Fun.binds (fun_mk (st := s_is_mark_of) l7 c7 k7) (ps := ["bells", "value"]) fun _ _ _ _ _ _ us hl => match us, hl with | [_, _], _ => rfl
     f_is_mark := f8
     d_is_mark := _
     F_is_mark := (fun_mk (st := s_is_mark) l8 c8 k8)
     g_is_mark := PySem.W.mg_of X G a8
     b_is_mark := Fun.binds (fun_mk (st := s_is_mark) l8 c8 k8) (ps := ["bells", "value"]) fun _ _ _ _ _ _ us hl => match us, hl with | [_, _], _ => rfl
     k0_is_mark := fun_bindsK (fun_mk (st := s_is_mark) l8 c8 k8) (ps := ["bells", "value"]) (ks := ["value", "bells"]) (perm := [1, 0]) fun _ _ _ _ _ _ us hl => match us, hl with | [_, _], _ => rfl
     f__law_draw := f9
     d__law_draw := _
     F__law_draw := (fun_mk (st := s__law_draw) l9 c9 k9)
     g__law_draw := PySem.W.mg_of X G a9
     b__law_draw := Fun.binds (fun_mk (st := s__law_draw) l9 c9 k9) (ps := ["pot", "many"]) fun _ _ _ _ _ _ us hl => match us, hl with | [_, _], _ => rfl
     f__law_pick := f10
     d__law_pick := _
     F__law_pick := (fun_mk (st := s__law_pick) l10 c10 k10)
     g__law_pick := PySem.W.mg_of X G a10
     b__law_pick := Fun.binds (fun_mk (st := s__law_pick) l10 c10 k10) (ps := ["pot", "some"]) fun _ _ _ _ _ _ us hl => match us, hl with | [_, _], _ => rfl
     f__law_all := f11
     d__law_all := _
     F__law_all := (fun_mk (st := s__law_all) l11 c11 k11)
     g__law_all := PySem.W.mg_of X G a11
     b__law_all := Fun.binds (fun_mk (st := s__law_all) l11 c11 k11) (ps := ["bells"]) fun _ _ _ _ _ _ us hl => match us, hl with | [_], _ => rfl
     f__law_mark := f12
     d__law_mark := _
     F__law_mark := (fun_mk (st := s__law_mark) l12 c12 k12)
     g__law_mark := PySem.W.mg_of X G a12
     b__law_mark := Fun.binds (fun_mk (st := s__law_mark) l12 c12 k12) (ps := ["pot", "bells"]) fun _ _ _ _ _ _ us hl => match us, hl with | [_, _], _ => rfl
     f__law_is_number := f13
     d__law_is_number := _
     F__law_is_number := (fun_mk (st := s__law_is_number) l13 c13 k13)
     g__law_is_number := PySem.W.mg_of X G a13
     b__law_is_number := Fun.binds (fun_mk (st := s__law_is_number) l13 c13 k13) (ps := ["value", "least", "most"]) fun _ _ _ _ _ _ us hl => match us, hl with | [_, _, _], _ => rfl
     f__law_is_mark := f14
     d__law_is_mark := _
     F__law_is_mark := (fun_mk (st := s__law_is_mark) l14 c14 k14)
     g__law_is_mark := PySem.W.mg_of X G a14
     b__law_is_mark := Fun.binds (fun_mk (st := s__law_is_mark) l14 c14 k14) (ps := ["bells", "value"]) fun _ _ _ _ _ _ us hl => match us, hl with | [_, _], _ => rfl
     f__law_bent := f15
     d__law_bent := _
     F__law_bent := (fun_mk (st := s__law_bent) l15 c15 k15)
     g__law_bent := PySem.W.mg_of X G a15
     b__law_bent := Fun.binds (fun_mk (st := s__law_bent) l15 c15 k15) (ps := ["pot", "value"]) fun _ _ _ _ _ _ us hl => match us, hl with | [_, _], _ => rfl
     f_is_row_of := f16
     d_is_row_of := _
     F_is_row_of := (fun_mk (st := s_is_row_of) l16 c16 k16)
     g_is_row_of := PySem.W.mg_of X G a16
     b_is_row_of := Fun.binds (fun_mk (st := s_is_row_of) l16 c16 k16) (ps := ["bells", "value"]) fun _ _ _ _ _ _ us hl => match us, hl with | [_, _], _ => rfl
     f_want_row := f17
     d_want_row := _
     F_want_row := (fun_mk (st := s_want_row) l17 c17 k17)
     g_want_row := PySem.W.mg_of X G a17
     b_want_row := Fun.binds (fun_mk (st := s_want_row) l17 c17 k17) (ps := ["bells", "row"]) fun _ _ _ _ _ _ us hl => match us, hl with | [_, _], _ => rfl
     f_want_mark := f18
     d_want_mark := _
     F_want_mark := (fun_mk (st := s_want_mark) l18 c18 k18)
     g_want_mark := PySem.W.mg_of X G a18
     b_want_mark := Fun.binds (fun_mk (st := s_want_mark) l18 c18 k18) (ps := ["bells", "mark"]) fun _ _ _ _ _ _ us hl => match us, hl with | [_, _], _ => rfl
     f_does_have := f19
     d_does_have := _
     F_does_have := (fun_mk (st := s_does_have) l19 c19 k19)
     g_does_have := PySem.W.mg_of X G a19
     b_does_have := Fun.binds (fun_mk (st := s_does_have) l19 c19 k19) (ps := ["row", "mark"]) fun _ _ _ _ _ _ us hl => match us, hl with | [_, _], _ => rfl
     f_has_mark := f20
     d_has_mark := _
     F_has_mark := (fun_mk (st := s_has_mark) l20 c20 k20)
     g_has_mark := PySem.W.mg_of X G a20
     b_has_mark := Fun.binds (fun_mk (st := s_has_mark) l20 c20 k20) (ps := ["bells", "row", "mark"]) fun _ _ _ _ _ _ us hl => match us, hl with | [_, _, _], _ => rfl
     k0_has_mark := fun_bindsK (fun_mk (st := s_has_mark) l20 c20 k20) (ps := ["bells", "row", "mark"]) (ks := ["mark", "row", "bells"]) (perm := [2, 1, 0]) fun _ _ _ _ _ _ us hl => match us, hl with | [_, _, _], _ => rfl
     f_is_list := f21
     d_is_list := _
     F_is_list := (fun_mk (st := s_is_list) l21 c21 k21)
     g_is_list := PySem.W.mg_of X G a21
     b_is_list := Fun.binds (fun_mk (st := s_is_list) l21 c21 k21) (ps := ["value"]) fun _ _ _ _ _ _ us hl => match us, hl with | [_], _ => rfl
     f_want_marks := f22
     d_want_marks := _
     F_want_marks := (fun_mk (st := s_want_marks) l22 c22 k22)
     g_want_marks := PySem.W.mg_of X G a22
     b_want_marks := Fun.binds (fun_mk (st := s_want_marks) l22 c22 k22) (ps := ["bells", "marks"]) fun _ _ _ _ _ _ us hl => match us, hl with | [_, _], _ => rfl
     f_rounds_of := f23
     d_rounds_of := _
     F_rounds_of := (fun_mk (st := s_rounds_of) l23 c23 k23)
     g_rounds_of := PySem.W.mg_of X G a23
     b_rounds_of := Fun.binds (fun_mk (st := s_rounds_of) l23 c23 k23) (ps := ["bells"]) fun _ _ _ _ _ _ us hl => match us, hl with | [_], _ => rfl
     f_all_rows := f24
     d_all_rows := _
     F_all_rows := (fun_mk (st := s_all_rows) l24 c24 k24)
     g_all_rows := PySem.W.mg_of X G a24
     b_all_rows := Fun.binds (fun_mk (st := s_all_rows) l24 c24 k24) (ps := ["bells"]) fun _ _ _ _ _ _ us hl => match us, hl with | [_], _ => rfl
     f_rows_with := f25
     d_rows_with := _
     F_rows_with := (fun_mk (st := s_rows_with) l25 c25 k25)
     g_rows_with := PySem.W.mg_of X G a25
     b_rows_with := Fun.binds (fun_mk (st := s_rows_with) l25 c25 k25) (ps := ["bells", "marks"]) fun _ _ _ _ _ _ us hl => match us, hl with | [_, _], _ => rfl
     k0_rows_with := fun_bindsK (fun_mk (st := s_rows_with) l25 c25 k25) (ps := ["bells", "marks"]) (ks := ["marks", "bells"]) (perm := [1, 0]) fun _ _ _ _ _ _ us hl => match us, hl with | [_, _], _ => rfl
     f__law_has := f26
     d__law_has := _
     F__law_has := (fun_mk (st := s__law_has) l26 c26 k26)
     g__law_has := PySem.W.mg_of X G a26
     b__law_has := Fun.binds (fun_mk (st := s__law_has) l26 c26 k26) (ps := ["row", "mark"]) fun _ _ _ _ _ _ us hl => match us, hl with | [_, _], _ => rfl
     f__law_marks_right := f27
     d__law_marks_right := _
     F__law_marks_right := (fun_mk (st := s__law_marks_right) l27 c27 k27)
     g__law_marks_right := PySem.W.mg_of X G a27
     b__law_marks_right := Fun.binds (fun_mk (st := s__law_marks_right) l27 c27 k27) (ps := ["pot", "bells", "marks"]) fun _ _ _ _ _ _ us hl => match us, hl with | [_, _, _], _ => rfl
     f__law_six_right := f28
     d__law_six_right := _
     F__law_six_right := (fun_mk (st := s__law_six_right) l28 c28 k28)
     g__law_six_right := PySem.W.mg_of X G a28
     b__law_six_right := Fun.binds (fun_mk (st := s__law_six_right) l28 c28 k28) (ps := ["pot"]) fun _ _ _ _ _ _ us hl => match us, hl with | [_], _ => rfl
     f__law_right := f29
     d__law_right := _
     F__law_right := (fun_mk (st := s__law_right) l29 c29 k29)
     g__law_right := PySem.W.mg_of X G a29
     b__law_right := Fun.binds (fun_mk (st := s__law_right) l29 c29 k29) (ps := ["pot"]) fun _ _ _ _ _ _ us hl => match us, hl with | [_], _ => rfl
     f_law := f30
     d_law := _
     F_law := (fun_mk (st := s_law) l30 c30 k30)
     g_law := PySem.W.mg_of X G a30
     b_law := Fun.binds (fun_mk (st := s_law) l30 c30 k30) (ps := ["script"]) fun _ _ _ _ _ _ us hl => match us, hl with | [_], _ => rfl
     n_abs := PySem.W.mg_none_of X G n_abs
     n_all := PySem.W.mg_none_of X G n_all
     n_bool := PySem.W.mg_none_of X G n_bool
     n_divmod := PySem.W.mg_none_of X G n_divmod
     n_enumerate := PySem.W.mg_none_of X G n_enumerate
     n_int := PySem.W.mg_none_of X G n_int
     n_isinstance := PySem.W.mg_none_of X G n_isinstance
     n_len := PySem.W.mg_none_of X G n_len
     n_list := PySem.W.mg_none_of X G n_list
     n_max := PySem.W.mg_none_of X G n_max
     n_min := PySem.W.mg_none_of X G n_min
     n_range := PySem.W.mg_none_of X G n_range
     n_repr := PySem.W.mg_none_of X G n_repr
     n_set := PySem.W.mg_none_of X G n_set
     n_str := PySem.W.mg_none_of X G n_str
     n_tuple := PySem.W.mg_none_of X G n_tuple
     n_zip := PySem.W.mg_none_of X G n_zip
     t_BELLS := t_BELLS
     c_BELLS := PySem.W.mg_of X G c_BELLS
     t_DOWN := t_DOWN
     c_DOWN := PySem.W.mg_of X G c_DOWN
     t_LEAST_BELLS := t_LEAST_BELLS
     c_LEAST_BELLS := PySem.W.mg_of X G c_LEAST_BELLS
     t_LEAST_RUN := t_LEAST_RUN
     c_LEAST_RUN := PySem.W.mg_of X G c_LEAST_RUN
     t_MOST_BELLS := t_MOST_BELLS
     c_MOST_BELLS := PySem.W.mg_of X G c_MOST_BELLS
     t_MOST_MARKS := t_MOST_MARKS
     c_MOST_MARKS := PySem.W.mg_of X G c_MOST_MARKS
     t_RUN := t_RUN
     c_RUN := PySem.W.mg_of X G c_RUN
     t_UP := t_UP
     c_UP := PySem.W.mg_of X G c_UP }, rfl, fun s u => .of_eq rfl⟩
theorem fin_mk {P : Program} {w : World} {K : PySem.W.Frag} {mg : Str → Option Value} {fa : Addr} {h : Heap} (X : K.In h) (G : h.Ns mainGlobals mg) (hmg : mg "law" = some (.ref fa))
    {f0 : Addr} {oc0 : Value} {od0 an0 : Option Addr} {osl0 : Array (Option Value)} {kV0 dc0 pm0 cd0 ct0 : Value} (a0 : PySem.W.nsIn K mainGlobals "_law_pot" = some (some (.ref f0)))
    (l0 : K.lookup f0 = some ⟨oc0, od0, .func (PySem.W.fnOf "_law_pot" "_law_pot" (defArgs s__law_pot) (defBody s__law_pot) (defScope s__law_pot) .none kV0 dc0 pm0 an0 cd0 ct0), osl0⟩) (c0 : PySem.W.codeIn K cd0 "_law_pot" = true) (k0 : PySem.W.keepIn K (.ref f0) = true)
    {f1 : Addr} {oc1 : Value} {od1 an1 : Option Addr} {osl1 : Array (Option Value)} {kV1 dc1 pm1 cd1 ct1 : Value} (a1 : PySem.W.nsIn K mainGlobals "is_integer" = some (some (.ref f1)))
    (l1 : K.lookup f1 = some ⟨oc1, od1, .func (PySem.W.fnOf "is_integer" "is_integer" (defArgs s_is_integer) (defBody s_is_integer) (defScope s_is_integer) .none kV1 dc1 pm1 an1 cd1 ct1), osl1⟩) (c1 : PySem.W.codeIn K cd1 "is_integer" = true) (k1 : PySem.W.keepIn K (.ref f1) = true)
    {f2 : Addr} {oc2 : Value} {od2 an2 : Option Addr} {osl2 : Array (Option Value)} {kV2 dc2 pm2 cd2 ct2 : Value} (a2 : PySem.W.nsIn K mainGlobals "is_within" = some (some (.ref f2)))
    (l2 : K.lookup f2 = some ⟨oc2, od2, .func (PySem.W.fnOf "is_within" "is_within" (defArgs s_is_within) (defBody s_is_within) (defScope s_is_within) .none kV2 dc2 pm2 an2 cd2 ct2), osl2⟩) (c2 : PySem.W.codeIn K cd2 "is_within" = true) (k2 : PySem.W.keepIn K (.ref f2) = true)
    {f3 : Addr} {oc3 : Value} {od3 an3 : Option Addr} {osl3 : Array (Option Value)} {kV3 dc3 pm3 cd3 ct3 : Value} (a3 : PySem.W.nsIn K mainGlobals "is_bells" = some (some (.ref f3)))
    (l3 : K.lookup f3 = some ⟨oc3, od3, .func (PySem.W.fnOf "is_bells" "is_bells" (defArgs s_is_bells) (defBody s_is_bells) (defScope s_is_bells) .none kV3 dc3 pm3 an3 cd3 ct3), osl3⟩) (c3 : PySem.W.codeIn K cd3 "is_bells" = true) (k3 : PySem.W.keepIn K (.ref f3) = true)
    {f4 : Addr} {oc4 : Value} {od4 an4 : Option Addr} {osl4 : Array (Option Value)} {kV4 dc4 pm4 cd4 ct4 : Value} (a4 : PySem.W.nsIn K mainGlobals "want_bells" = some (some (.ref f4)))
    (l4 : K.lookup f4 = some ⟨oc4, od4, .func (PySem.W.fnOf "want_bells" "want_bells" (defArgs s_want_bells) (defBody s_want_bells) (defScope s_want_bells) .none kV4 dc4 pm4 an4 cd4 ct4), osl4⟩) (c4 : PySem.W.codeIn K cd4 "want_bells" = true) (k4 : PySem.W.keepIn K (.ref f4) = true)
    {f5 : Addr} {oc5 : Value} {od5 an5 : Option Addr} {osl5 : Array (Option Value)} {kV5 dc5 pm5 cd5 ct5 : Value} (a5 : PySem.W.nsIn K mainGlobals "is_tuple" = some (some (.ref f5)))
    (l5 : K.lookup f5 = some ⟨oc5, od5, .func (PySem.W.fnOf "is_tuple" "is_tuple" (defArgs s_is_tuple) (defBody s_is_tuple) (defScope s_is_tuple) .none kV5 dc5 pm5 an5 cd5 ct5), osl5⟩) (c5 : PySem.W.codeIn K cd5 "is_tuple" = true) (k5 : PySem.W.keepIn K (.ref f5) = true)
    {f6 : Addr} {oc6 : Value} {od6 an6 : Option Addr} {osl6 : Array (Option Value)} {kV6 dc6 pm6 cd6 ct6 : Value} (a6 : PySem.W.nsIn K mainGlobals "are_places" = some (some (.ref f6)))
    (l6 : K.lookup f6 = some ⟨oc6, od6, .func (PySem.W.fnOf "are_places" "are_places" (defArgs s_are_places) (defBody s_are_places) (defScope s_are_places) .none kV6 dc6 pm6 an6 cd6 ct6), osl6⟩) (c6 : PySem.W.codeIn K cd6 "are_places" = true) (k6 : PySem.W.keepIn K (.ref f6) = true)
    {f7 : Addr} {oc7 : Value} {od7 an7 : Option Addr} {osl7 : Array (Option Value)} {kV7 dc7 pm7 cd7 ct7 : Value} (a7 : PySem.W.nsIn K mainGlobals "is_mark_of" = some (some (.ref f7)))
    (l7 : K.lookup f7 = some ⟨oc7, od7, .func (PySem.W.fnOf "is_mark_of" "is_mark_of" (defArgs s_is_mark_of) (defBody s_is_mark_of) (defScope s_is_mark_of) .none kV7 dc7 pm7 an7 cd7 ct7), osl7⟩) (c7 : PySem.W.codeIn K cd7 "is_mark_of" = true) (k7 : PySem.W.keepIn K (.ref f7) = true)
    {f8 : Addr} {oc8 : Value} {od8 an8 : Option Addr} {osl8 : Array (Option Value)} {kV8 dc8 pm8 cd8 ct8 : Value} (a8 : PySem.W.nsIn K mainGlobals "is_mark" = some (some (.ref f8)))
    (l8 : K.lookup f8 = some ⟨oc8, od8, .func (PySem.W.fnOf "is_mark" "is_mark" (defArgs s_is_mark) (defBody s_is_mark) (defScope s_is_mark) .none kV8 dc8 pm8 an8 cd8 ct8), osl8⟩) (c8 : PySem.W.codeIn K cd8 "is_mark" = true) (k8 : PySem.W.keepIn K (.ref f8) = true)
    {f9 : Addr} {oc9 : Value} {od9 an9 : Option Addr} {osl9 : Array (Option Value)} {kV9 dc9 pm9 cd9 ct9 : Value} (a9 : PySem.W.nsIn K mainGlobals "_law_draw" = some (some (.ref f9)))
    (l9 : K.lookup f9 = some ⟨oc9, od9, .func (PySem.W.fnOf "_law_draw" "_law_draw" (defArgs s__law_draw) (defBody s__law_draw) (defScope s__law_draw) .none kV9 dc9 pm9 an9 cd9 ct9), osl9⟩) (c9 : PySem.W.codeIn K cd9 "_law_draw" = true) (k9 : PySem.W.keepIn K (.ref f9) = true)
    {f10 : Addr} {oc10 : Value} {od10 an10 : Option Addr} {osl10 : Array (Option Value)} {kV10 dc10 pm10 cd10 ct10 : Value} (a10 : PySem.W.nsIn K mainGlobals "_law_pick" = some (some (.ref f10)))
    (l10 : K.lookup f10 = some ⟨oc10, od10, .func (PySem.W.fnOf "_law_pick" "_law_pick" (defArgs s__law_pick) (defBody s__law_pick) (defScope s__law_pick) .none kV10 dc10 pm10 an10 cd10 ct10), osl10⟩) (c10 : PySem.W.codeIn K cd10 "_law_pick" = true) (k10 : PySem.W.keepIn K (.ref f10) = true)
    {f11 : Addr} {oc11 : Value} {od11 an11 : Option Addr} {osl11 : Array (Option Value)} {kV11 dc11 pm11 cd11 ct11 : Value} (a11 : PySem.W.nsIn K mainGlobals "_law_all" = some (some (.ref f11)))
    (l11 : K.lookup f11 = some ⟨oc11, od11, .func (PySem.W.fnOf "_law_all" "_law_all" (defArgs s__law_all) (defBody s__law_all) (defScope s__law_all) .none kV11 dc11 pm11 an11 cd11 ct11), osl11⟩) (c11 : PySem.W.codeIn K cd11 "_law_all" = true) (k11 : PySem.W.keepIn K (.ref f11) = true)
    {f12 : Addr} {oc12 : Value} {od12 an12 : Option Addr} {osl12 : Array (Option Value)} {kV12 dc12 pm12 cd12 ct12 : Value} (a12 : PySem.W.nsIn K mainGlobals "_law_mark" = some (some (.ref f12)))
    (l12 : K.lookup f12 = some ⟨oc12, od12, .func (PySem.W.fnOf "_law_mark" "_law_mark" (defArgs s__law_mark) (defBody s__law_mark) (defScope s__law_mark) .none kV12 dc12 pm12 an12 cd12 ct12), osl12⟩) (c12 : PySem.W.codeIn K cd12 "_law_mark" = true) (k12 : PySem.W.keepIn K (.ref f12) = true)
    {f13 : Addr} {oc13 : Value} {od13 an13 : Option Addr} {osl13 : Array (Option Value)} {kV13 dc13 pm13 cd13 ct13 : Value} (a13 : PySem.W.nsIn K mainGlobals "_law_is_number" = some (some (.ref f13)))
    (l13 : K.lookup f13 = some ⟨oc13, od13, .func (PySem.W.fnOf "_law_is_number" "_law_is_number" (defArgs s__law_is_number) (defBody s__law_is_number) (defScope s__law_is_number) .none kV13 dc13 pm13 an13 cd13 ct13), osl13⟩) (c13 : PySem.W.codeIn K cd13 "_law_is_number" = true) (k13 : PySem.W.keepIn K (.ref f13) = true)
    {f14 : Addr} {oc14 : Value} {od14 an14 : Option Addr} {osl14 : Array (Option Value)} {kV14 dc14 pm14 cd14 ct14 : Value} (a14 : PySem.W.nsIn K mainGlobals "_law_is_mark" = some (some (.ref f14)))
    (l14 : K.lookup f14 = some ⟨oc14, od14, .func (PySem.W.fnOf "_law_is_mark" "_law_is_mark" (defArgs s__law_is_mark) (defBody s__law_is_mark) (defScope s__law_is_mark) .none kV14 dc14 pm14 an14 cd14 ct14), osl14⟩) (c14 : PySem.W.codeIn K cd14 "_law_is_mark" = true) (k14 : PySem.W.keepIn K (.ref f14) = true)
    {f15 : Addr} {oc15 : Value} {od15 an15 : Option Addr} {osl15 : Array (Option Value)} {kV15 dc15 pm15 cd15 ct15 : Value} (a15 : PySem.W.nsIn K mainGlobals "_law_bent" = some (some (.ref f15)))
    (l15 : K.lookup f15 = some ⟨oc15, od15, .func (PySem.W.fnOf "_law_bent" "_law_bent" (defArgs s__law_bent) (defBody s__law_bent) (defScope s__law_bent) .none kV15 dc15 pm15 an15 cd15 ct15), osl15⟩) (c15 : PySem.W.codeIn K cd15 "_law_bent" = true) (k15 : PySem.W.keepIn K (.ref f15) = true)
    {f16 : Addr} {oc16 : Value} {od16 an16 : Option Addr} {osl16 : Array (Option Value)} {kV16 dc16 pm16 cd16 ct16 : Value} (a16 : PySem.W.nsIn K mainGlobals "is_row_of" = some (some (.ref f16)))
    (l16 : K.lookup f16 = some ⟨oc16, od16, .func (PySem.W.fnOf "is_row_of" "is_row_of" (defArgs s_is_row_of) (defBody s_is_row_of) (defScope s_is_row_of) .none kV16 dc16 pm16 an16 cd16 ct16), osl16⟩) (c16 : PySem.W.codeIn K cd16 "is_row_of" = true) (k16 : PySem.W.keepIn K (.ref f16) = true)
    {f17 : Addr} {oc17 : Value} {od17 an17 : Option Addr} {osl17 : Array (Option Value)} {kV17 dc17 pm17 cd17 ct17 : Value} (a17 : PySem.W.nsIn K mainGlobals "want_row" = some (some (.ref f17)))
    (l17 : K.lookup f17 = some ⟨oc17, od17, .func (PySem.W.fnOf "want_row" "want_row" (defArgs s_want_row) (defBody s_want_row) (defScope s_want_row) .none kV17 dc17 pm17 an17 cd17 ct17), osl17⟩) (c17 : PySem.W.codeIn K cd17 "want_row" = true) (k17 : PySem.W.keepIn K (.ref f17) = true)
    {f18 : Addr} {oc18 : Value} {od18 an18 : Option Addr} {osl18 : Array (Option Value)} {kV18 dc18 pm18 cd18 ct18 : Value} (a18 : PySem.W.nsIn K mainGlobals "want_mark" = some (some (.ref f18)))
    (l18 : K.lookup f18 = some ⟨oc18, od18, .func (PySem.W.fnOf "want_mark" "want_mark" (defArgs s_want_mark) (defBody s_want_mark) (defScope s_want_mark) .none kV18 dc18 pm18 an18 cd18 ct18), osl18⟩) (c18 : PySem.W.codeIn K cd18 "want_mark" = true) (k18 : PySem.W.keepIn K (.ref f18) = true)
    {f19 : Addr} {oc19 : Value} {od19 an19 : Option Addr} {osl19 : Array (Option Value)} {kV19 dc19 pm19 cd19 ct19 : Value} (a19 : PySem.W.nsIn K mainGlobals "does_have" = some (some (.ref f19)))
    (l19 : K.lookup f19 = some ⟨oc19, od19, .func (PySem.W.fnOf "does_have" "does_have" (defArgs s_does_have) (defBody s_does_have) (defScope s_does_have) .none kV19 dc19 pm19 an19 cd19 ct19), osl19⟩) (c19 : PySem.W.codeIn K cd19 "does_have" = true) (k19 : PySem.W.keepIn K (.ref f19) = true)
    {f20 : Addr} {oc20 : Value} {od20 an20 : Option Addr} {osl20 : Array (Option Value)} {kV20 dc20 pm20 cd20 ct20 : Value} (a20 : PySem.W.nsIn K mainGlobals "has_mark" = some (some (.ref f20)))
    (l20 : K.lookup f20 = some ⟨oc20, od20, .func (PySem.W.fnOf "has_mark" "has_mark" (defArgs s_has_mark) (defBody s_has_mark) (defScope s_has_mark) .none kV20 dc20 pm20 an20 cd20 ct20), osl20⟩) (c20 : PySem.W.codeIn K cd20 "has_mark" = true) (k20 : PySem.W.keepIn K (.ref f20) = true)
    {f21 : Addr} {oc21 : Value} {od21 an21 : Option Addr} {osl21 : Array (Option Value)} {kV21 dc21 pm21 cd21 ct21 : Value} (a21 : PySem.W.nsIn K mainGlobals "is_list" = some (some (.ref f21)))
    (l21 : K.lookup f21 = some ⟨oc21, od21, .func (PySem.W.fnOf "is_list" "is_list" (defArgs s_is_list) (defBody s_is_list) (defScope s_is_list) .none kV21 dc21 pm21 an21 cd21 ct21), osl21⟩) (c21 : PySem.W.codeIn K cd21 "is_list" = true) (k21 : PySem.W.keepIn K (.ref f21) = true)
    {f22 : Addr} {oc22 : Value} {od22 an22 : Option Addr} {osl22 : Array (Option Value)} {kV22 dc22 pm22 cd22 ct22 : Value} (a22 : PySem.W.nsIn K mainGlobals "want_marks" = some (some (.ref f22)))
    (l22 : K.lookup f22 = some ⟨oc22, od22, .func (PySem.W.fnOf "want_marks" "want_marks" (defArgs s_want_marks) (defBody s_want_marks) (defScope s_want_marks) .none kV22 dc22 pm22 an22 cd22 ct22), osl22⟩) (c22 : PySem.W.codeIn K cd22 "want_marks" = true) (k22 : PySem.W.keepIn K (.ref f22) = true)
    {f23 : Addr} {oc23 : Value} {od23 an23 : Option Addr} {osl23 : Array (Option Value)} {kV23 dc23 pm23 cd23 ct23 : Value} (a23 : PySem.W.nsIn K mainGlobals "rounds_of" = some (some (.ref f23)))
    (l23 : K.lookup f23 = some ⟨oc23, od23, .func (PySem.W.fnOf "rounds_of" "rounds_of" (defArgs s_rounds_of) (defBody s_rounds_of) (defScope s_rounds_of) .none kV23 dc23 pm23 an23 cd23 ct23), osl23⟩) (c23 : PySem.W.codeIn K cd23 "rounds_of" = true) (k23 : PySem.W.keepIn K (.ref f23) = true)
    {f24 : Addr} {oc24 : Value} {od24 an24 : Option Addr} {osl24 : Array (Option Value)} {kV24 dc24 pm24 cd24 ct24 : Value} (a24 : PySem.W.nsIn K mainGlobals "all_rows" = some (some (.ref f24)))
    (l24 : K.lookup f24 = some ⟨oc24, od24, .func (PySem.W.fnOf "all_rows" "all_rows" (defArgs s_all_rows) (defBody s_all_rows) (defScope s_all_rows) .none kV24 dc24 pm24 an24 cd24 ct24), osl24⟩) (c24 : PySem.W.codeIn K cd24 "all_rows" = true) (k24 : PySem.W.keepIn K (.ref f24) = true)
    {f25 : Addr} {oc25 : Value} {od25 an25 : Option Addr} {osl25 : Array (Option Value)} {kV25 dc25 pm25 cd25 ct25 : Value} (a25 : PySem.W.nsIn K mainGlobals "rows_with" = some (some (.ref f25)))
    (l25 : K.lookup f25 = some ⟨oc25, od25, .func (PySem.W.fnOf "rows_with" "rows_with" (defArgs s_rows_with) (defBody s_rows_with) (defScope s_rows_with) .none kV25 dc25 pm25 an25 cd25 ct25), osl25⟩) (c25 : PySem.W.codeIn K cd25 "rows_with" = true) (k25 : PySem.W.keepIn K (.ref f25) = true)
    {f26 : Addr} {oc26 : Value} {od26 an26 : Option Addr} {osl26 : Array (Option Value)} {kV26 dc26 pm26 cd26 ct26 : Value} (a26 : PySem.W.nsIn K mainGlobals "_law_has" = some (some (.ref f26)))
    (l26 : K.lookup f26 = some ⟨oc26, od26, .func (PySem.W.fnOf "_law_has" "_law_has" (defArgs s__law_has) (defBody s__law_has) (defScope s__law_has) .none kV26 dc26 pm26 an26 cd26 ct26), osl26⟩) (c26 : PySem.W.codeIn K cd26 "_law_has" = true) (k26 : PySem.W.keepIn K (.ref f26) = true)
    {f27 : Addr} {oc27 : Value} {od27 an27 : Option Addr} {osl27 : Array (Option Value)} {kV27 dc27 pm27 cd27 ct27 : Value} (a27 : PySem.W.nsIn K mainGlobals "_law_marks_right" = some (some (.ref f27)))
    (l27 : K.lookup f27 = some ⟨oc27, od27, .func (PySem.W.fnOf "_law_marks_right" "_law_marks_right" (defArgs s__law_marks_right) (defBody s__law_marks_right) (defScope s__law_marks_right) .none kV27 dc27 pm27 an27 cd27 ct27), osl27⟩) (c27 : PySem.W.codeIn K cd27 "_law_marks_right" = true) (k27 : PySem.W.keepIn K (.ref f27) = true)
    {f28 : Addr} {oc28 : Value} {od28 an28 : Option Addr} {osl28 : Array (Option Value)} {kV28 dc28 pm28 cd28 ct28 : Value} (a28 : PySem.W.nsIn K mainGlobals "_law_six_right" = some (some (.ref f28)))
    (l28 : K.lookup f28 = some ⟨oc28, od28, .func (PySem.W.fnOf "_law_six_right" "_law_six_right" (defArgs s__law_six_right) (defBody s__law_six_right) (defScope s__law_six_right) .none kV28 dc28 pm28 an28 cd28 ct28), osl28⟩) (c28 : PySem.W.codeIn K cd28 "_law_six_right" = true) (k28 : PySem.W.keepIn K (.ref f28) = true)
    {f29 : Addr} {oc29 : Value} {od29 an29 : Option Addr} {osl29 : Array (Option Value)} {kV29 dc29 pm29 cd29 ct29 : Value} (a29 : PySem.W.nsIn K mainGlobals "_law_right" = some (some (.ref f29)))
    (l29 : K.lookup f29 = some ⟨oc29, od29, .func (PySem.W.fnOf "_law_right" "_law_right" (defArgs s__law_right) (defBody s__law_right) (defScope s__law_right) .none kV29 dc29 pm29 an29 cd29 ct29), osl29⟩) (c29 : PySem.W.codeIn K cd29 "_law_right" = true) (k29 : PySem.W.keepIn K (.ref f29) = true)
    {f30 : Addr} {oc30 : Value} {od30 an30 : Option Addr} {osl30 : Array (Option Value)} {kV30 dc30 pm30 cd30 ct30 : Value} (a30 : PySem.W.nsIn K mainGlobals "law" = some (some (.ref f30)))
    (l30 : K.lookup f30 = some ⟨oc30, od30, .func (PySem.W.fnOf "law" "law" (defArgs s_law) (defBody s_law) (defScope s_law) .none kV30 dc30 pm30 an30 cd30 ct30), osl30⟩) (c30 : PySem.W.codeIn K cd30 "law" = true) (k30 : PySem.W.keepIn K (.ref f30) = true)
    (n_abs : PySem.W.nsIn K mainGlobals "abs" = some none)
    (n_all : PySem.W.nsIn K mainGlobals "all" = some none)
    (n_bool : PySem.W.nsIn K mainGlobals "bool" = some none)
    (n_divmod : PySem.W.nsIn K mainGlobals "divmod" = some none)
    (n_enumerate : PySem.W.nsIn K mainGlobals "enumerate" = some none)
    (n_int : PySem.W.nsIn K mainGlobals "int" = some none)
    (n_isinstance : PySem.W.nsIn K mainGlobals "isinstance" = some none)
    (n_len : PySem.W.nsIn K mainGlobals "len" = some none)
    (n_list : PySem.W.nsIn K mainGlobals "list" = some none)
    (n_max : PySem.W.nsIn K mainGlobals "max" = some none)
    (n_min : PySem.W.nsIn K mainGlobals "min" = some none)
    (n_range : PySem.W.nsIn K mainGlobals "range" = some none)
    (n_repr : PySem.W.nsIn K mainGlobals "repr" = some none)
    (n_set : PySem.W.nsIn K mainGlobals "set" = some none)
    (n_str : PySem.W.nsIn K mainGlobals "str" = some none)
    (n_tuple : PySem.W.nsIn K mainGlobals "tuple" = some none)
    (n_zip : PySem.W.nsIn K mainGlobals "zip" = some none)
    {t_BELLS : Tok} (c_BELLS : PySem.W.nsIn K mainGlobals "BELLS" = some (some (.str "bells" t_BELLS)))
    {t_DOWN : Tok} (c_DOWN : PySem.W.nsIn K mainGlobals "DOWN" = some (some (.str "down" t_DOWN)))
    {t_LEAST_BELLS : Tok} (c_LEAST_BELLS : PySem.W.nsIn K mainGlobals "LEAST_BELLS" = some (some (.int 3 t_LEAST_BELLS)))
    {t_LEAST_RUN : Tok} (c_LEAST_RUN : PySem.W.nsIn K mainGlobals "LEAST_RUN" = some (some (.int 2 t_LEAST_RUN)))
    {t_MOST_BELLS : Tok} (c_MOST_BELLS : PySem.W.nsIn K mainGlobals "MOST_BELLS" = some (some (.int 6 t_MOST_BELLS)))
    {t_MOST_MARKS : Tok} (c_MOST_MARKS : PySem.W.nsIn K mainGlobals "MOST_MARKS" = some (some (.int 8 t_MOST_MARKS)))
    {t_RUN : Tok} (c_RUN : PySem.W.nsIn K mainGlobals "RUN" = some (some (.str "run" t_RUN)))
    {t_UP : Tok} (c_UP : PySem.W.nsIn K mainGlobals "UP" = some (some (.str "up" t_UP)))
    : ∃ fd : FuncData, (∀ (s : Shared) (u : Value), BindsTo s fd ⟨[u], []⟩ [("script", u)]) ∧ ∀ base : Heap, K.In base → base.Ns mainGlobals mg → FnG P w K mg base 9 fa fd ["script"] (fspec K ow_law 1 n_law m_law) := by
  obtain ⟨T, e, hb⟩ := all_mk X G a0 l0 c0 k0 a1 l1 c1 k1 a2 l2 c2 k2 a3 l3 c3 k3 a4 l4 c4 k4 a5 l5 c5 k5 a6 l6 c6 k6 a7 l7 c7 k7 a8 l8 c8 k8 a9 l9 c9 k9 a10 l10 c10 k10 a11 l11 c11 k11 a12 l12 c12 k12 a13 l13 c13 k13 a14 l14 c14 k14 a15 l15 c15 k15 a16 l16 c16 k16 a17 l17 c17 k17 a18 l18 c18 k18 a19 l19 c19 k19 a20 l20 c20 k20 a21 l21 c21 k21 a22 l22 c22 k22 a23 l23 c23 k23 a24 l24 c24 k24 a25 l25 c25 k25 a26 l26 c26 k26 a27 l27 c27 k27 a28 l28 c28 k28 a29 l29 c29 k29 a30 l30 c30 k30 n_abs n_all n_bool n_divmod n_enumerate n_int n_isinstance n_len n_list n_max n_min n_range n_repr n_set n_str n_tuple n_zip c_BELLS c_DOWN c_LEAST_BELLS c_LEAST_RUN c_MOST_BELLS c_MOST_MARKS c_RUN c_UP
  have z := hmg.symm.trans T.g_law
  cases z
  exact ⟨T.d_law, hb, fun base _ _ => ok_law T⟩
end Pwk91

open PySem PySem.W PyProof.Rows in
set_option maxRecDepth 100000 in
set_option maxHeartbeats 0 in
theorem PySem.Challenge.cw_pealworks_k91_any_value_as_a_mark_holds : PySem.Challenge.rw_pealworks_k91_any_value_as_a_mark.Holds := by
  w_on; o_law; k_head; (case hw => w_witness2)
  k_fill
  refine Pw.walk_d (l := PySem.Challenge.rw_pealworks_k91_any_value_as_a_mark) (n := 63) (k := 9) (nN := Pwk91.n_law) (x := "script") (OW := Pwk91.ow_law) (m := Pwk91.m_law) rfl (by decide) rfl ⟨rfl, by decide, by decide⟩ (fun w h Y => PySem.W.kIn_of Y) ?F (fun zs _ _ => Pwk91.r_law zs)
  case F =>
    intro w mg fa h KX G hmg
    refine' Pwk91.fin_mk KX G hmg ?a0 ?l0 ?c0 ?k0 ?a1 ?l1 ?c1 ?k1 ?a2 ?l2 ?c2 ?k2 ?a3 ?l3 ?c3 ?k3 ?a4 ?l4 ?c4 ?k4 ?a5 ?l5 ?c5 ?k5 ?a6 ?l6 ?c6 ?k6 ?a7 ?l7 ?c7 ?k7 ?a8 ?l8 ?c8 ?k8 ?a9 ?l9 ?c9 ?k9 ?a10 ?l10 ?c10 ?k10 ?a11 ?l11 ?c11 ?k11 ?a12 ?l12 ?c12 ?k12 ?a13 ?l13 ?c13 ?k13 ?a14 ?l14 ?c14 ?k14 ?a15 ?l15 ?c15 ?k15 ?a16 ?l16 ?c16 ?k16 ?a17 ?l17 ?c17 ?k17 ?a18 ?l18 ?c18 ?k18 ?a19 ?l19 ?c19 ?k19 ?a20 ?l20 ?c20 ?k20 ?a21 ?l21 ?c21 ?k21 ?a22 ?l22 ?c22 ?k22 ?a23 ?l23 ?c23 ?k23 ?a24 ?l24 ?c24 ?k24 ?a25 ?l25 ?c25 ?k25 ?a26 ?l26 ?c26 ?k26 ?a27 ?l27 ?c27 ?k27 ?a28 ?l28 ?c28 ?k28 ?a29 ?l29 ?c29 ?k29 ?a30 ?l30 ?c30 ?k30 ?n_abs ?n_all ?n_bool ?n_divmod ?n_enumerate ?n_int ?n_isinstance ?n_len ?n_list ?n_max ?n_min ?n_range ?n_repr ?n_set ?n_str ?n_tuple ?n_zip ?c_BELLS ?c_DOWN ?c_LEAST_BELLS ?c_LEAST_RUN ?c_MOST_BELLS ?c_MOST_MARKS ?c_RUN ?c_UP
    (case a0 => k_is)
    (case l0 => k_is)
    (case c0 => k_is)
    (case k0 => k_is)
    (case a1 => k_is)
    (case l1 => k_is)
    (case c1 => k_is)
    (case k1 => k_is)
    (case a2 => k_is)
    (case l2 => k_is)
    (case c2 => k_is)
    (case k2 => k_is)
    (case a3 => k_is)
    (case l3 => k_is)
    (case c3 => k_is)
    (case k3 => k_is)
    (case a4 => k_is)
    (case l4 => k_is)
    (case c4 => k_is)
    (case k4 => k_is)
    (case a5 => k_is)
    (case l5 => k_is)
    (case c5 => k_is)
    (case k5 => k_is)
    (case a6 => k_is)
    (case l6 => k_is)
    (case c6 => k_is)
    (case k6 => k_is)
    (case a7 => k_is)
    (case l7 => k_is)
    (case c7 => k_is)
    (case k7 => k_is)
    (case a8 => k_is)
    (case l8 => k_is)
    (case c8 => k_is)
    (case k8 => k_is)
    (case a9 => k_is)
    (case l9 => k_is)
    (case c9 => k_is)
    (case k9 => k_is)
    (case a10 => k_is)
    (case l10 => k_is)
    (case c10 => k_is)
    (case k10 => k_is)
    (case a11 => k_is)
    (case l11 => k_is)
    (case c11 => k_is)
    (case k11 => k_is)
    (case a12 => k_is)
    (case l12 => k_is)
    (case c12 => k_is)
    (case k12 => k_is)
    (case a13 => k_is)
    (case l13 => k_is)
    (case c13 => k_is)
    (case k13 => k_is)
    (case a14 => k_is)
    (case l14 => k_is)
    (case c14 => k_is)
    (case k14 => k_is)
    (case a15 => k_is)
    (case l15 => k_is)
    (case c15 => k_is)
    (case k15 => k_is)
    (case a16 => k_is)
    (case l16 => k_is)
    (case c16 => k_is)
    (case k16 => k_is)
    (case a17 => k_is)
    (case l17 => k_is)
    (case c17 => k_is)
    (case k17 => k_is)
    (case a18 => k_is)
    (case l18 => k_is)
    (case c18 => k_is)
    (case k18 => k_is)
    (case a19 => k_is)
    (case l19 => k_is)
    (case c19 => k_is)
    (case k19 => k_is)
    (case a20 => k_is)
    (case l20 => k_is)
    (case c20 => k_is)
    (case k20 => k_is)
    (case a21 => k_is)
    (case l21 => k_is)
    (case c21 => k_is)
    (case k21 => k_is)
    (case a22 => k_is)
    (case l22 => k_is)
    (case c22 => k_is)
    (case k22 => k_is)
    (case a23 => k_is)
    (case l23 => k_is)
    (case c23 => k_is)
    (case k23 => k_is)
    (case a24 => k_is)
    (case l24 => k_is)
    (case c24 => k_is)
    (case k24 => k_is)
    (case a25 => k_is)
    (case l25 => k_is)
    (case c25 => k_is)
    (case k25 => k_is)
    (case a26 => k_is)
    (case l26 => k_is)
    (case c26 => k_is)
    (case k26 => k_is)
    (case a27 => k_is)
    (case l27 => k_is)
    (case c27 => k_is)
    (case k27 => k_is)
    (case a28 => k_is)
    (case l28 => k_is)
    (case c28 => k_is)
    (case k28 => k_is)
    (case a29 => k_is)
    (case l29 => k_is)
    (case c29 => k_is)
    (case k29 => k_is)
    (case a30 => k_is)
    (case l30 => k_is)
    (case c30 => k_is)
    (case k30 => k_is)
    (case n_abs => k_is)
    (case n_all => k_is)
    (case n_bool => k_is)
    (case n_divmod => k_is)
    (case n_enumerate => k_is)
    (case n_int => k_is)
    (case n_isinstance => k_is)
    (case n_len => k_is)
    (case n_list => k_is)
    (case n_max => k_is)
    (case n_min => k_is)
    (case n_range => k_is)
    (case n_repr => k_is)
    (case n_set => k_is)
    (case n_str => k_is)
    (case n_tuple => k_is)
    (case n_zip => k_is)
    (case c_BELLS => k_is)
    (case c_DOWN => k_is)
    (case c_LEAST_BELLS => k_is)
    (case c_LEAST_RUN => k_is)
    (case c_MOST_BELLS => k_is)
    (case c_MOST_MARKS => k_is)
    (case c_RUN => k_is)
    (case c_UP => k_is)

