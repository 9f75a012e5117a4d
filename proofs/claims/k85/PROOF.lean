import PyProof.Rows.All
import Wide.All
import OpenK.AllK
import Wide.FinOn
import HandS.ForMost
import HandS.ForExc
import HandS.TupAny
import HandS.TupMul
import HandS.Deep
import KE.DataCmp
import KE.SortData
import HandS.IsInst
import HandS.TupLen
import HandS.Conv
import HandS.Style
import HandS.Zip
import KE.GoesEnum
import HandS.Small
import HandS.EndBits
import HandS.TupSets
import HandS.SetFor
import HandS.SortInts
import HandS.DictTup
import HandS.Iter
import KE.KDictPairs
import KE.KDictDisplayH
import PySem.Challenge.RW_pealworks_k85_whole_methods_that_stand_i
set_option Elab.async false
set_option linter.all false
set_option maxRecDepth 100000
set_option maxHeartbeats 2000000
/-! Pw: data by value over the layer's abstract heap; slots that hold data, or lists and dicts of their own. -/
namespace Pw
open PySem PySem.Spec PyProof.Rows L2

abbrev D := PyData
/-- keys as data -/
def kD : Key → D
  | .inl i => .int i
  | .inr x => .str x

mutual
/-- v stands for the data d, in the abstract heap H: lists within are frozen, tuples are tracked -/
inductive RD (H : Hp) : V → D → Prop
  | non : RD H .non .none
  | bl (b : Bool) : RD H (.bl b) (.bool b)
  | int (i : Int) : RD H (.int i) (.int i)
  | str (x : Str) : RD H (.str x) (.str x)
  | lst {a : Addr} {o : Obj} {vs : List V} {ds : List D} : H a = some (.frz o (.lst vs)) → RDs H vs ds → RD H (.ref a) (.list ds)
  | tup {a : Addr} {vs : List V} {ds : List D} : H a = some (.tup vs) → RDs H vs ds → RD H (.ref a) (.tuple ds)
  | dK {a : Addr} {o : Obj} {kvs : List (Key × V)} {ds : List (D × D)} : H a = some (.frz o (.dK kvs)) → RDk H kvs ds → RD H (.ref a) (.dict ds)
  | dT {a : Addr} {o : Obj} {kvs : List (List Key × V)} {ds : List (D × D)} : H a = some (.frz o (.dT kvs)) → RDt H kvs ds → RD H (.ref a) (.dict ds)
inductive RDs (H : Hp) : List V → List D → Prop
  | nil : RDs H [] []
  | cons {v : V} {vs : List V} {d : D} {ds : List D} : RD H v d → RDs H vs ds → RDs H (v :: vs) (d :: ds)
inductive RDk (H : Hp) : List (Key × V) → List (D × D) → Prop
  | nil : RDk H [] []
  | cons {k : Key} {v : V} {vs : List (Key × V)} {d : D} {ds : List (D × D)} : RD H v d → RDk H vs ds → RDk H ((k, v) :: vs) ((kD k, d) :: ds)
inductive RDt (H : Hp) : List (List Key × V) → List (D × D) → Prop
  | nil : RDt H [] []
  | cons {k : List Key} {v : V} {vs : List (List Key × V)} {d : D} {ds : List (D × D)} : RD H v d → RDt H vs ds → RDt H ((k, v) :: vs) ((.tuple (k.map kD), d) :: ds)
end

/-- what RD leans on is kept -/
def Kp (H H' : Hp) : Prop := (∀ a vs, H a = some (.tup vs) → H' a = some (.tup vs)) ∧ (∀ a o u, H a = some (.frz o u) → H' a = some (.frz o u))
theorem Kp.refl (H : Hp) : Kp H H := ⟨fun _ _ h => h, fun _ _ _ h => h⟩
theorem Kp.trans {H H1 H2 : Hp} (a : Kp H H1) (b : Kp H1 H2) : Kp H H2 := ⟨fun x vs h => b.1 x vs (a.1 x vs h), fun x o u h => b.2 x o u (a.2 x o u h)⟩
theorem Kp.of_same {H H' : Hp} (s : Same H H') : Kp H H' := ⟨fun a vs h => s a _ h, fun a o u h => s a _ h⟩
/-- an own list, a dict: it may be written -/
def Wr : HO → Prop
  | .lst _ => True
  | .dK _ => True
  | .dT _ => True
  | _ => False
theorem Kp.write {H : Hp} {a : Addr} {o u : HO} (h : H a = some o) (w : Wr o) : Kp H (upd H a u) := by
  refine ⟨fun b vs e => ?_, fun b p q e => ?_⟩
  · by_cases hb : b = a
    · subst hb; rw [h] at e; cases e; exact w.elim
    · rw [upd_ne hb]; exact e
  · by_cases hb : b = a
    · subst hb; rw [h] at e; cases e; exact w.elim
    · rw [upd_ne hb]; exact e
theorem Kp.new {H : Hp} {a : Addr} {u : HO} (h : H a = none) : Kp H (upd H a u) :=
  Kp.of_same fun b o e => by rw [upd_ne (ne_of_none e h)]; exact e

mutual
theorem RD.kp {H H' : Hp} (k : Kp H H') : ∀ {v : V} {d : D}, RD H v d → RD H' v d
  | _, _, .non => .non
  | _, _, .bl b => .bl b
  | _, _, .int i => .int i
  | _, _, .str x => .str x
  | _, _, .lst h r => .lst (k.2 _ _ _ h) (RDs.kp k r)
  | _, _, .tup h r => .tup (k.1 _ _ h) (RDs.kp k r)
  | _, _, .dK h r => .dK (k.2 _ _ _ h) (RDk.kp k r)
  | _, _, .dT h r => .dT (k.2 _ _ _ h) (RDt.kp k r)
theorem RDs.kp {H H' : Hp} (k : Kp H H') : ∀ {vs : List V} {ds : List D}, RDs H vs ds → RDs H' vs ds
  | _, _, .nil => .nil
  | _, _, .cons r t => .cons (RD.kp k r) (RDs.kp k t)
theorem RDk.kp {H H' : Hp} (k : Kp H H') : ∀ {vs : List (Key × V)} {ds : List (D × D)}, RDk H vs ds → RDk H' vs ds
  | _, _, .nil => .nil
  | _, _, .cons r t => .cons (RD.kp k r) (RDk.kp k t)
theorem RDt.kp {H H' : Hp} (k : Kp H H') : ∀ {vs : List (List Key × V)} {ds : List (D × D)}, RDt H vs ds → RDt H' vs ds
  | _, _, .nil => .nil
  | _, _, .cons r t => .cons (RD.kp k r) (RDt.kp k t)
end

section
variable {H : Hp}
theorem RDs.length : ∀ {vs : List V} {ds : List D}, RDs H vs ds → vs.length = ds.length
  | _, _, .nil => rfl
  | _, _, .cons _ t => by rw [List.length_cons, List.length_cons, RDs.length t]
theorem RDs.append : ∀ {vs ws : List V} {ds es : List D}, RDs H vs ds → RDs H ws es → RDs H (vs ++ ws) (ds ++ es)
  | _, _, _, _, .nil, s => s
  | _, _, _, _, .cons r t, s => .cons r (RDs.append t s)
theorem RDs.get : ∀ {vs : List V} {ds : List D} {i : Nat} {d : D}, RDs H vs ds → ds[i]? = some d → ∃ v, vs[i]? = some v ∧ RD H v d
  | _, _, _, _, .nil, e => by simp at e
  | _, _, 0, _, .cons r _, e => by simp at e; subst e; exact ⟨_, rfl, r⟩
  | _, _, i + 1, _, .cons _ t, e => by
    obtain ⟨v, h1, h2⟩ := RDs.get (i := i) t (by simpa using e)
    exact ⟨v, by simpa using h1, h2⟩
theorem RDs.set {v : V} {d : D} (r : RD H v d) : ∀ {vs : List V} {ds : List D} (i : Nat), RDs H vs ds → RDs H (vs.set i v) (ds.set i d)
  | _, _, _, .nil => .nil
  | _, _, 0, .cons _ t => .cons r t
  | _, _, i + 1, .cons q t => .cons q (RDs.set r i t)
theorem RDs.take : ∀ {vs : List V} {ds : List D} (n : Nat), RDs H vs ds → RDs H (vs.take n) (ds.take n)
  | _, _, 0, _ => .nil
  | _, _, _ + 1, .nil => .nil
  | _, _, n + 1, .cons r t => .cons r (RDs.take n t)
theorem RDs.drop : ∀ {vs : List V} {ds : List D} (n : Nat), RDs H vs ds → RDs H (vs.drop n) (ds.drop n)
  | _, _, 0, r => r
  | _, _, _ + 1, .nil => .nil
  | _, _, n + 1, .cons _ t => RDs.drop n t
theorem RDs.eraseIdx : ∀ {vs : List V} {ds : List D} (n : Nat), RDs H vs ds → RDs H (vs.eraseIdx n) (ds.eraseIdx n)
  | _, _, _, .nil => .nil
  | _, _, 0, .cons _ t => t
  | _, _, n + 1, .cons r t => .cons r (RDs.eraseIdx n t)
theorem RDs.rev : ∀ {vs : List V} {ds : List D}, RDs H vs ds → RDs H vs.reverse ds.reverse
  | _, _, .nil => .nil
  | _, _, .cons r t => by
    rw [List.reverse_cons, List.reverse_cons]
    exact (RDs.rev t).append (.cons r .nil)
theorem RDs.rep {vs : List V} {ds : List D} (r : RDs H vs ds) : ∀ n : Nat, RDs H (List.replicate n vs).flatten (List.replicate n ds).flatten
  | 0 => .nil
  | n + 1 => by
    rw [List.replicate_succ, List.replicate_succ, List.flatten_cons, List.flatten_cons]
    exact r.append (RDs.rep r n)
theorem RDs.ints : ∀ {vs : List V} {ns : List Int}, RDs H vs (ns.map PyData.int) → vs = ns.map V.int
  | _, [], .nil => rfl
  | _, n :: ns, .cons r t => by
    cases r
    rw [List.map_cons, RDs.ints t]
theorem RDs.of_ints : ∀ ns : List Int, RDs H (ns.map V.int) (ns.map PyData.int)
  | [] => .nil
  | n :: ns => .cons (.int n) (RDs.of_ints ns)
theorem RDs.bls : ∀ {vs : List V} {bs : List Bool}, RDs H vs (bs.map PyData.bool) → vs = bs.map V.bl
  | _, [], .nil => rfl
  | _, n :: ns, .cons r t => by
    cases r
    rw [List.map_cons, RDs.bls t]
end

/-! ### what a slot, an expression holds -/
/-- data; an own list; a parameter's list that may change; an own dict (int and text keys; tuples of such); the own thing of a slot, for a look; a list that is read alone (the script) -/
inductive R where
  | d (x : D)
  | ol (xs : List D)
  | pl (xs : List D)
  | oK (kvs : List (Key × D))
  | oT (kvs : List (List Key × D))
  | vr (i : Nat)
  | kl (xs : List D)
def R.own : R → Bool
  | .ol _ => true
  | .pl _ => true
  | .oK _ => true
  | .oT _ => true
  | _ => false
abbrev En := List (Option R)

def RDK (H : Hp) : List (Key × V) → List (Key × D) → Prop := Paired fun p q => p.1 = q.1 ∧ RD H p.2 q.2
def RDT (H : Hp) : List (List Key × V) → List (List Key × D) → Prop := Paired fun p q => p.1 = q.1 ∧ RD H p.2 q.2
theorem RDK.kp {H H' : Hp} (k : Kp H H') {l : List (Key × V)} {m : List (Key × D)} (r : RDK H l m) : RDK H' l m := L2.Paired.mapP r fun _ _ z => ⟨z.1, z.2.kp k⟩
theorem RDT.kp {H H' : Hp} (k : Kp H H') {l : List (List Key × V)} {m : List (List Key × D)} (r : RDT H l m) : RDT H' l m := L2.Paired.mapP r fun _ _ z => ⟨z.1, z.2.kp k⟩

/-- a list that is read alone: frozen, or of the written part -/
def KL (K : PySem.W.Frag) (H : Hp) (a : Addr) (vs : List V) : Prop :=
  (∃ o, H a = some (.frz o (.lst vs))) ∨
    ∃ (o : Obj) (its : Array Value) (n : Nat), K.lookup a = some o ∧ o.cls = .type "list" ∧ o.dict = none ∧ o.data = .seq its n ∧ its.size ≤ sizeLine ∧ Vals vs its.toList
theorem KL.kp {K : PySem.W.Frag} {H H' : Hp} (k : Kp H H') {a : Addr} {vs : List V} (h : KL K H a vs) : KL K H' a vs := by
  rcases h with ⟨o, h⟩ | h
  · exact .inl ⟨o, k.2 _ _ _ h⟩
  · exact .inr h
theorem KL.sq {K : PySem.W.Frag} {H : Hp} {a : Addr} {vs : List V} (h : KL K H a vs) : SqL K H a vs := by
  rcases h with ⟨o, h⟩ | h
  · exact .inl (.inr ⟨o, h⟩)
  · exact .inr h
def RR (K : PySem.W.Frag) (H : Hp) (v : V) : R → Prop
  | .d x => RD H v x
  | .ol ds => ∃ a vs, v = .ref a ∧ H a = some (.lst vs) ∧ RDs H vs ds
  | .pl ds => ∃ a vs, v = .ref a ∧ H a = some (.lst vs) ∧ RDs H vs ds
  | .oK kvs => ∃ a ws, v = .ref a ∧ H a = some (.dK ws) ∧ RDK H ws kvs
  | .oT kvs => ∃ a ws, v = .ref a ∧ H a = some (.dT ws) ∧ RDT H ws kvs
  | .vr _ => False
  | .kl ds => ∃ a vs, v = .ref a ∧ KL K H a vs ∧ RDs H vs ds
/-- of a thing that waits beside the slots -/
def RP (K : PySem.W.Frag) (env : En) (σ : L2.St) (H : Hp) (v : V) : R → Prop
  | .vr i => σ[i]? = some (some v) ∧ ∃ r, env[i]? = some (some r)
  | r => RR K H v r
section
variable {K : PySem.W.Frag} {H H' : Hp} {v : V} {r : R}
theorem RP.of {env : En} {σ : L2.St} (h : RR K H v r) : RP K env σ H v r := by
  cases r <;> first | exact h | exact False.elim h
theorem RP.rr {env : En} {σ : L2.St} (h : RP K env σ H v r) (n : ∀ i, r ≠ .vr i) : RR K H v r := by
  cases r <;> first | exact h | exact absurd rfl (n _)
/-- an own thing's address -/
theorem RR.ownAt (h : RR K H v r) (o : r.own = true) : ∃ a u, v = .ref a ∧ H a = some u ∧ Wr u := by
  cases r with
  | ol ds => obtain ⟨a, vs, e, e2, _⟩ := h; exact ⟨a, _, e, e2, trivial⟩
  | pl ds => obtain ⟨a, vs, e, e2, _⟩ := h; exact ⟨a, _, e, e2, trivial⟩
  | oK kvs => obtain ⟨a, vs, e, e2, _⟩ := h; exact ⟨a, _, e, e2, trivial⟩
  | oT kvs => obtain ⟨a, vs, e, e2, _⟩ := h; exact ⟨a, _, e, e2, trivial⟩
  | d x => exact absurd o Bool.false_ne_true
  | vr i => exact absurd o Bool.false_ne_true
  | kl x => exact absurd o Bool.false_ne_true
/-- kept, where an own thing's own object is -/
theorem RR.keep (h : RR K H v r) (k : Kp H H') (own : r.own = true → ∀ a u, v = .ref a → H a = some u → H' a = some u) : RR K H' v r := by
  cases r with
  | d x => exact RD.kp k h
  | ol ds => obtain ⟨a, vs, e, e2, r⟩ := h; exact ⟨a, vs, e, own rfl a _ e e2, r.kp k⟩
  | pl ds => obtain ⟨a, vs, e, e2, r⟩ := h; exact ⟨a, vs, e, own rfl a _ e e2, r.kp k⟩
  | oK kvs => obtain ⟨a, vs, e, e2, r⟩ := h; exact ⟨a, vs, e, own rfl a _ e e2, r.kp k⟩
  | oT kvs => obtain ⟨a, vs, e, e2, r⟩ := h; exact ⟨a, vs, e, own rfl a _ e e2, r.kp k⟩
  | vr i => exact False.elim h
  | kl ds => obtain ⟨a, vs, e, e2, r⟩ := h; exact ⟨a, vs, e, e2.kp k, r.kp k⟩
end

abbrev Pe := List (V × R)
/-- the slots as env tells them: H0 the heap at the def's entry, P its own parameters' addresses, L what waits -/
structure Rel (K : PySem.W.Frag) (OW : Nat → Bool) (H0 : Hp) (P : List (Option Addr)) (env : En) (σ : L2.St) (H : Hp) (L : Pe) : Prop where
  len : env.length = σ.length
  slot : ∀ (i : Nat) (r : R), env[i]? = some (some r) → ∃ v, σ[i]? = some (some v) ∧ RR K H v r
  pend : ∀ p ∈ L, RP K env σ H p.1 p.2
  sepS : ∀ (i j : Nat) (r r' : R) (v : V), env[i]? = some (some r) → env[j]? = some (some r') → r.own = true → r'.own = true → σ[i]? = some (some v) → σ[j]? = some (some v) → i = j
  sepP : ∀ (i : Nat) (r : R) (v : V) (p : V × R), env[i]? = some (some r) → r.own = true → σ[i]? = some (some v) → p ∈ L → p.2.own = true → p.1 ≠ v
  sepL : L.Pairwise fun p q => p.2.own = true → q.2.own = true → p.1 ≠ q.1
  keep : ∀ a o, H0 a = some o → some a ∉ P → H a = some o
  newS : ∀ (i : Nat) (r : R) (a : Addr), env[i]? = some (some r) → r.own = true → σ[i]? = some (some (.ref a)) → (H0 a = none ∧ some a ∉ P) ∨ P[i]? = some (some a)
  newL : ∀ p ∈ L, p.2.own = true → ∀ a, p.1 = .ref a → H0 a = none ∧ some a ∉ P
  par : ∀ (i : Nat) (a : Addr), P[i]? = some (some a) → σ[i]? = some (some (.ref a)) ∧ ∃ ds, env[i]? = some (some (.pl ds))
  ow : ∀ (i : Nat) (r : R), env[i]? = some (some r) → r.own = true → OW i = true
  vo : ∀ p ∈ L, ∀ i, p.2 = .vr i → OW i = true

section
variable {K : PySem.W.Frag} {OW : Nat → Bool} {H0 H H' : Hp} {P : List (Option Addr)} {env : En} {σ : L2.St} {L L' : Pe} {v : V} {r : R} {a : Addr}
theorem Rel.perm (R1 : Rel K OW H0 P env σ H L) (p : L'.Perm L) : Rel K OW H0 P env σ H L' :=
  ⟨R1.len, R1.slot, fun q h => R1.pend q (p.mem_iff.mp h), R1.sepS, fun i r v q a b c d => R1.sepP i r v q a b c (p.mem_iff.mp d),
    R1.sepL.perm p.symm (fun h a b e => h b a e.symm), R1.keep, R1.newS, fun q h => R1.newL q (p.mem_iff.mp h), R1.par, R1.ow, fun q h => R1.vo q (p.mem_iff.mp h)⟩
theorem Rel.sub (R1 : Rel K OW H0 P env σ H L) (s : L'.Sublist L) : Rel K OW H0 P env σ H L' :=
  ⟨R1.len, R1.slot, fun q h => R1.pend q (s.mem h), R1.sepS, fun i r v q a b c d => R1.sepP i r v q a b c (s.mem d),
    R1.sepL.sublist s, R1.keep, R1.newS, fun q h => R1.newL q (s.mem h), R1.par, R1.ow, fun q h => R1.vo q (s.mem h)⟩
theorem Rel.drop (R1 : Rel K OW H0 P env σ H ((v, r) :: L)) : Rel K OW H0 P env σ H L := R1.sub (List.sublist_cons_self _ _)
/-- the heap grows -/
theorem Rel.grow (R1 : Rel K OW H0 P env σ H L) (s : Same H H') : Rel K OW H0 P env σ H' L := by
  have k := Kp.of_same s
  have kr : ∀ {v : V} {r : R}, RR K H v r → RR K H' v r := fun h => h.keep k fun _ a u _ e => s a u e
  refine ⟨R1.len, fun i r e => ?_, fun p h => ?_, R1.sepS, R1.sepP, R1.sepL, fun a o e n => s a o (R1.keep a o e n), R1.newS, R1.newL, R1.par, R1.ow, R1.vo⟩
  · obtain ⟨v, e1, e2⟩ := R1.slot i r e
    exact ⟨v, e1, kr e2⟩
  · have q := R1.pend p h
    obtain ⟨v, r⟩ := p
    cases r with
    | vr i => exact q
    | _ => exact RP.of (kr (q.rr fun i z => nomatch z))
/-- data wait, too -/
theorem Rel.put (R1 : Rel K OW H0 P env σ H L) (h : RP K env σ H v r) (n : r.own = false) (nv : ∀ i, r = .vr i → OW i = true := by intro _ z; cases z) : Rel K OW H0 P env σ H ((v, r) :: L) := by
  refine ⟨R1.len, R1.slot, fun p m => ?_, R1.sepS, fun i r' w p a b c d e => ?_, List.pairwise_cons.mpr ⟨fun q _ z => ?_, R1.sepL⟩, R1.keep, R1.newS, fun p m o => ?_, R1.par, R1.ow, fun p m i z => ?_⟩
  · rcases List.mem_cons.mp m with rfl | m
    · exact h
    · exact R1.pend p m
  · rcases List.mem_cons.mp d with rfl | d
    · have e' : r.own = true := e
      rw [n] at e'; cases e'
    · exact R1.sepP i r' w p a b c d e
  · have e' : r.own = true := z
    rw [n] at e'; cases e'
  · rcases List.mem_cons.mp m with rfl | m
    · have e' : r.own = true := o
      rw [n] at e'; cases e'
    · exact R1.newL p m o
  · rcases List.mem_cons.mp m with rfl | m
    · exact nv i z
    · exact R1.vo p m i z
theorem Rel.none0 (R1 : Rel K OW H0 P env σ H L) (h : H a = none) : some a ∉ P → H0 a = none := fun n => by
  cases q : H0 a with
  | none => rfl
  | some o => rw [R1.keep a o q n] at h; cases h
theorem Rel.noPar (R1 : Rel K OW H0 P env σ H L) (h : H a = none) : some a ∉ P := fun m => by
  obtain ⟨i, hi⟩ := List.mem_iff_getElem?.mp m
  obtain ⟨e, r, e2⟩ := R1.par i a hi
  obtain ⟨v, e3, e4⟩ := R1.slot i _ e2
  rw [e] at e3; cases e3
  obtain ⟨b, u, e5, e6, _⟩ := e4.ownAt rfl
  cases e5
  rw [h] at e6; cases e6
theorem RP.ownAt {v : V} {r : R} (h : RP K env σ H v r) (o : r.own = true) : ∃ a u, v = .ref a ∧ H a = some u ∧ Wr u :=
  (h.rr fun i z => by subst z; cases o).ownAt o
/-- a new own thing waits -/
theorem Rel.newOwn (R1 : Rel K OW H0 P env σ H L) {u : HO} (h : H a = none) (rr : RR K (upd H a u) (.ref a) r) : Rel K OW H0 P env σ (upd H a u) ((.ref a, r) :: L) := by
  have g : Same H (upd H a u) := fun b o e => by rw [upd_ne (ne_of_none e h)]; exact e
  have R2 := R1.grow g
  have nP := R1.noPar h
  refine ⟨R2.len, R2.slot, fun p m => ?_, R2.sepS, fun i r' w p x b c d e => ?_, List.pairwise_cons.mpr ⟨fun q m _ z e => ?_, R2.sepL⟩, R2.keep, R2.newS, fun p m o b e => ?_, R2.par, R2.ow, fun p m i z => ?_⟩
  · rcases List.mem_cons.mp m with rfl | m
    · exact RP.of rr
    · exact R2.pend p m
  · rcases List.mem_cons.mp d with rfl | d
    · obtain ⟨w', e1, e2⟩ := R1.slot i r' x
      rw [c] at e1; cases e1
      obtain ⟨b', u', e3, e4, _⟩ := e2.ownAt b
      subst e3
      intro z
      cases z
      rw [h] at e4; cases e4
    · exact R2.sepP i r' w p x b c d e
  · obtain ⟨b', u', e3, e4, _⟩ := (R1.pend q m).ownAt z
    have e' : V.ref a = q.1 := e
    rw [e3] at e'; cases e'
    rw [h] at e4; cases e4
  · rcases List.mem_cons.mp m with rfl | m
    · cases e
      exact ⟨R1.none0 h nP, nP⟩
    · exact R2.newL p m o b e
  · rcases List.mem_cons.mp m with rfl | m
    · have z' : r = .vr i := z
      subst z'
      exact False.elim rr
    · exact R2.vo p m i z
/-- a new thing of data waits -/
theorem Rel.newData (R1 : Rel K OW H0 P env σ H L) {u : HO} {d : D} (h : H a = none) (rr : RD (upd H a u) v d) : Rel K OW H0 P env σ (upd H a u) ((v, .d d) :: L) :=
  (R1.grow fun b o e => by rw [upd_ne (ne_of_none e h)]; exact e).put (r := .d d) rr rfl

theorem get_set {α : Type} {l : List α} {i j : Nat} {x y : α} (h : (l.set i x)[j]? = some y) : (j = i ∧ y = x) ∨ (j ≠ i ∧ l[j]? = some y) := by
  by_cases e : j = i
  · subst e
    by_cases hl : j < l.length
    · rw [List.getElem?_set_self hl] at h
      exact .inl ⟨rfl, (Option.some.inj h).symm⟩
    · rw [List.getElem?_eq_none (by simpa using hl)] at h; cases h
  · rw [List.getElem?_set_ne (Ne.symm e)] at h
    exact .inr ⟨e, h⟩
/-- no slot holds a parameter's list there -/
def notPl : Option (Option R) → Bool
  | some (some (.pl _)) => false
  | _ => true
/-- name = value -/
theorem Rel.store {i : Nat} (R1 : Rel K OW H0 P env σ H ((v, r) :: L)) (hi : i < env.length) (hp : notPl env[i]? = true) (nv : ∀ j, r ≠ .vr j) (np : ∀ ds, r ≠ .pl ds) (hL : ∀ p ∈ L, p.2 ≠ .vr i) (ho : r.own = true → OW i = true) :
    Rel K OW H0 P (env.set i (some r)) (σ.set i (some v)) H L := by
  have nP : ∀ a, P[i]? ≠ some (some a) := fun a e => by
    obtain ⟨_, ds, e2⟩ := R1.par i a e
    rw [e2] at hp; cases hp
  have hσ : i < σ.length := by rw [← R1.len]; exact hi
  have hv := (R1.pend (v, r) List.mem_cons_self).rr nv
  refine ⟨by rw [List.length_set, List.length_set]; exact R1.len, fun j r' e => ?_, fun p m => ?_, fun j k r1 r2 w a b c d e f => ?_, fun j r' w p a b c d e => ?_, (List.pairwise_cons.mp R1.sepL).2, R1.keep, fun j r' a e o f => ?_, fun p m => R1.newL p (List.mem_cons_of_mem _ m), fun j a e => ?_, fun j r' e o => ?_, fun p m => R1.vo p (List.mem_cons_of_mem _ m)⟩
  · rcases get_set e with ⟨rfl, e'⟩ | ⟨ne, e'⟩
    · cases e'
      exact ⟨v, by rw [List.getElem?_set_self hσ], hv⟩
    · obtain ⟨w, e1, e2⟩ := R1.slot j r' e'
      exact ⟨w, by rw [List.getElem?_set_ne (Ne.symm ne)]; exact e1, e2⟩
  · have q := R1.pend p (List.mem_cons_of_mem _ m)
    have hq := hL p m
    obtain ⟨pv, pr⟩ := p
    cases pr with
    | vr j =>
      have nj : i ≠ j := fun z => hq (by rw [z])
      obtain ⟨q1, r1, q2⟩ := q
      exact ⟨by rw [List.getElem?_set_ne nj]; exact q1, r1, by rw [List.getElem?_set_ne nj]; exact q2⟩
    | _ => exact q
  · rcases get_set a with ⟨rfl, a'⟩ | ⟨na, a'⟩ <;> rcases get_set b with ⟨rfl, b'⟩ | ⟨nb, b'⟩
    · rfl
    · cases a'
      rw [List.getElem?_set_self hσ] at e
      rw [List.getElem?_set_ne (Ne.symm nb)] at f
      cases e
      exact absurd rfl (R1.sepP k r2 v (v, r) b' d f List.mem_cons_self c)
    · cases b'
      rw [List.getElem?_set_self hσ] at f
      rw [List.getElem?_set_ne (Ne.symm na)] at e
      cases f
      exact absurd rfl (R1.sepP j r1 v (v, r) a' c e List.mem_cons_self d)
    · rw [List.getElem?_set_ne (Ne.symm na)] at e
      rw [List.getElem?_set_ne (Ne.symm nb)] at f
      exact R1.sepS j k r1 r2 w a' b' c d e f
  · rcases get_set a with ⟨rfl, a'⟩ | ⟨na, a'⟩
    · cases a'
      rw [List.getElem?_set_self hσ] at c
      cases c
      exact fun z => (List.pairwise_cons.mp R1.sepL).1 p d b e z.symm
    · rw [List.getElem?_set_ne (Ne.symm na)] at c
      exact R1.sepP j r' w p a' b c (List.mem_cons_of_mem _ d) e
  · rcases get_set e with ⟨rfl, e'⟩ | ⟨ne, e'⟩
    · cases e'
      rw [List.getElem?_set_self hσ] at f
      cases f
      exact .inl (R1.newL (.ref a, r) List.mem_cons_self o a rfl)
    · rw [List.getElem?_set_ne (Ne.symm ne)] at f
      exact R1.newS j r' a e' o f
  · have ne : j ≠ i := fun z => by subst z; exact nP a e
    obtain ⟨e1, ds, e2⟩ := R1.par j a e
    exact ⟨by rw [List.getElem?_set_ne (Ne.symm ne)]; exact e1, ds, by rw [List.getElem?_set_ne (Ne.symm ne)]; exact e2⟩
  · rcases get_set e with ⟨rfl, e'⟩ | ⟨ne, e'⟩
    · cases e'
      exact ho o
    · exact R1.ow j r' e' o
/-- what may stand in a slot's own place when its thing has changed -/
def R.like : R → R → Bool
  | .ol _, .ol _ => true
  | .pl _, .pl _ => true
  | .oK _, .oK _ => true
  | .oT _, .oT _ => true
  | _, _ => false
theorem R.like_own {r r' : R} (h : r.like r' = true) : r.own = true ∧ r'.own = true := by
  cases r <;> cases r' <;> first | exact ⟨rfl, rfl⟩ | cases h
theorem vr_own {i : Nat} {r : R} (h : r = .vr i) : r.own = false := by subst h; rfl
/-- a slot's own thing has changed -/
theorem Rel.change {i : Nat} {r' : R} {u : HO} (R1 : Rel K OW H0 P env σ H L) (e : env[i]? = some (some r)) (hv : σ[i]? = some (some (.ref a))) (lk : r.like r' = true) (rr : RR K (upd H a u) (.ref a) r') :
    Rel K OW H0 P (env.set i (some r')) σ (upd H a u) L := by
  obtain ⟨o1, o2⟩ := R.like_own lk
  have hi : i < env.length := (List.getElem?_eq_some_iff.mp e).1
  obtain ⟨v0, e0, rr0⟩ := R1.slot i r e
  rw [hv] at e0; cases e0
  obtain ⟨a', u', ea, eh, w⟩ := rr0.ownAt o1
  cases ea
  have k : Kp H (upd H a u) := Kp.write eh w
  have ne : ∀ b o, H0 b = some o → some b ∉ P → b ≠ a := fun b o q n z => by
    subst z
    rcases R1.newS i r b e o1 hv with ⟨q', _⟩ | q'
    · rw [q] at q'; cases q'
    · exact n (List.mem_iff_getElem?.mpr ⟨i, q'⟩)
  refine ⟨by rw [List.length_set]; exact R1.len, fun j r1 ej => ?_, fun p m => ?_, fun j k r1 r2 w a1 b1 c1 d1 e1 f1 => ?_, fun j r1 w p a1 b1 c1 d1 e1 => ?_, R1.sepL, fun b o q n => ?_, fun j r1 b e1 o f => ?_, R1.newL, fun j b e1 => ?_, fun j r1 e1 o => ?_, R1.vo⟩
  · rcases get_set ej with ⟨rfl, e'⟩ | ⟨nj, e'⟩
    · cases e'
      exact ⟨_, hv, rr⟩
    · obtain ⟨w1, e1, e2⟩ := R1.slot j r1 e'
      refine ⟨w1, e1, e2.keep k fun oj b ub eb hb => ?_⟩
      subst eb
      have nb : b ≠ a := fun z => by
        subst z
        exact nj (R1.sepS j i r1 r (.ref b) e' e oj o1 e1 hv)
      rw [upd_ne nb]; exact hb
  · have q := R1.pend p m
    obtain ⟨pv, pr⟩ := p
    by_cases hvr : ∃ j, pr = .vr j
    · obtain ⟨j, rfl⟩ := hvr
      obtain ⟨q1, r1, q2⟩ := q
      by_cases nj : j = i
      · subst nj
        exact ⟨q1, r', by rw [List.getElem?_set_self hi]⟩
      · exact ⟨q1, r1, by rw [List.getElem?_set_ne (Ne.symm nj)]; exact q2⟩
    · refine RP.of ((q.rr fun j z => hvr ⟨j, z⟩).keep k fun oj b ub eb hb => ?_)
      have eb' : pv = .ref b := eb
      subst eb'
      have nb : b ≠ a := fun z => by
        subst z
        exact R1.sepP i r (.ref b) (.ref b, pr) e o1 hv m oj rfl
      rw [upd_ne nb]; exact hb
  · rcases get_set a1 with ⟨rfl, a'⟩ | ⟨na, a'⟩ <;> rcases get_set b1 with ⟨rfl, b'⟩ | ⟨nb, b'⟩
    · rfl
    · exact R1.sepS _ _ r r2 w e b' o1 d1 e1 f1
    · exact R1.sepS _ _ r1 r w a' e c1 o1 e1 f1
    · exact R1.sepS _ _ r1 r2 w a' b' c1 d1 e1 f1
  · rcases get_set a1 with ⟨rfl, a'⟩ | ⟨na, a'⟩
    · exact R1.sepP _ r w p e o1 c1 d1 e1
    · exact R1.sepP _ r1 w p a' b1 c1 d1 e1
  · rw [upd_ne (ne b o q n)]; exact R1.keep b o q n
  · rcases get_set e1 with ⟨rfl, a'⟩ | ⟨na, a'⟩
    · exact R1.newS _ r b e o1 f
    · exact R1.newS _ r1 b a' o f
  · obtain ⟨q1, ds, q2⟩ := R1.par j b e1
    by_cases nj : j = i
    · subst nj
      rw [e] at q2; cases q2
      cases r' <;> first | exact ⟨q1, _, by rw [List.getElem?_set_self hi]⟩ | cases lk
    · exact ⟨q1, ds, by rw [List.getElem?_set_ne (Ne.symm nj)]; exact q2⟩
  · rcases get_set e1 with ⟨rfl, a'⟩ | ⟨na, a'⟩
    · exact R1.ow _ r e o1
    · exact R1.ow j r1 a' o
/-- an own thing that waits has changed (or is told as data from now on) -/
theorem Rel.changeP {r' : R} {u : HO} (R1 : Rel K OW H0 P env σ H ((.ref a, r) :: L)) (o : r.own = true) (rr : RR K (upd H a u) (.ref a) r') :
    Rel K OW H0 P env σ (upd H a u) ((.ref a, r') :: L) := by
  obtain ⟨a', u', ea, eh, w⟩ := (R1.pend _ List.mem_cons_self).ownAt o
  cases ea
  have k : Kp H (upd H a u) := Kp.write eh w
  obtain ⟨hn, hP⟩ := R1.newL _ List.mem_cons_self o a rfl
  have sl := List.pairwise_cons.mp R1.sepL
  have ne : ∀ b o, H0 b = some o → b ≠ a := fun b o q z => by subst z; rw [hn] at q; cases q
  refine ⟨R1.len, fun j r1 ej => ?_, fun p m => ?_, R1.sepS, fun j r1 w p a1 b1 c1 d1 e1 => ?_, List.pairwise_cons.mpr ⟨fun q m o1 o2 => sl.1 q m o o2, sl.2⟩, fun b o q n => ?_, R1.newS, fun p m o1 => ?_, R1.par, R1.ow, fun p m i z => ?_⟩
  · obtain ⟨w1, e1, e2⟩ := R1.slot j r1 ej
    refine ⟨w1, e1, e2.keep k fun oj b ub eb hb => ?_⟩
    subst eb
    have nb : b ≠ a := fun z => by
      subst z
      exact R1.sepP j r1 (.ref b) (.ref b, r) ej oj e1 List.mem_cons_self o rfl
    rw [upd_ne nb]; exact hb
  · rcases List.mem_cons.mp m with rfl | m1
    · exact RP.of rr
    · have q := R1.pend p (List.mem_cons_of_mem _ m1)
      obtain ⟨pv, pr⟩ := p
      by_cases hvr : ∃ j, pr = .vr j
      · obtain ⟨j, rfl⟩ := hvr
        exact q
      · refine RP.of ((q.rr fun j z => hvr ⟨j, z⟩).keep k fun oj b ub eb hb => ?_)
        have eb' : pv = .ref b := eb
        subst eb'
        have nb : b ≠ a := fun z => by
          subst z
          exact sl.1 _ m1 o oj rfl
        rw [upd_ne nb]; exact hb
  · rcases List.mem_cons.mp d1 with rfl | d1
    · exact R1.sepP j r1 w (.ref a, r) a1 b1 c1 List.mem_cons_self o
    · exact R1.sepP j r1 w p a1 b1 c1 (List.mem_cons_of_mem _ d1) e1
  · rw [upd_ne (ne b o q)]; exact R1.keep b o q n
  · rcases List.mem_cons.mp m with rfl | m
    · exact R1.newL (.ref a, r) List.mem_cons_self o
    · exact R1.newL p (List.mem_cons_of_mem _ m) o1
  · rcases List.mem_cons.mp m with rfl | m
    · have z' : r' = .vr i := z
      subst z'
      exact False.elim rr
    · exact R1.vo p (List.mem_cons_of_mem _ m) i z
/-- a slot is forgotten -/
theorem Rel.forget {i : Nat} (R1 : Rel K OW H0 P env σ H L) (hp : notPl env[i]? = true) (hL : ∀ p ∈ L, p.2 ≠ .vr i) : Rel K OW H0 P (env.set i none) σ H L := by
  have g : ∀ {j : Nat} {r : R}, (env.set i none)[j]? = some (some r) → j ≠ i ∧ env[j]? = some (some r) := fun {j r} e => by
    rcases get_set e with ⟨_, z⟩ | z
    · cases z
    · exact z
  refine ⟨by rw [List.length_set]; exact R1.len, fun j r e => R1.slot j r (g e).2, fun p m => ?_, fun j k r1 r2 w a b => R1.sepS j k r1 r2 w (g a).2 (g b).2, fun j r1 w p a => R1.sepP j r1 w p (g a).2, R1.sepL, R1.keep, fun j r1 b e => R1.newS j r1 b (g e).2, R1.newL, fun j b e => ?_, fun j r1 e => R1.ow j r1 (g e).2, R1.vo⟩
  · have q := R1.pend p m
    obtain ⟨pv, pr⟩ := p
    cases pr with
    | vr j =>
      obtain ⟨q1, r1, q2⟩ := q
      have nj : j ≠ i := fun z => hL _ m (by rw [z])
      exact ⟨q1, r1, by rw [List.getElem?_set_ne (Ne.symm nj)]; exact q2⟩
    | _ => exact q
  · obtain ⟨q1, ds, q2⟩ := R1.par j b e
    have nj : j ≠ i := fun z => by subst z; rw [q2] at hp; cases hp
    exact ⟨q1, ds, by rw [List.getElem?_set_ne (Ne.symm nj)]; exact q2⟩
/-- a slot's own thing goes out of it -/
theorem Rel.takeOut {i : Nat} (R1 : Rel K OW H0 P env σ H L) (e : env[i]? = some (some r)) (o : r.own = true) (hv : σ[i]? = some (some v)) (hp : notPl env[i]? = true) (hL : ∀ p ∈ L, p.2 ≠ .vr i) :
    Rel K OW H0 P (env.set i none) σ H ((v, r) :: L) := by
  have R2 := R1.forget hp hL
  obtain ⟨w, e1, rr⟩ := R1.slot i r e
  rw [hv] at e1; cases e1
  refine ⟨R2.len, R2.slot, fun p m => ?_, R2.sepS, fun j r1 w p a b c d f => ?_, List.pairwise_cons.mpr ⟨fun q m _ o2 z => ?_, R2.sepL⟩, R2.keep, R2.newS, fun p m o1 b eb => ?_, R2.par, R2.ow, fun p m j z => ?_⟩
  · rcases List.mem_cons.mp m with rfl | m
    · exact RP.of rr
    · exact R2.pend p m
  · rcases List.mem_cons.mp d with rfl | d
    · rcases get_set a with ⟨_, z⟩ | ⟨nj, a'⟩
      · cases z
      · intro z
        have z' : v = w := z
        subst z'
        exact nj (R1.sepS j i r1 r _ a' e b o c hv)
    · exact R2.sepP j r1 w p a b c d f
  · exact R1.sepP i r v q e o hv m o2 z.symm
  · rcases List.mem_cons.mp m with rfl | m
    · have eb' : v = .ref b := eb
      subst eb'
      rcases R1.newS i r b e o hv with z | z
      · exact z
      · obtain ⟨_, ds, q2⟩ := R1.par i b z
        rw [q2] at hp; cases hp
    · exact R2.newL p m o1 b eb
  · rcases List.mem_cons.mp m with rfl | m
    · have z' : r = .vr j := z
      subst z'
      cases o
    · exact R2.vo p m j z
end
/-! ### slots that don't matter; another entry -/
section
variable {K : PySem.W.Frag} {OW : Nat → Bool} {H0 G0 H H' : Hp} {P : List (Option Addr)} {env : En} {σ σ' : L2.St} {L : Pe} {v : V} {r : R}
/-- values of slots that are told of -/
theorem Rel.agree (R1 : Rel K OW H0 P env σ H L) (hl : σ'.length = σ.length) (h : ∀ (i : Nat) (r : R), env[i]? = some (some r) → σ'[i]? = σ[i]?) : Rel K OW H0 P env σ' H L := by
  refine ⟨by rw [hl]; exact R1.len, fun i r e => ?_, fun p m => ?_, fun i j r r' v a b c d e f => ?_, fun i r v p a b c => ?_, R1.sepL, R1.keep, fun i r a e o f => ?_, R1.newL, fun i a e => ?_, R1.ow, R1.vo⟩
  · rw [h i r e]; exact R1.slot i r e
  · have q := R1.pend p m
    obtain ⟨pv, pr⟩ := p
    cases pr with
    | vr j =>
      obtain ⟨q1, r1, q2⟩ := q
      exact ⟨by rw [h j r1 q2]; exact q1, r1, q2⟩
    | _ => exact q
  · rw [h i r a] at e
    rw [h j r' b] at f
    exact R1.sepS i j r r' v a b c d e f
  · rw [h i r a] at c
    exact R1.sepP i r v p a b c
  · rw [h i r e] at f
    exact R1.newS i r a e o f
  · obtain ⟨q1, ds, q2⟩ := R1.par i a e
    exact ⟨by rw [h i _ q2]; exact q1, ds, q2⟩
/-- an entry of which less is known -/
theorem Rel.lessBase (R1 : Rel K OW G0 P env σ H L) (h1 : ∀ a o, H0 a = some o → some a ∉ P → G0 a = some o) (h2 : ∀ a, G0 a = none → H0 a = none) : Rel K OW H0 P env σ H L :=
  ⟨R1.len, R1.slot, R1.pend, R1.sepS, R1.sepP, R1.sepL, fun a o q n => R1.keep a o (h1 a o q n) n, fun i r a e o f => (R1.newS i r a e o f).imp (fun z => ⟨h2 a z.1, z.2⟩) id, fun p m o a e => ⟨h2 a (R1.newL p m o a e).1, (R1.newL p m o a e).2⟩, R1.par, R1.ow, R1.vo⟩
open Classical in
/-- the entry, with what is frozen, what is a tuple by now -/
noncomputable def baseOf (H0 H : Hp) : Hp := fun a => if (∃ xs, H a = some (.tup xs)) ∨ (∃ o u, H a = some (.frz o u)) then H a else H0 a
theorem baseOf_at {a : Addr} (h : (∃ xs, H a = some (.tup xs)) ∨ (∃ o u, H a = some (.frz o u))) : baseOf H0 H a = H a := if_pos h
theorem baseOf_not {a : Addr} (h : ¬ ((∃ xs, H a = some (.tup xs)) ∨ (∃ o u, H a = some (.frz o u)))) : baseOf H0 H a = H0 a := if_neg h
theorem wr_not {a : Addr} {u : HO} (h : H a = some u) (w : Wr u) : ¬ ((∃ xs, H a = some (.tup xs)) ∨ (∃ o u, H a = some (.frz o u))) := by
  rintro (⟨xs, e⟩ | ⟨o, x, e⟩) <;> (rw [h] at e; cases e; exact w)
theorem Rel.moreBase (R1 : Rel K OW H0 P env σ H L) : Rel K OW (baseOf H0 H) P env σ H L := by
  refine ⟨R1.len, R1.slot, R1.pend, R1.sepS, R1.sepP, R1.sepL, fun a o q n => ?_, fun i r a e o f => ?_, fun p m o a e => ?_, R1.par, R1.ow, R1.vo⟩
  · by_cases c : (∃ xs, H a = some (.tup xs)) ∨ (∃ o u, H a = some (.frz o u))
    · rw [baseOf_at c] at q; exact q
    · rw [baseOf_not c] at q; exact R1.keep a o q n
  · obtain ⟨w, e1, rr⟩ := R1.slot i r e
    rw [f] at e1; cases e1
    obtain ⟨b, u, eb, hb, wr⟩ := rr.ownAt o
    cases eb
    rw [baseOf_not (wr_not hb wr)]
    exact R1.newS i r a e o f
  · obtain ⟨b, u, eb, hb, wr⟩ := (R1.pend p m).ownAt o
    rw [e] at eb; cases eb
    rw [baseOf_not (wr_not hb wr)]
    exact R1.newL p m o a e
theorem Rel.backBase (R0 : Rel K OW H0 P env σ H L) {env' : En} {σ' : L2.St} {L' : Pe} (R1 : Rel K OW (baseOf H0 H) P env' σ' H' L') : Rel K OW H0 P env' σ' H' L' := by
  refine R1.lessBase (fun a o q n => ?_) fun a q => ?_
  · by_cases c : (∃ xs, H a = some (.tup xs)) ∨ (∃ o u, H a = some (.frz o u))
    · rw [baseOf_at c]; exact R0.keep a o q n
    · rw [baseOf_not c]; exact q
  · by_cases c : (∃ xs, H a = some (.tup xs)) ∨ (∃ o u, H a = some (.frz o u))
    · rw [baseOf_at c] at q
      rcases c with ⟨xs, e⟩ | ⟨o, u, e⟩ <;> (rw [q] at e; cases e)
    · rw [baseOf_not c] at q; exact q
/-- what was frozen, what was a tuple at the entry, is so still -/
theorem Rel.kpBase (R1 : Rel K OW (baseOf H0 H) P env σ H' L) (hP : ∀ a, some a ∈ P → ¬ ((∃ xs, H a = some (.tup xs)) ∨ (∃ o u, H a = some (.frz o u)))) : Kp H H' :=
  ⟨fun a xs e => R1.keep a _ ((baseOf_at (.inl ⟨xs, e⟩)).trans e) fun m => hP a m (.inl ⟨xs, e⟩), fun a o u e => R1.keep a _ ((baseOf_at (.inr ⟨o, u, e⟩)).trans e) fun m => hP a m (.inr ⟨o, u, e⟩)⟩
theorem Rel.parNot (R1 : Rel K OW H0 P env σ H L) : ∀ a, some a ∈ P → ¬ ((∃ xs, H a = some (.tup xs)) ∨ (∃ o u, H a = some (.frz o u))) := fun a m => by
  obtain ⟨i, e⟩ := List.mem_iff_getElem?.mp m
  obtain ⟨q1, ds, q2⟩ := R1.par i a e
  obtain ⟨w, e1, b, vs, e2, e3, _⟩ := R1.slot i _ q2
  rw [q1] at e1; cases e1
  cases e2
  exact wr_not e3 trivial
end
end Pw

set_option Elab.async false
set_option linter.all false
set_option maxRecDepth 100000
set_option maxHeartbeats 2000000
/-! Pw: programs over slots, and what it means that a piece of Python does as such a program. -/
namespace Pw
open PySem PySem.Spec PyProof.Rows L2

/-- an own exception: its class's name, its attributes -/
structure Ex where
  cls : Str
  fs : List (Str × D)
/-- what a program over slots ends with -/
inductive Res (α : Type) where
  | st
  | ok (a : α) (e : En)
  | ex (x : Ex) (e : En)
abbrev ME := En → Res R
abbrev MT := En → Res Bool
abbrev MA := En → Res (List R)
def Res.bind {α β : Type} (r : Res α) (f : α → En → Res β) : Res β := match r with
  | .st => .st
  | .ok a e => f a e
  | .ex x e => .ex x e

def RX (mg : Str → Option Value) (H : Hp) (x : Ex) (c : Value) (d : Option Addr) : Prop :=
  mg x.cls = some c ∧ ∃ dd fs, d = some dd ∧ H dd = some (.xd fs) ∧ Paired (fun (p : Str × V) (q : Str × D) => p.1 = q.1 ∧ RD H p.2 q.2) fs x.fs
/-- what stands still in a body: the written part, the module's names, what is wanted of exceptions, the slots that may hold own things -/
structure Cy where
  K : PySem.W.Frag
  mg : Str → Option Value
  W : WX
  OW : Nat → Bool
section
variable (C : Cy)
/-- an end that is wanted: a value (f tells of it), or an exception -/
def Sat {α : Type} (H0 : Hp) (P : List (Option Addr)) (σ : L2.St) (L : Pe) (o : Res α) (f : α → En → Prop) : Prop := match o with
  | .st => False
  | .ok a e => f a e
  | .ex x e => ∀ c d H', Rel C.K C.OW H0 P e σ H' L → RX C.mg H' x c d → C.W c d σ H'
def okE (H0 : Hp) (P : List (Option Addr)) (σ : L2.St) (L : Pe) (Q : VK) : R → En → Prop := fun r e => ∀ v H', Rel C.K C.OW H0 P e σ H' ((v, r) :: L) → Q v H'
def okT (H0 : Hp) (P : List (Option Addr)) (σ : L2.St) (L : Pe) (Q : Bool → Hp → Prop) : Bool → En → Prop := fun b e => ∀ H', Rel C.K C.OW H0 P e σ H' L → Q b H'
def okA (H0 : Hp) (P : List (Option Addr)) (σ : L2.St) (L : Pe) (Q : List V → Hp → Prop) : List R → En → Prop := fun rs e => ∀ vs H', vs.length = rs.length → Rel C.K C.OW H0 P e σ H' (vs.zip rs ++ L) → Q vs H'
def tD (m : ME) : TE := fun σ H Q => ∃ H0 P env L, Rel C.K C.OW H0 P env σ H L ∧ Sat C H0 P σ L (m env) (okE C H0 P σ L Q)
def tT (m : MT) : TT := fun σ H Q => ∃ H0 P env L, Rel C.K C.OW H0 P env σ H L ∧ Sat C H0 P σ L (m env) (okT C H0 P σ L Q)
def tA (m : MA) : TA := fun σ H Q => ∃ H0 P env L, Rel C.K C.OW H0 P env σ H L ∧ Sat C H0 P σ L (m env) (okA C H0 P σ L Q)
end
section
variable {C : Cy} {H0 : Hp} {P : List (Option Addr)} {σ : L2.St} {L L' : Pe} {α β : Type}
theorem Sat.mono {o : Res α} {f g : α → En → Prop} (h : Sat C H0 P σ L o f) (k : ∀ a e, o = .ok a e → f a e → g a e) : Sat C H0 P σ L o g := by
  cases o with
  | st => exact h
  | ok a e => exact k a e rfl h
  | ex x e => exact h
theorem Sat.bind {o : Res α} {h : α → En → Res β} {f : β → En → Prop} (s : Sat C H0 P σ L (o.bind h) f) : Sat C H0 P σ L o fun a e => Sat C H0 P σ L (h a e) f := by
  cases o with
  | st => exact s
  | ok a e => exact s
  | ex x e => exact s
/-- fewer things wait -/
theorem Sat.wait {o : Res α} {f : α → En → Prop} (s : Sat C H0 P σ L o f) (k : ∀ e H, Rel C.K C.OW H0 P e σ H L' → Rel C.K C.OW H0 P e σ H L) : Sat C H0 P σ L' o f := by
  cases o with
  | st => exact s
  | ok a e => exact s
  | ex x e => exact fun c d H' r => s c d H' (k e H' r)
end
abbrev cy (X : Cx) (W : WX) (OW : Nat → Bool) : Cy := ⟨X.K, X.mg, W, OW⟩
section
variable {X : Cx} {W : WX} {OW : Nat → Bool} {e a b c : Expr} {te : TE} {tt : TT} {ta : TA} {m ma mb mc : ME} {pos : Pos}
abbrev DE (X : Cx) (W : WX) (OW : Nat → Bool) (e : Expr) (m : ME) : Prop := PE X e (tD (cy X W OW) m)
abbrev DT (X : Cx) (W : WX) (OW : Nat → Bool) (e : Expr) (m : MT) : Prop := PT X e (tT (cy X W OW) m)
abbrev DW (X : Cx) (W : WX) (OW : Nat → Bool) (e : Expr) (m : MT) : Prop := PW X e (tT (cy X W OW) m)
abbrev DA (X : Cx) (W : WX) (OW : Nat → Bool) (es : List Expr) (m : MA) : Prop := PA X es (tA (cy X W OW) m)
theorem pe_le (h : PE X e te) (k : ∀ σ H Q, tD (cy X W OW) m σ H Q → te σ H Q) : DE X W OW e m := ⟨fun pins s σ H Q I q => h.run pins s σ H Q I (k σ H Q q)⟩
theorem pt_le {m : MT} (h : PT X e tt) (k : ∀ σ H Q, tT (cy X W OW) m σ H Q → tt σ H Q) : DT X W OW e m := ⟨fun pins s σ H Q I q => h.run pins s σ H Q I (k σ H Q q)⟩
theorem pw_le {m : MT} (h : PW X e tt) (k : ∀ σ H Q, tT (cy X W OW) m σ H Q → tt σ H Q) : DW X W OW e m := ⟨fun wh pins s σ H Q I q => h.run wh pins s σ H Q I (k σ H Q q)⟩
theorem pa_le {es : List Expr} {m : MA} (h : PA X es ta) (k : ∀ σ H Q, tA (cy X W OW) m σ H Q → ta σ H Q) : DA X W OW es m := ⟨fun pos pins s σ H Q I q => h.run pos pins s σ H Q I (k σ H Q q)⟩

/-! ### a heap's own list becomes data -/
theorem wr_obj {P : Program} {w : World} {H : Hp} {h : Heap} {a : Addr} {u : HO} (k : ObjOk P w H h a u) (wr : Wr u) : ∃ o, h.get? a = some o := by
  cases u with
  | lst xs => obtain ⟨_, _, _, _, e⟩ := k; exact ⟨_, e⟩
  | dK kvs => obtain ⟨_, _, _, _, o, _, _, e, _⟩ := k; exact ⟨o, e⟩
  | dT kvs => obtain ⟨_, _, _, _, o, _, _, e, _⟩ := k; exact ⟨o, e⟩
  | _ => exact wr.elim
theorem wr_ne {H : Hp} {a b : Addr} {u o : HO} (h : H a = some u) (wr : Wr u) (h' : H b = some o) (n : ¬ Wr o) : b ≠ a := fun z => by
  subst z
  rw [h] at h'
  cases h'
  exact n wr
theorem inv_freeze {pins : List (Addr × Obj)} {σ : L2.St} {H : Hp} {s : Shared} {a : Addr} {u : HO} (I : Inv X pins σ H s) (h : H a = some u) (wr : Wr u) :
    ∃ o, Inv X pins σ (upd H a (.frz o u)) s := by
  obtain ⟨o, e⟩ := wr_obj (I.hok a u h) wr
  have nn : ∀ {b : Addr}, H b = none → b ≠ a := fun q => ne_of_none h q |>.symm
  have kn : ∀ {b : Addr}, H b = none → (upd H a (.frz o u)) b = none := fun q => by rw [upd_ne (nn q)]; exact q
  have kb : ∀ {b : Addr} {x : HO}, H b = some x → ¬ Wr x → (upd H a (.frz o u)) b = some x := fun q n => by rw [upd_ne (wr_ne h wr q n)]; exact q
  have stay : ∀ {b : Addr} {x : HO}, ObjOk X.prog X.w H s.heap b x → ObjOk X.prog X.w (upd H a (.frz o u)) s.heap b x := fun q =>
    q.stay (fun _ _ _ z => z) (fun b z => kb z (fun w => w)) (fun b xs z => kb z (fun w => w))
  refine ⟨o, ⟨I.ok, I.os, I.bare, ⟨I.base.keep, I.base.slot, fun b ob q n x => kn (I.base.free b ob q n x), I.base.there, fun b xs q => kb (I.base.tups b xs q) (fun w => w), fun b ob x q => kb (I.base.frzs b ob x q) (fun w => w), fun b ps q => ?_⟩,
    I.loc, I.cell, kn I.free, fun x c q => kn (I.freeC x c q), fun p hp => ?_, fun b x q => ?_, I.len⟩⟩
  · obtain ⟨more, z⟩ := I.base.tbls b ps q
    exact ⟨more, kb z (fun w => w)⟩
  · obtain ⟨z1, z2, z3⟩ := I.pin p hp
    exact ⟨z1, kn z2, z3⟩
  · by_cases hb : b = a
    · subst hb
      rw [upd_same] at q
      cases q
      exact ⟨e, stay (I.hok b u h)⟩
    · rw [upd_ne hb] at q
      exact stay (I.hok b x q)

/-! ### names, constants -/
def mVar (i : Nat) : ME := fun env => match env[i]? with
  | some (some r) => if r.own = true then .ok (.vr i) env else .ok r env
  | _ => .st
theorem de_var (i : Nat) {x : Str} (hN : X.N[i]? = some x := by rfl) (hv : Vis X.env.scope x := by first | exact Or.inl rfl | exact Or.inr (Or.inl rfl) | exact Or.inr (Or.inr rfl)) (hd : (x == ("__debug__" : Str)) = false := by decide)
    (hcd : (x == ("__classdict__" : Str)) = false := by decide) : DE X W OW (.Name x pos) (mVar i) := by
  refine pe_le (pe_var hN hv hd hcd) fun σ H Q ⟨H0, P, env, L, Rl, S⟩ => ?_
  unfold mVar at S
  cases q : env[i]? with
  | none => rw [q] at S; exact S.elim
  | some o =>
    cases o with
    | none => rw [q] at S; exact S.elim
    | some r =>
      rw [q] at S
      obtain ⟨v, e1, rr⟩ := Rl.slot i r q
      dsimp only at S
      by_cases ho : r.own = true
      · rw [if_pos ho] at S
        exact ⟨v, e1, S v H (Rl.put (r := .vr i) ⟨e1, r, q⟩ rfl fun j z => by cases z; exact Rl.ow i r q ho)⟩
      · rw [if_neg ho] at S
        exact ⟨v, e1, S v H (Rl.put (RP.of rr) (by simpa using ho) fun j z => by subst z; exact False.elim rr)⟩
def mC (d : D) : ME := fun env => .ok (.d d) env
theorem de_c {v : V} {d : D} (h : PE X e (tC v)) (r : ∀ H, RD H v d) : DE X W OW e (mC d) := pe_le h fun σ H Q ⟨H0, P, env, L, Rl, S⟩ => S v H (Rl.put (r := .d d) (r H) rfl)
theorem de_int {i : Int} {j} : DE X W OW (.Constant (.int i) j pos) (mC (.int i)) := de_c pe_int fun _ => .int i
theorem de_str {x : Str} {j} : DE X W OW (.Constant (.str x) j pos) (mC (.str x)) := de_c pe_str fun _ => .str x
theorem de_bl {b : Bool} {j} : DE X W OW (.Constant (.bool b) j pos) (mC (.bool b)) := de_c pe_bl fun _ => .bl b
theorem de_non {j} : DE X W OW (.Constant .none j pos) (mC .none) := de_c pe_non fun _ => .non
/-- a module's constant -/
theorem de_gI {x : Str} {i : Int} {t : Tok} (hm : X.mg x = some (.int i t)) (hg : Gl X x := by rfl) (hd : (x == ("__debug__" : Str)) = false := by decide) : DE X W OW (.Name x pos) (mC (.int i)) := de_c (v := .int i) (pe_glob hg hm ⟨t, rfl⟩ hd) fun _ => .int i
theorem de_gS {x y : Str} {t : Tok} (hm : X.mg x = some (.str y t)) (hg : Gl X x := by rfl) (hd : (x == ("__debug__" : Str)) = false := by decide) : DE X W OW (.Name x pos) (mC (.str y)) := de_c (v := .str y) (pe_glob hg hm ⟨t, rfl⟩ hd) fun _ => .str y

/-! ### own things told as data: frozen -/
def keyD (k : List Key) : D := .tuple (k.map kD)
/-- what an own thing is told as -/
def R.froz : R → Option D
  | .ol xs => some (.list xs)
  | .oK kvs => some (.dict (kvs.map fun p => (kD p.1, p.2)))
  | .oT kvs => some (.dict (kvs.map fun p => (keyD p.1, p.2)))
  | _ => none
def mFrz (m : ME) : ME := fun env => (m env).bind fun r e => match r with
  | .vr i => match e[i]? with
    | some (some r') => match r'.froz with
      | some d => .ok (.d d) (e.set i (some (.d d)))
      | none => .st
    | _ => .st
  | .d x => .ok (.d x) e
  | .kl _ => .st
  | .pl _ => .st
  | r => match r.froz with
    | some d => .ok (.d d) e
    | none => .st
theorem RDK.rdk {H : Hp} : ∀ {l : List (Key × V)} {m : List (Key × D)}, RDK H l m → RDk H l (m.map fun p => (kD p.1, p.2))
  | _, _, .nil => .nil
  | (k, v) :: l, (k', d) :: m, .cons r t => by
    obtain ⟨e, r⟩ := r
    have e' : k = k' := e
    subst e'
    exact .cons r (RDK.rdk t)
theorem RDT.rdt {H : Hp} : ∀ {l : List (List Key × V)} {m : List (List Key × D)}, RDT H l m → RDt H l (m.map fun p => (keyD p.1, p.2))
  | _, _, .nil => .nil
  | (k, v) :: l, (k', d) :: m, .cons r t => by
    obtain ⟨e, r⟩ := r
    have e' : k = k' := e
    subst e'
    exact .cons r (RDT.rdt t)
theorem RR.froz {K : PySem.W.Frag} {H : Hp} {v : V} {r : R} {d : D} (h : RR K H v r) (e : r.froz = some d) : ∃ a u, v = .ref a ∧ H a = some u ∧ Wr u ∧ r.own = true ∧ ∀ o, RD (upd H a (.frz o u)) (.ref a) d := by
  cases r with
  | ol xs =>
    obtain ⟨a, vs, e1, e2, rr⟩ := h
    cases e
    exact ⟨a, _, e1, e2, trivial, rfl, fun o => .lst upd_same (rr.kp (Kp.write e2 trivial))⟩
  | oK kvs =>
    obtain ⟨a, vs, e1, e2, rr⟩ := h
    cases e
    exact ⟨a, _, e1, e2, trivial, rfl, fun o => .dK upd_same (RDK.rdk (rr.kp (Kp.write e2 trivial)))⟩
  | oT kvs =>
    obtain ⟨a, vs, e1, e2, rr⟩ := h
    cases e
    exact ⟨a, _, e1, e2, trivial, rfl, fun o => .dT upd_same (RDT.rdt (rr.kp (Kp.write e2 trivial)))⟩
  | _ => cases e
/-- a slot's own thing is frozen where it stands -/
theorem Rel.freeze {K : PySem.W.Frag} {OW : Nat → Bool} {H0 H : Hp} {P : List (Option Addr)} {env : En} {σ : L2.St} {L : Pe} {i : Nat} {v : V} {r : R} {d : D} (R1 : Rel K OW H0 P env σ H L) (e : env[i]? = some (some r)) (hv : σ[i]? = some (some v)) (hf : r.froz = some d) :
    ∃ a u, v = .ref a ∧ H a = some u ∧ Wr u ∧ ∀ o, Rel K OW H0 P (env.set i (some (.d d))) σ (upd H a (.frz o u)) ((v, .d d) :: L) := by
  obtain ⟨v', e1, rr⟩ := R1.slot i r e
  rw [hv] at e1; cases e1
  obtain ⟨a, u, rfl, eh, wr, ow, rd⟩ := rr.froz hf
  have np : notPl env[i]? = true := by
    rw [e]
    cases r <;> first | rfl | cases hf
  refine ⟨a, u, rfl, eh, wr, fun o => ?_⟩
  have k : Kp H (upd H a (.frz o u)) := Kp.write eh wr
  have rd' : RR K (upd H a (.frz o u)) (.ref a) (.d d) := rd o
  have hi : i < env.length := (List.getElem?_eq_some_iff.mp e).1
  have g : ∀ {j : Nat} {r1 : R}, (env.set i (some (R.d d)))[j]? = some (some r1) → (j = i ∧ r1 = .d d) ∨ (j ≠ i ∧ env[j]? = some (some r1)) := fun {j r1} q => by
    rcases get_set q with ⟨z, y⟩ | ⟨z, y⟩
    · exact .inl ⟨z, Option.some.inj y⟩
    · exact .inr ⟨z, y⟩
  have ne : ∀ b o, H0 b = some o → some b ∉ P → b ≠ a := fun b o q n z => by
    subst z
    rcases R1.newS i r b e ow hv with ⟨q', _⟩ | q'
    · rw [q] at q'; cases q'
    · exact n (List.mem_iff_getElem?.mpr ⟨i, q'⟩)
  have nd : (R.d d).own = false := rfl
  refine ⟨by rw [List.length_set]; exact R1.len, fun j r1 q => ?_, fun p m => ?_, fun j l r1 r2 w q1 q2 o1 o2 => ?_, fun j r1 w p q1 o1 c1 d1 e1 => ?_, List.pairwise_cons.mpr ⟨fun q _ z => ?_, R1.sepL⟩, fun b o q n => ?_, fun j r1 b q1 o1 => ?_, fun p m o1 => ?_, fun j b q1 => ?_, fun j r1 q1 o1 => ?_, fun p m j z => ?_⟩
  · rcases g q with ⟨rfl, rfl⟩ | ⟨nj, q⟩
    · exact ⟨_, hv, rd'⟩
    · obtain ⟨w1, e1, e2⟩ := R1.slot j r1 q
      refine ⟨w1, e1, e2.keep k fun oj b ub eb hb => ?_⟩
      subst eb
      have nb : b ≠ a := fun z => by
        subst z
        exact nj (R1.sepS j i r1 r (.ref b) q e oj ow e1 hv)
      rw [upd_ne nb]; exact hb
  · rcases List.mem_cons.mp m with rfl | m1
    · exact RP.of rd'
    · have q := R1.pend p m1
      obtain ⟨pv, pr⟩ := p
      by_cases hvr : ∃ j, pr = .vr j
      · obtain ⟨j, rfl⟩ := hvr
        obtain ⟨q1, r1, q2⟩ := q
        by_cases nj : j = i
        · subst nj
          exact ⟨q1, .d d, by rw [List.getElem?_set_self hi]⟩
        · exact ⟨q1, r1, by rw [List.getElem?_set_ne (Ne.symm nj)]; exact q2⟩
      · refine RP.of ((q.rr fun j z => hvr ⟨j, z⟩).keep k fun oj b ub eb hb => ?_)
        have eb' : pv = .ref b := eb
        subst eb'
        have nb : b ≠ a := fun z => by
          subst z
          exact R1.sepP i r (.ref b) (.ref b, pr) e ow hv m1 oj rfl
        rw [upd_ne nb]; exact hb
  · rcases g q1 with ⟨rfl, rfl⟩ | ⟨_, q1⟩
    · cases o1
    · rcases g q2 with ⟨rfl, rfl⟩ | ⟨_, q2⟩
      · cases o2
      · exact R1.sepS j l r1 r2 w q1 q2 o1 o2
  · rcases List.mem_cons.mp d1 with rfl | d1
    · cases e1
    · rcases g q1 with ⟨rfl, rfl⟩ | ⟨_, q1⟩
      · cases o1
      · exact R1.sepP j r1 w p q1 o1 c1 d1 e1
  · cases z
  · rw [upd_ne (ne b o q n)]; exact R1.keep b o q n
  · rcases g q1 with ⟨rfl, rfl⟩ | ⟨_, q1⟩
    · cases o1
    · exact R1.newS j r1 b q1 o1
  · rcases List.mem_cons.mp m with rfl | m
    · cases o1
    · exact R1.newL p m o1
  · obtain ⟨z1, ds, z2⟩ := R1.par j b q1
    have nj : j ≠ i := fun z => by
      subst z
      rw [z2] at np; cases np
    exact ⟨z1, ds, by rw [List.getElem?_set_ne (Ne.symm nj)]; exact z2⟩
  · rcases g q1 with ⟨rfl, rfl⟩ | ⟨_, q1⟩
    · cases o1
    · exact R1.ow j r1 q1 o1
  · rcases List.mem_cons.mp m with rfl | m
    · cases z
    · exact R1.vo p m j z
theorem de_frz (h : DE X W OW e m) : DE X W OW e (mFrz m) := by
  refine ⟨fun pins s σ H Q I ⟨H0, P, env, L, Rl, S⟩ => ?_⟩
  refine thn (h.run pins s σ H (fun v H1 => ∃ r e1, Rel X.K OW H0 P e1 σ H1 ((v, r) :: L) ∧ _) I ⟨H0, P, env, L, Rl, S.bind.mono fun r e1 _ S1 v H1 R1 => ⟨r, e1, R1, S1⟩⟩) fun u s1 ⟨v, H1, I1, rv, r, e1, R1, S1⟩ => ?_
  have fin : ∀ {x : R}, Sat (cy X W OW) H0 P σ L (.ok x e1) (okE (cy X W OW) H0 P σ L Q) → (r = x) → EP X pins σ Q u s1 := fun {x} q z => by
    subst z
    exact ⟨v, H1, I1, rv, q v H1 R1⟩
  cases r with
  | d x => exact fin S1 rfl
  | kl x => exact S1.elim
  | pl x => exact S1.elim
  | vr i =>
    obtain ⟨hv, r', hr⟩ := R1.pend _ List.mem_cons_self
    simp only [hr] at S1
    cases hf : r'.froz with
    | none => rw [hf] at S1; exact S1.elim
    | some d =>
      rw [hf] at S1
      obtain ⟨a, u', ea, eh, wr, go⟩ := R1.drop.freeze hr hv hf
      obtain ⟨o, I2⟩ := inv_freeze I1 eh wr
      exact ⟨v, _, I2, rv, S1 v _ (go o)⟩
  | ol x =>
    have rr : RR X.K H1 v (.ol x) := R1.pend (v, .ol x) List.mem_cons_self
    obtain ⟨a, u', ea, eh, wr, ow, go⟩ := rr.froz (d := .list x) rfl
    subst ea
    obtain ⟨o, I2⟩ := inv_freeze I1 eh wr
    exact ⟨.ref a, _, I2, rv, S1 _ _ (R1.changeP (r' := .d (.list x)) ow (go o))⟩
  | oK x =>
    have rr : RR X.K H1 v (.oK x) := R1.pend (v, .oK x) List.mem_cons_self
    obtain ⟨a, u', ea, eh, wr, ow, go⟩ := rr.froz (d := .dict (x.map fun p => (kD p.1, p.2))) rfl
    subst ea
    obtain ⟨o, I2⟩ := inv_freeze I1 eh wr
    exact ⟨.ref a, _, I2, rv, S1 _ _ (R1.changeP (r' := .d (.dict (x.map fun (p : Key × D) => (kD p.1, p.2)))) (u := .frz o u') ow (go o))⟩
  | oT x =>
    have rr : RR X.K H1 v (.oT x) := R1.pend (v, .oT x) List.mem_cons_self
    obtain ⟨a, u', ea, eh, wr, ow, go⟩ := rr.froz (d := .dict (x.map fun p => (keyD p.1, p.2))) rfl
    subst ea
    obtain ⟨o, I2⟩ := inv_freeze I1 eh wr
    exact ⟨.ref a, _, I2, rv, S1 _ _ (R1.changeP (r' := .d (.dict (x.map fun (p : List Key × D) => (keyD p.1, p.2)))) (u := .frz o u') ow (go o))⟩
end
end Pw

set_option Elab.async false
set_option linter.all false
set_option maxRecDepth 100000
set_option maxHeartbeats 2000000
/-! Pw: things looked at as data; argument lists, displays; operations by values. -/
namespace Pw
open PySem PySem.Spec PyProof.Rows L2

/-- what a slot's thing is as data (kl: lists that are read alone, too) -/
def R.dat0 (kl : Bool) : R → Option D
  | .d x => some x
  | .ol xs => some (.list xs)
  | .pl xs => some (.list xs)
  | .kl xs => if kl = true then some (.list xs) else none
  | .oK kvs => some (.dict (kvs.map fun p => (kD p.1, p.2)))
  | .oT kvs => some (.dict (kvs.map fun p => (keyD p.1, p.2)))
  | .vr _ => none
def R.dat (kl : Bool) (env : En) : R → Option D
  | .vr i => match env[i]? with
    | some (some r) => r.dat0 kl
    | _ => none
  | r => r.dat0 kl
def DV (K : PySem.W.Frag) (kl : Bool) (H : Hp) (v : V) : D → Prop
  | .none => v = .non
  | .bool b => v = .bl b
  | .int i => v = .int i
  | .str x => v = .str x
  | .list ds => ∃ a vs, v = .ref a ∧ (Rd H a (.lst vs) ∨ (kl = true ∧ KL K H a vs)) ∧ RDs H vs ds
  | .tuple ds => ∃ a vs, v = .ref a ∧ H a = some (.tup vs) ∧ RDs H vs ds
  | .dict ds => ∃ a, v = .ref a ∧ ((∃ ws m, Rd H a (.dK ws) ∧ RDK H ws m ∧ ds = m.map fun (p : Key × D) => (kD p.1, p.2)) ∨ ∃ ws m, Rd H a (.dT ws) ∧ RDT H ws m ∧ ds = m.map fun (p : List Key × D) => (keyD p.1, p.2))
def DVs (K : PySem.W.Frag) (kl : Bool) (H : Hp) : List V → List D → Prop := Paired (DV K kl H)
theorem RDk.ex {H : Hp} : ∀ {l : List (Key × V)} {ds : List (D × D)}, RDk H l ds → ∃ m, RDK H l m ∧ ds = m.map fun (p : Key × D) => (kD p.1, p.2)
  | _, _, .nil => ⟨[], .nil, rfl⟩
  | _, _, .cons (k := k) (d := d) r t => by
    obtain ⟨m, h, e⟩ := RDk.ex t
    exact ⟨(k, d) :: m, .cons ⟨rfl, r⟩ h, by rw [e] <;> rfl⟩
theorem RDt.ex {H : Hp} : ∀ {l : List (List Key × V)} {ds : List (D × D)}, RDt H l ds → ∃ m, RDT H l m ∧ ds = m.map fun (p : List Key × D) => (keyD p.1, p.2)
  | _, _, .nil => ⟨[], .nil, rfl⟩
  | _, _, .cons (k := k) (d := d) r t => by
    obtain ⟨m, h, e⟩ := RDt.ex t
    exact ⟨(k, d) :: m, .cons ⟨rfl, r⟩ h, by rw [e] <;> rfl⟩
section
variable {K : PySem.W.Frag} {OW : Nat → Bool} {kl : Bool} {H0 H H' : Hp} {P : List (Option Addr)} {env : En} {σ : L2.St} {L : Pe} {v : V} {r : R} {d : D}
theorem RD.dv (h : RD H v d) : DV K kl H v d := by
  cases h with
  | non => exact rfl
  | bl b => exact rfl
  | int i => exact rfl
  | str x => exact rfl
  | lst e r => exact ⟨_, _, rfl, .inl (.inr ⟨_, e⟩), r⟩
  | tup e r => exact ⟨_, _, rfl, e, r⟩
  | dK e r =>
    obtain ⟨m, h1, h2⟩ := r.ex
    exact ⟨_, rfl, .inl ⟨_, m, .inr ⟨_, e⟩, h1, h2⟩⟩
  | dT e r =>
    obtain ⟨m, h1, h2⟩ := r.ex
    exact ⟨_, rfl, .inr ⟨_, m, .inr ⟨_, e⟩, h1, h2⟩⟩
theorem RR.dv (h : RR K H v r) (e : r.dat0 kl = some d) : DV K kl H v d := by
  cases r with
  | d x => cases e; exact RD.dv h
  | ol x => cases e; obtain ⟨a, vs, e1, e2, e3⟩ := h; exact ⟨a, vs, e1, .inl (.inl e2), e3⟩
  | pl x => cases e; obtain ⟨a, vs, e1, e2, e3⟩ := h; exact ⟨a, vs, e1, .inl (.inl e2), e3⟩
  | oK x => cases e; obtain ⟨a, vs, e1, e2, e3⟩ := h; exact ⟨a, e1, .inl ⟨vs, x, .inl e2, e3, rfl⟩⟩
  | oT x => cases e; obtain ⟨a, vs, e1, e2, e3⟩ := h; exact ⟨a, e1, .inr ⟨vs, x, .inl e2, e3, rfl⟩⟩
  | vr i => cases e
  | kl x =>
    obtain ⟨a, vs, e1, e2, e3⟩ := h
    cases kl with
    | false => cases e
    | true => cases e; exact ⟨a, vs, e1, .inr ⟨rfl, e2⟩, e3⟩
theorem Rel.dv (R1 : Rel K OW H0 P env σ H L) (m : (v, r) ∈ L) (e : r.dat kl env = some d) : DV K kl H v d := by
  have q := R1.pend _ m
  by_cases hv : ∃ i, r = .vr i
  · obtain ⟨i, rfl⟩ := hv
    obtain ⟨q1, r', q2⟩ := q
    have e' : (match env[i]? with | some (some r) => r.dat0 kl | _ => none) = some d := e
    rw [q2] at e'
    obtain ⟨w, w1, w2⟩ := R1.slot i r' q2
    rw [q1] at w1; cases w1
    exact w2.dv e'
  · have q' := RP.rr q fun i z => hv ⟨i, z⟩
    have e' : r.dat0 kl = some d := by cases r <;> first | exact e | exact absurd ⟨_, rfl⟩ hv
    exact q'.dv e'
theorem DV.sq {ds : List D} (h : DV K kl H v (.list ds)) : ∃ a vs, v = .ref a ∧ SqL K H a vs ∧ RDs H vs ds := by
  obtain ⟨a, vs, e1, e2, e3⟩ := h
  refine ⟨a, vs, e1, ?_, e3⟩
  rcases e2 with e2 | ⟨_, e2⟩
  · exact .inl e2
  · exact e2.sq
theorem DV.rd {ds : List D} (h : DV K false H v (.list ds)) : ∃ a vs, v = .ref a ∧ Rd H a (.lst vs) ∧ RDs H vs ds := by
  obtain ⟨a, vs, e1, e2, e3⟩ := h
  refine ⟨a, vs, e1, ?_, e3⟩
  rcases e2 with e2 | ⟨z, _⟩
  · exact e2
  · cases z
/-- data that an own thing doesn't need (no list, no dict) -/
theorem Rd.same {H H' : Hp} {a : Addr} {u : HO} (s : Same H H') (h : Rd H a u) : Rd H' a u := by
  rcases h with h | ⟨o, h⟩
  · exact .inl (s _ _ h)
  · exact .inr ⟨o, s _ _ h⟩

/-! ### a value that has come -/
def Post (K : PySem.W.Frag) (H H' : Hp) (v : V) (r : R) : Prop := Same H H' ∧ RR K H' v r ∧ (r.own = true → ∃ a, v = .ref a ∧ H a = none) ∧ ∀ ds, r ≠ .pl ds
theorem Post.dat (h : RD H v d) : Post K H H v (.d d) := ⟨Same.refl H, h, fun z => (by cases z), fun _ z => by cases z⟩
theorem Post.dNew {a : Addr} {u : HO} (n : H a = none) (h : RD (upd H a u) v d) : Post K H (upd H a u) v (.d d) := ⟨fun b o e => by rw [upd_ne (ne_of_none e n)]; exact e, h, fun z => (by cases z), fun _ z => by cases z⟩
theorem Post.dSame (s : Same H H') (h : RD H' v d) : Post K H H' v (.d d) := ⟨s, h, fun z => (by cases z), fun _ z => by cases z⟩
theorem Post.olNew {a : Addr} {vs : List V} {ds : List D} (n : H a = none) (h : RDs H vs ds) : Post K H (upd H a (.lst vs)) (.ref a) (.ol ds) :=
  ⟨fun b o e => by rw [upd_ne (ne_of_none e n)]; exact e, ⟨a, vs, rfl, upd_same, h.kp (Kp.new n)⟩, fun _ => ⟨a, rfl, n⟩, fun _ z => by cases z⟩
theorem Post.tupNew {a : Addr} {vs : List V} {ds : List D} (n : H a = none) (h : RDs H vs ds) : Post K H (upd H a (.tup vs)) (.ref a) (.d (.tuple ds)) :=
  Post.dNew n (.tup upd_same (h.kp (Kp.new n)))
theorem Rel.post (R1 : Rel K OW H0 P env σ H L) (p : Post K H H' v r) : Rel K OW H0 P env σ H' ((v, r) :: L) := by
  obtain ⟨g, rr, hn, hp⟩ := p
  have R2 := R1.grow g
  by_cases ho : r.own = true
  · obtain ⟨a, ev, h⟩ := hn ho
    subst ev
    have nP := R1.noPar h
    refine ⟨R2.len, R2.slot, fun p m => ?_, R2.sepS, fun i r' w p x b c d e => ?_, List.pairwise_cons.mpr ⟨fun q m _ z e => ?_, R2.sepL⟩, R2.keep, R2.newS, fun p m o b e => ?_, R2.par, R2.ow, fun p m i z => ?_⟩
    · rcases List.mem_cons.mp m with rfl | m
      · exact RP.of rr
      · exact R2.pend p m
    · rcases List.mem_cons.mp d with rfl | d
      · obtain ⟨w', e1, e2⟩ := R1.slot i r' x
        rw [c] at e1; cases e1
        obtain ⟨b', u', e3, e4, _⟩ := e2.ownAt b
        subst e3
        intro z
        cases z
        rw [h] at e4; cases e4
      · exact R2.sepP i r' w p x b c d e
    · obtain ⟨b', u', e3, e4, _⟩ := (R1.pend q m).ownAt z
      have e' : V.ref a = q.1 := e
      rw [e3] at e'; cases e'
      rw [h] at e4; cases e4
    · rcases List.mem_cons.mp m with rfl | m
      · cases e
        exact ⟨R1.none0 h nP, nP⟩
      · exact R2.newL p m o b e
    · rcases List.mem_cons.mp m with rfl | m
      · have z' : r = .vr i := z
        subst z'
        exact False.elim rr
      · exact R2.vo p m i z
  · exact R2.put (RP.of rr) (by simpa using ho) fun i z => by subst z; exact False.elim rr
end

/-! ### argument lists -/
def mANil : MA := fun e => .ok [] e
def mACons (m : ME) (ma : MA) : MA := fun env => (m env).bind fun r e1 => (ma e1).bind fun rs e2 => .ok (r :: rs) e2
def allD : List R → Option (List D)
  | [] => some []
  | .d x :: rs => (allD rs).map fun ds => x :: ds
  | _ :: _ => none
def datL (kl : Bool) (env : En) : List R → Option (List D)
  | [] => some []
  | r :: rs => match r.dat kl env, datL kl env rs with
    | some d, some ds => some (d :: ds)
    | _, _ => none
section
variable {X : Cx} {W : WX} {OW : Nat → Bool} {e : Expr} {es : List Expr} {m : ME} {ma : MA} {pos : Pos}
theorem da_nil : DA X W OW [] mANil := pa_le pa_nil fun σ H Q ⟨H0, P, env, L, Rl, S⟩ => S [] H rfl Rl
theorem da_cons (h : DE X W OW e m) (ha : DA X W OW es ma) (hs : starEach (e :: es) X.env = (false, eval e X.env) :: starEach es X.env := by rfl) : DA X W OW (e :: es) (mACons m ma) := by
  refine pa_le (pa_cons h ha hs) fun σ H Q ⟨H0, P, env, L, Rl, S⟩ => ?_
  refine ⟨H0, P, env, L, Rl, (Sat.bind S).mono fun r e1 _ S1 v H1 R1 => ⟨H0, P, e1, (v, r) :: L, R1, ?_⟩⟩
  refine ((Sat.bind S1).wait fun _ _ q => q.drop).mono fun rs e2 _ S2 vs H2 hl R2 => ?_
  refine S2 (v :: vs) H2 (by rw [List.length_cons, List.length_cons, hl]) (R2.perm ?_)
  show (v, r) :: (vs.zip rs ++ L) |>.Perm (vs.zip rs ++ (v, r) :: L)
  exact List.perm_middle.symm
end
section
variable {K : PySem.W.Frag} {OW : Nat → Bool} {kl : Bool} {H0 H H' : Hp} {P : List (Option Addr)} {env : En} {σ : L2.St} {L : Pe}
theorem Rel.allD (R1 : Rel K OW H0 P env σ H L) : ∀ {vs : List V} {rs : List R} {ds : List D}, vs.length = rs.length → (∀ p ∈ vs.zip rs, p ∈ L) → Pw.allD rs = some ds → RDs H vs ds
  | [], [], _, _, _, e => by cases e; exact .nil
  | v :: vs, r :: rs, ds, hl, hm, e => by
    cases r with
    | d x =>
      have e' : (Pw.allD rs).map (fun ds => x :: ds) = some ds := e
      obtain ⟨es, h1, h2⟩ := Option.map_eq_some_iff.mp e'
      subst h2
      have rr : RD H v x := R1.pend (v, .d x) (hm _ List.mem_cons_self)
      exact .cons rr (R1.allD (by simpa using hl) (fun p q => hm p (List.mem_cons_of_mem _ q)) h1)
    | _ => cases e
  | [], _ :: _, _, hl, _, _ => by cases hl
  | _ :: _, [], _, hl, _, _ => by cases hl
theorem Rel.datL (R1 : Rel K OW H0 P env σ H L) : ∀ {vs : List V} {rs : List R} {ds : List D}, vs.length = rs.length → (∀ p ∈ vs.zip rs, p ∈ L) → Pw.datL kl env rs = some ds → DVs K kl H vs ds
  | [], [], _, _, _, e => by cases e; exact .nil
  | v :: vs, r :: rs, ds, hl, hm, e => by
    unfold Pw.datL at e
    cases h1 : r.dat kl env with
    | none => rw [h1] at e; cases e
    | some d =>
      cases h2 : Pw.datL kl env rs with
      | none => rw [h1, h2] at e; cases e
      | some es =>
        rw [h1, h2] at e
        cases e
        exact .cons (R1.dv (hm _ List.mem_cons_self) h1) (R1.datL (by simpa using hl) (fun p q => hm p (List.mem_cons_of_mem _ q)) h2)
  | [], _ :: _, _, hl, _, _ => by cases hl
  | _ :: _, [], _, hl, _, _ => by cases hl
theorem Rel.dropZ {vs : List V} {rs : List R} (R1 : Rel K OW H0 P env σ H (vs.zip rs ++ L)) : Rel K OW H0 P env σ H L := R1.sub (List.sublist_append_right _ _)
end

/-! ### displays -/
def mTup (ma : MA) : ME := fun env => (ma env).bind fun rs e => match allD rs with
  | some ds => if ds.length ≤ 16777216 then .ok (.d (.tuple ds)) e else .st
  | none => .st
def mLst (ma : MA) : ME := fun env => (ma env).bind fun rs e => match allD rs with
  | some ds => if ds.length ≤ 16777216 then .ok (.ol ds) e else .st
  | none => .st
theorem line_eq : (16777216 : Nat) = sizeLine := sizeLine_eq.symm
section
variable {X : Cx} {W : WX} {OW : Nat → Bool} {es : List Expr} {ma : MA} {pos : Pos}
theorem de_tup {x1} (h : DA X W OW es ma) : DE X W OW (.Tuple es x1 pos) (mTup ma) := by
  refine pe_le (pe_tup h) fun σ H Q ⟨H0, P, env, L, Rl, S⟩ => ?_
  refine ⟨H0, P, env, L, Rl, (Sat.bind S).mono fun rs e _ S1 vs H1 hl R1 => ?_⟩
  cases hd : allD rs with
  | none => simp only [hd] at S1; exact S1.elim
  | some ds =>
    simp only [hd] at S1
    by_cases hz : ds.length ≤ 16777216
    · rw [if_pos hz] at S1
      have rr := R1.allD hl (fun p m => List.mem_append_left _ m) hd
      refine ⟨by rw [rr.length, ← line_eq]; exact hz, fun p hp => S1 _ _ (R1.dropZ.post (Post.tupNew hp rr))⟩
    · rw [if_neg hz] at S1; exact S1.elim
theorem de_lst (h : DA X W OW es ma) : DE X W OW (.List es pos) (mLst ma) := by
  refine pe_le (pe_lst h) fun σ H Q ⟨H0, P, env, L, Rl, S⟩ => ?_
  refine ⟨H0, P, env, L, Rl, (Sat.bind S).mono fun rs e _ S1 vs H1 hl R1 => ?_⟩
  cases hd : allD rs with
  | none => simp only [hd] at S1; exact S1.elim
  | some ds =>
    simp only [hd] at S1
    by_cases hz : ds.length ≤ 16777216
    · rw [if_pos hz] at S1
      have rr := R1.allD hl (fun p m => List.mem_append_left _ m) hd
      refine ⟨by rw [rr.length, ← line_eq]; exact hz, fun p hp => S1 _ _ (R1.dropZ.post (Post.olNew hp rr))⟩
    · rw [if_neg hz] at S1; exact S1.elim
end

/-! ### operations by values -/
/-- two things looked at as data, and what comes -/
def m2 (kl : Bool) (g : D → D → Option R) (ma mb : ME) : ME := fun env => (ma env).bind fun r1 e1 => (mb e1).bind fun r2 e2 => match r1.dat kl e2, r2.dat kl e2 with
  | some x, some y => match g x y with
    | some r => .ok r e2
    | none => .st
  | _, _ => .st
def m1 (kl : Bool) (g : D → Option R) (ma : ME) : ME := fun env => (ma env).bind fun r1 e1 => match r1.dat kl e1 with
  | some x => match g x with
    | some r => .ok r e1
    | none => .st
  | none => .st
def mN (kl : Bool) (g : List D → Option R) (ma : MA) : ME := fun env => (ma env).bind fun rs e1 => match datL kl e1 rs with
  | some xs => match g xs with
    | some r => .ok r e1
    | none => .st
  | none => .st
def Op2 (K : PySem.W.Frag) (kl : Bool) (r : R2) (g : D → D → Option R) : Prop := ∀ (H : Hp) (v1 v2 : V) (x y : D) (res : R) (Q : VK), DV K kl H v1 x → DV K kl H v2 y → g x y = some res → (∀ v H', Post K H H' v res → Q v H') → r v1 v2 H Q
def Op1 (K : PySem.W.Frag) (kl : Bool) (r : V → Hp → VK → Prop) (g : D → Option R) : Prop := ∀ (H : Hp) (v1 : V) (x : D) (res : R) (Q : VK), DV K kl H v1 x → g x = some res → (∀ v H', Post K H H' v res → Q v H') → r v1 H Q
def OpN (K : PySem.W.Frag) (kl : Bool) (r : List V → Hp → VK → Prop) (g : List D → Option R) : Prop := ∀ (H : Hp) (vs : List V) (xs : List D) (res : R) (Q : VK), DVs K kl H vs xs → g xs = some res → (∀ v H', Post K H H' v res → Q v H') → r vs H Q
section
variable {X : Cx} {W : WX} {OW : Nat → Bool} {kl : Bool} {a b c : Expr} {es : List Expr} {m ma mb : ME} {mas : MA} {pos : Pos} {g : D → D → Option R} {g1 : D → Option R} {gN : List D → Option R} {r : R2} {r1 : V → Hp → VK → Prop} {rN : List V → Hp → VK → Prop}
theorem op2_le (hg : Op2 X.K kl r g) {σ : L2.St} {H : Hp} {Q : VK} (h : tD (cy X W OW) (m2 kl g ma mb) σ H Q) : tOp r (tD (cy X W OW) ma) (tD (cy X W OW) mb) σ H Q := by
  obtain ⟨H0, P, env, L, Rl, S⟩ := h
  refine ⟨H0, P, env, L, Rl, (Sat.bind S).mono fun r1 e1 _ S1 v H1 R1 => ⟨H0, P, e1, (v, r1) :: L, R1, ?_⟩⟩
  refine ((Sat.bind S1).wait fun _ _ q => q.drop).mono fun r2 e2 _ S2 u H2 R2 => ?_
  cases h1 : r1.dat kl e2 with
  | none => simp only [h1] at S2; exact S2.elim
  | some x =>
    cases h2 : r2.dat kl e2 with
    | none => simp only [h1, h2] at S2; exact S2.elim
    | some y =>
      simp only [h1, h2] at S2
      cases h3 : g x y with
      | none => simp only [h3] at S2; exact S2.elim
      | some res =>
        simp only [h3] at S2
        exact hg H2 v u x y res Q (R2.dv (List.mem_cons_of_mem _ List.mem_cons_self) h1) (R2.dv List.mem_cons_self h2) h3 fun w H' p => S2 w H' (R2.drop.drop.post p)
theorem op1_le (hg : Op1 X.K kl r1 g1) {σ : L2.St} {H : Hp} {Q : VK} (h : tD (cy X W OW) (m1 kl g1 ma) σ H Q) : tUn r1 (tD (cy X W OW) ma) σ H Q := by
  obtain ⟨H0, P, env, L, Rl, S⟩ := h
  refine ⟨H0, P, env, L, Rl, (Sat.bind S).mono fun r1 e1 _ S1 v H1 R1 => ?_⟩
  cases h1 : r1.dat kl e1 with
  | none => simp only [h1] at S1; exact S1.elim
  | some x =>
    simp only [h1] at S1
    cases h3 : g1 x with
    | none => simp only [h3] at S1; exact S1.elim
    | some res =>
      simp only [h3] at S1
      exact hg H1 v x res Q (R1.dv List.mem_cons_self h1) h3 fun w H' p => S1 w H' (R1.drop.post p)
theorem opN_le (hg : OpN X.K kl rN gN) {σ : L2.St} {H : Hp} {Q : VK} (h : tD (cy X W OW) (mN kl gN mas) σ H Q) : tCB rN (tA (cy X W OW) mas) σ H Q := by
  obtain ⟨H0, P, env, L, Rl, S⟩ := h
  refine ⟨H0, P, env, L, Rl, (Sat.bind S).mono fun rs e1 _ S1 vs H1 hl R1 => ?_⟩
  cases h1 : datL kl e1 rs with
  | none => simp only [h1] at S1; exact S1.elim
  | some xs =>
    simp only [h1] at S1
    cases h3 : gN xs with
    | none => simp only [h3] at S1; exact S1.elim
    | some res =>
      simp only [h3] at S1
      exact hg H1 vs xs res Q (R1.datL hl (fun p m => List.mem_append_left _ m) h1) h3 fun w H' p => S1 w H' (R1.dropZ.post p)
theorem de_op2 {op : Operator} (ho : OpR X (binaryOp op) r) (hg : Op2 X.K kl r g) (ha : DE X W OW a ma) (hb : DE X W OW b mb) : DE X W OW (.BinOp a op b pos) (m2 kl g ma mb) := pe_le (pe_op ho ha hb) fun _ _ _ h => op2_le hg h
theorem de_un {op : UnaryOp} (ho : UnR X (unaryOp op) r1) (hg : Op1 X.K kl r1 g1) (ha : DE X W OW a ma) : DE X W OW (.UnaryOp op a pos) (m1 kl g1 ma) := pe_le (pe_un ho ha) fun _ _ _ h => op1_le hg h
theorem de_cmpR {op : CmpOp} (ho : OpR X (compareOp op) r) (hg : Op2 X.K kl r g) (ha : DE X W OW a ma) (hb : DE X W OW b mb) (hm : behindInMarks op b = false) : DE X W OW (.Compare a [op] [b] pos) (m2 kl g ma mb) := pe_le (pe_cmpR ho ha hb hm) fun _ _ _ h => op2_le hg h
theorem de_ixR (ho : IxR X r) (hg : Op2 X.K kl r g) (ha : DE X W OW a ma) (hb : DE X W OW b mb) (hs : PlainIx b) : DE X W OW (.Subscript a b pos) (m2 kl g ma mb) := pe_le (pe_ix ho ha hb hs) fun _ _ _ h => op2_le hg h
end
end Pw

set_option Elab.async false
set_option linter.all false
set_option maxRecDepth 100000
set_option maxHeartbeats 2000000
/-! Pw: arithmetic, comparisons, places, cuts: what they give on data. -/
namespace Pw
open PySem PySem.Spec PyProof.Rows L2

/-! ### data without dicts, so deep at most -/
mutual
def okD : Nat → D → Bool
  | _, .none => true
  | _, .bool _ => true
  | _, .int _ => true
  | _, .str x => PyData.strOk x
  | 0, .list _ => false
  | 0, .tuple _ => false
  | n + 1, .list xs => okDs n xs
  | n + 1, .tuple xs => okDs n xs
  | _, .dict _ => false
def okDs : Nat → List D → Bool
  | _, [] => true
  | n, x :: xs => okD n x && okDs n xs
end
mutual
theorem okD_lay : ∀ (n : Nat) (d : D), okD n d = true → d.canLay0 = true ∧ d.depth ≤ n
  | _, .none, _ => ⟨by simp [PyData.canLay0], by simp [PyData.depth]⟩
  | _, .bool _, _ => ⟨by simp [PyData.canLay0], by simp [PyData.depth]⟩
  | _, .int _, _ => ⟨by simp [PyData.canLay0], by simp [PyData.depth]⟩
  | _, .str x, h => ⟨by simpa [okD, PyData.canLay0] using h, by simp [PyData.depth]⟩
  | 0, .list _, h => by simp [okD] at h
  | 0, .tuple _, h => by simp [okD] at h
  | n + 1, .list xs, h => by
    obtain ⟨h1, h2⟩ := okDs_lay n xs (by simpa [okD] using h)
    exact ⟨by simpa [PyData.canLay0] using h1, by simp only [PyData.depth]; omega⟩
  | n + 1, .tuple xs, h => by
    obtain ⟨h1, h2⟩ := okDs_lay n xs (by simpa [okD] using h)
    exact ⟨by simpa [PyData.canLay0] using h1, by simp only [PyData.depth]; omega⟩
  | 0, .dict _, h => by simp [okD] at h
  | _ + 1, .dict _, h => by simp [okD] at h
theorem okDs_lay : ∀ (n : Nat) (ds : List D), okDs n ds = true → PyData.canLayAll0 ds = true ∧ PyData.depthAll ds ≤ n
  | _, [], _ => ⟨by simp [PyData.canLayAll0], by simp [PyData.depthAll]⟩
  | n, x :: xs, h => by
    have h' : okD n x = true ∧ okDs n xs = true := by simpa [okDs] using h
    obtain ⟨a1, a2⟩ := okD_lay n x h'.1
    obtain ⟨b1, b2⟩ := okDs_lay n xs h'.2
    refine ⟨by simp only [PyData.canLayAll0, a1, b1, Bool.and_self], ?_⟩
    simp only [PyData.depthAll]
    omega
end
theorem okD_shaped {d : D} (h : okD 40 d = true) : SeqAt.shaped d = true := by
  obtain ⟨h1, h2⟩ := okD_lay 40 d h
  unfold SeqAt.shaped
  rw [h1, Bool.true_and]
  exact decide_eq_true (by omega)
mutual
theorem okD_mono : ∀ {n m : Nat} {d : D}, n ≤ m → okD n d = true → okD m d = true
  | _, _, .none, _, _ => by simp [okD]
  | _, _, .bool _, _, _ => by simp [okD]
  | _, _, .int _, _, _ => by simp [okD]
  | _, _, .str x, _, h => by simpa [okD] using h
  | 0, _, .list _, _, h => by simp [okD] at h
  | 0, _, .tuple _, _, h => by simp [okD] at h
  | n + 1, 0, .list xs, l, _ => by omega
  | n + 1, 0, .tuple xs, l, _ => by omega
  | n + 1, m + 1, .list xs, l, h => by
    have := okDs_mono (n := n) (m := m) (ds := xs) (by omega) (by simpa [okD] using h)
    simpa [okD] using this
  | n + 1, m + 1, .tuple xs, l, h => by
    have := okDs_mono (n := n) (m := m) (ds := xs) (by omega) (by simpa [okD] using h)
    simpa [okD] using this
  | 0, _, .dict _, _, h => by simp [okD] at h
  | _ + 1, _, .dict _, _, h => by simp [okD] at h
theorem okDs_mono : ∀ {n m : Nat} {ds : List D}, n ≤ m → okDs n ds = true → okDs m ds = true
  | _, _, [], _, _ => by simp [okDs]
  | n, m, x :: xs, l, h => by
    have h' : okD n x = true ∧ okDs n xs = true := by simpa [okDs] using h
    simp [okDs, okD_mono l h'.1, okDs_mono l h'.2]
end
theorem okDs_all {n : Nat} : ∀ {ds : List D}, okDs n ds = true ↔ ∀ d ∈ ds, okD n d = true
  | [] => by simp [okDs]
  | x :: xs => by simp [okDs, okDs_all (ds := xs)]

mutual
theorem RD.dp {K : PySem.W.Frag} {H : Hp} : ∀ (n : Nat) {v : V} {d : D}, RD H v d → okD n d = true → Dp K H v d
  | _, _, _, .non, _ => .non
  | _, _, _, .bl b, _ => .bl b
  | _, _, _, .int i, _ => .int i
  | _, _, _, .str x, _ => .str x
  | 0, _, _, .lst h r, e => by simp [okD] at e
  | 0, _, _, .tup h r, e => by simp [okD] at e
  | n + 1, _, _, .lst h r, e => .lst (.inl (.inr ⟨_, h⟩)) (RDs.dp n r (by simpa [okD] using e))
  | n + 1, _, _, .tup h r, e => .tup (.inl (.inl h)) (RDs.dp n r (by simpa [okD] using e))
  | 0, _, _, .dK h r, e => by simp [okD] at e
  | _ + 1, _, _, .dK h r, e => by simp [okD] at e
  | 0, _, _, .dT h r, e => by simp [okD] at e
  | _ + 1, _, _, .dT h r, e => by simp [okD] at e
theorem RDs.dp {K : PySem.W.Frag} {H : Hp} : ∀ (n : Nat) {vs : List V} {ds : List D}, RDs H vs ds → okDs n ds = true → DpAll K H vs ds
  | _, _, _, .nil, _ => .nil
  | n, _, _, .cons (d := d) (ds := ds) r t, e => by
    have e' : okD n d = true ∧ okDs n ds = true := by simpa [okDs] using e
    exact .cons (RD.dp n r e'.1) (RDs.dp n t e'.2)
end
theorem DV.dp {K : PySem.W.Frag} {kl : Bool} {H : Hp} {v : V} {d : D} {n : Nat} (h : DV K kl H v d) (e : okD n d = true) : Dp K H v d := by
  cases d with
  | none => cases h; exact .non
  | bool b => cases h; exact .bl b
  | int i => cases h; exact .int i
  | str x => cases h; exact .str x
  | list ds =>
    obtain ⟨a, vs, rfl, sq, r⟩ := DV.sq h
    cases n with
    | zero => simp [okD] at e
    | succ n => exact .lst sq (r.dp n (by simpa [okD] using e))
  | tuple ds =>
    obtain ⟨a, vs, rfl, sq, r⟩ := h
    cases n with
    | zero => simp [okD] at e
    | succ n => exact .tup (.inl (.inl sq)) (r.dp n (by simpa [okD] using e))
  | dict ds => cases n <;> simp [okD] at e

/-! ### ints, sequences: + - * % // ** -/
def small64 (i : Int) : Bool := decide (-18446744073709551616 < i) && decide (i < 18446744073709551616)
def pAdd : D → D → Option R
  | .int i, .int j => some (.d (.int (i + j)))
  | .tuple xs, .tuple ys => if xs.length + ys.length ≤ 16777216 then some (.d (.tuple (xs ++ ys))) else none
  | .list xs, .list ys => if xs.length + ys.length ≤ 16777216 then some (.ol (xs ++ ys)) else none
  | _, _ => none
def pSub : D → D → Option R
  | .int i, .int j => some (.d (.int (i - j)))
  | _, _ => none
def pMul : D → D → Option R
  | .int i, .int j => if small64 i || small64 j then some (.d (.int (i * j))) else none
  | .list xs, .int k => if decide (-(2 ^ 63) ≤ k) && decide (k < 2 ^ 63) && decide (xs.length * k.toNat ≤ 16777216) then some (.ol (List.replicate k.toNat xs).flatten) else none
  | .tuple xs, .int k => if decide (2 ≤ k) && decide (k ≤ 1000) && decide (xs.length ≤ 1000) && !xs.isEmpty then some (.d (.tuple (List.replicate k.toNat xs).flatten)) else none
  | _, _ => none
def pMod : D → D → Option R
  | .int i, .int j => if 0 < j then some (.d (.int (i % j))) else none
  | _, _ => none
def pDiv : D → D → Option R
  | .int i, .int j => if decide (0 < j) && decide (j < 1073741824) then some (.d (.int (i / j))) else none
  | _, _ => none
def pPow : D → D → Option R
  | .int i, .int j => if decide (0 ≤ j) && decide (j ≤ 1000000) && decide (i.natAbs < 18446744073709551616) then some (.d (.int (i ^ j.toNat))) else none
  | _, _ => none
section
variable {X : Cx} {K : PySem.W.Frag} {kl : Bool}
theorem Inv.rdl {pins : List (Addr × Obj)} {σ : L2.St} {H : Hp} {s : Shared} {a : Addr} {xs : List V} (I : Inv X pins σ H s) (h : Rd H a (.lst xs)) :
    xs.length ≤ sizeLine ∧ ∃ (us : List Value) (k : Nat), Vals xs us ∧ us.length = xs.length ∧ s.heap.get? a = some { cls := .type "list", data := .seq us.toArray k } := by
  obtain ⟨z, us, k, r, e⟩ := h.ok I.hok
  exact ⟨z, us, k, r, r.length.symm, e⟩
def rCatR : R2 := fun x y H Q => ∃ l b xs zs, x = .ref l ∧ y = .ref b ∧ Rd H l (.lst xs) ∧ Rd H b (.lst zs) ∧ xs.length + zs.length ≤ sizeLine ∧ ∀ p, H p = none → Q (.ref p) (upd H p (.lst (xs ++ zs)))
theorem op_catR : OpR X (binaryOp .Add) rCatR := by
  intro pins s σ H x y v u Q I rx ry h
  obtain ⟨l, b, xs, zs, rfl, rfl, hl, hb, hz, q⟩ := h
  cases rx
  cases ry
  obtain ⟨z1, us, k1, r1, n1, e1⟩ := Inv.rdl I hl
  obtain ⟨z2, ws, k2, r2, n2, e2⟩ := Inv.rdl I hb
  refine PySem.P.add_list e1 e2 ?_ (by simp only [List.size_toArray, n1, n2]; exact hz)
  rw [show us.toArray ++ ws.toArray = (us ++ ws).toArray by simp]
  refine ⟨.ref _, _, I.lnew (t' := s.toks) (r1.append r2) (by simp only [List.length_append]; exact hz), rfl, q _ I.fresh⟩
def rAdd (K : PySem.W.Frag) : R2 := fun x y H Q => (∃ i j, x = .int i ∧ y = .int j ∧ Q (.int (i + j)) H) ∨ rCatA K x y H Q ∨ rCatR x y H Q
theorem o_add : OpR X (binaryOp .Add) (rAdd X.K) := OpR.or op_add (OpR.or op_catA op_catR)
theorem g_add : Op2 K false (rAdd K) pAdd := by
  intro H v1 v2 x y res Q h1 h2 e q
  cases x <;> cases y <;> first | (exfalso; cases e; done) | skip
  · cases h1; cases h2; cases e
    exact .inl ⟨_, _, rfl, rfl, q _ _ (Post.dat (.int _))⟩
  · rename_i xs ys
    simp only [pAdd] at e
    split at e
    · rename_i hz
      cases e
      obtain ⟨a, vs, rfl, ha, ra⟩ := DV.rd h1
      obtain ⟨b, ws, rfl, hb, rb⟩ := DV.rd h2
      exact .inr (.inr ⟨a, b, vs, ws, rfl, rfl, ha, hb, by rw [ra.length, rb.length, ← line_eq]; exact hz, fun p hp => q _ _ (Post.olNew hp (ra.append rb))⟩)
    · cases e
  · rename_i xs ys
    simp only [pAdd] at e
    split at e
    · rename_i hz
      cases e
      obtain ⟨a, vs, rfl, ha, ra⟩ := h1
      obtain ⟨b, ws, rfl, hb, rb⟩ := h2
      refine .inr (.inl ⟨a, b, vs, ws, rfl, rfl, .inl (.inl ha), .inl (.inl hb), by rw [ra.length, rb.length, ← line_eq]; exact hz, fun z => ?_, fun _ z => ?_, fun _ _ p hp => q _ _ (Post.tupNew hp (ra.append rb))⟩)
      · subst z
        cases ra
        exact q _ _ (Post.dat (.tup hb rb))
      · subst z
        cases rb
        rw [List.append_nil] at q
        exact q _ _ (Post.dat (.tup ha ra))
    · cases e
theorem g_sub : Op2 K kl (rI0 fun i j => .int (i - j)) pSub := by
  intro H v1 v2 x y res Q h1 h2 e q
  cases x <;> cases y <;> first | (exfalso; cases e; done) | skip
  cases h1; cases h2; cases e
  exact ⟨_, _, rfl, rfl, q _ _ (Post.dat (.int _))⟩
theorem small64_iff {i : Int} : small64 i = true → -(2 ^ 64) < i ∧ i < 2 ^ 64 := by
  intro h
  unfold small64 at h
  simp only [Bool.and_eq_true, decide_eq_true_eq] at h
  omega
def rRepR : R2 := fun x y H Q => ∃ l k xs, x = .ref l ∧ y = .int k ∧ Rd H l (.lst xs) ∧ -(2 ^ 63) ≤ k ∧ k < 2 ^ 63 ∧ xs.length * k.toNat ≤ sizeLine ∧ ∀ p, H p = none → Q (.ref p) (upd H p (.lst (List.replicate k.toNat xs).flatten))
theorem op_repR : OpR X (binaryOp .Mult) rRepR := by
  intro pins s σ H x y v u Q I rx ry h
  obtain ⟨l, k, xs, rfl, rfl, hl, lo, hi, hz, q⟩ := h
  cases rx
  obtain ⟨tk, rfl⟩ := ry
  obtain ⟨z1, us, n, r1, n1, e1⟩ := Inv.rdl I hl
  have sz : us.toArray.size * k.toNat ≤ sizeLine := by rw [List.size_toArray, n1]; exact hz
  have big : (sizeLine : Nat) ≤ (2 ^ 63 - 1) / 8 := by decide
  have f0 : ∀ j : Nat, List.foldl (fun x1 x2 => x1 ++ x2) #[] (List.replicate j us.toArray) = (List.replicate j us).flatten.toArray := fun j => by
    have z := foldl_rep us j []
    rwa [List.nil_append] at z
  have new : List.foldl (fun x1 x2 => x1 ++ x2) #[] (List.replicate (if us.toArray.isEmpty = true then 0 else k.toNat) us.toArray) = (List.replicate k.toNat us).flatten.toArray := by
    rw [f0]
    cases us with
    | nil => simp
    | cons a r' => rw [if_neg (by simp)]
  have fit : ¬ (!Builtin.List.listFitsIndex k) = true := by rw [fitsIndex_both lo hi]; exact Bool.false_ne_true
  have long : ¬ Builtin.List.listTooLong (us.toArray.size * k.toNat) = true := by rw [notLongL sz]; exact Bool.false_ne_true
  refine wpAny_binaryOp_repeat_ref (T := "list") (U := "int") (by decide) ⟨_, e1, rfl⟩ (fun s' => typeIs_int s' k tk) noFill_list_mul F.fills_int_mul F.slot_int_rmul repeat_list F.slot_int_index.lookup ?_
  refine call_meets F.slot_int_rmul (typeIs_int s k tk) F.entry_int_rmul (F.args_int_rmul_2 _ _) (int___rmul___int_list k tk l us.toArray n) ⟨e1, rfl, ⟨_, e1, rfl⟩, ?_⟩
  refine call_meets F.slot_list_mul ⟨_, e1, rfl⟩ F.entry_list_mul (F.args_list_mul_2 _ _) (AutoListH.list___mul___list_int_3 l us.toArray n k tk fit (by omega) long) ⟨e1, ?_⟩
  rw [new]
  exact ⟨.ref _, _, I.lnew (t' := s.toks) (r1.rep k.toNat) (by rw [PyProof.Rows.lm_len_rep_flat, Nat.mul_comm]; exact hz), rfl, q _ I.fresh⟩
def rMul (K : PySem.W.Frag) : R2 := fun x y H Q => (∃ i j, x = .int i ∧ y = .int j ∧ CMul i j ∧ Q (.int (i * j)) H) ∨ rRepR x y H Q ∨ rRepT K x y H Q
theorem o_mul : OpR X (binaryOp .Mult) (rMul X.K) := OpR.or op_mul (OpR.or op_repR op_repT)
theorem g_mul : Op2 K false (rMul K) pMul := by
  intro H v1 v2 x y res Q h1 h2 e q
  cases x <;> cases y <;> first | (exfalso; cases e; done) | skip
  · simp only [pMul] at e
    split at e
    · rename_i hz
      cases h1; cases h2; cases e
      refine .inl ⟨_, _, rfl, rfl, ?_, q _ _ (Post.dat (.int _))⟩
      rcases Bool.or_eq_true_iff.mp hz with hz | hz
      · exact .inl (small64_iff hz)
      · exact .inr (small64_iff hz)
    · cases e
  · simp only [pMul] at e
    split at e
    · rename_i hz
      cases e
      simp only [Bool.and_eq_true, decide_eq_true_eq] at hz
      obtain ⟨a, vs, rfl, ha, ra⟩ := DV.rd h1
      cases h2
      exact .inr (.inl ⟨a, _, vs, rfl, rfl, ha, hz.1.1, hz.1.2, by rw [ra.length, ← line_eq]; exact hz.2, fun p hp => q _ _ (Post.olNew hp (ra.rep _))⟩)
    · cases e
  · simp only [pMul] at e
    split at e
    · rename_i xs k hz
      cases e
      simp only [Bool.and_eq_true, decide_eq_true_eq] at hz
      obtain ⟨⟨⟨h3, h4⟩, h5⟩, h6⟩ := hz
      obtain ⟨a, vs, rfl, ha, ra⟩ := h1
      cases h2
      refine .inr (.inr ⟨a, k, vs, rfl, rfl, .inl (.inl ha), fun z => ?_, h3, h4, by rw [ra.length]; exact h5, fun p hp => q _ _ (Post.tupNew hp (ra.rep _))⟩)
      subst z
      cases ra
      cases h6
    · cases e
theorem g_mod : Op2 K kl (rI (fun _ j => 0 < j) fun i j => .int (i % j)) pMod := by
  intro H v1 v2 x y res Q h1 h2 e q
  cases x <;> cases y <;> first | (exfalso; cases e; done) | skip
  simp only [pMod] at e
  split at e
  · rename_i hz
    cases h1; cases h2; cases e
    exact ⟨_, _, rfl, rfl, hz, q _ _ (Post.dat (.int _))⟩
  · cases e
theorem g_div : Op2 K kl (rI CDiv fun i j => .int (i / j)) pDiv := by
  intro H v1 v2 x y res Q h1 h2 e q
  cases x <;> cases y <;> first | (exfalso; cases e; done) | skip
  simp only [pDiv] at e
  split at e
  · rename_i hz
    cases h1; cases h2; cases e
    simp only [Bool.and_eq_true, decide_eq_true_eq] at hz
    exact ⟨_, _, rfl, rfl, hz, q _ _ (Post.dat (.int _))⟩
  · cases e
theorem g_pow : Op2 K kl (rI CPow fun i j => .int (i ^ j.toNat)) pPow := by
  intro H v1 v2 x y res Q h1 h2 e q
  cases x <;> cases y <;> first | (exfalso; cases e; done) | skip
  simp only [pPow] at e
  split at e
  · rename_i hz
    cases h1; cases h2; cases e
    simp only [Bool.and_eq_true, decide_eq_true_eq] at hz
    exact ⟨_, _, rfl, rfl, ⟨hz.1.1, hz.1.2, hz.2⟩, q _ _ (Post.dat (.int _))⟩
  · cases e
def pNeg : D → Option R
  | .int i => some (.d (.int (-i)))
  | _ => none
theorem g_neg : Op1 K kl (rU fun i => .int (-i)) pNeg := by
  intro H v1 x res Q h1 e q
  cases x <;> first | (exfalso; cases e; done) | skip
  cases h1; cases e
  exact ⟨_, rfl, q _ _ (Post.dat (.int _))⟩

/-! ### comparisons -/
def bR (b : Bool) : R := .d (.bool b)
def pEq (x y : D) : Option R := if okD 40 x && okD 40 y then some (bR (PyData.eqv x y)) else none
def pNe (x y : D) : Option R := if okD 40 x && okD 40 y then some (bR (!PyData.eqv x y)) else none
def notNone : D → Bool
  | .none => false
  | _ => true
def pCmp (f : D → D → Bool) (x y : D) : Option R := if okD 40 x && okD 40 y && PySem.W.alike x y && notNone x then some (bR (f x y)) else none
def ltD : D → D → Bool
  | .int i, .int j => decide (i < j)
  | x, y => PySem.W.dataLt x y
theorem ltD_eq (x y : D) : ltD x y = PySem.W.dataLt x y := by
  cases x <;> cases y <;> first | rfl | skip
  exact (PySem.W.dataLt_int _ _).symm
abbrev pLt : D → D → Option R := pCmp ltD
abbrev pGt : D → D → Option R := pCmp fun x y => ltD y x
abbrev pLe : D → D → Option R := pCmp fun x y => !ltD y x
abbrev pGe : D → D → Option R := pCmp fun x y => !ltD x y
def rDat (K : PySem.W.Frag) (f : D → D → Option R) : R2 := fun x y H Q => ∃ d e b, Dp K H x d ∧ Dp K H y e ∧ f d e = some (bR b) ∧ Q (.bl b) H
theorem okD_room {A : Around} {x y : D} (h : okD 40 x = true) (hu : A.units + 64 < cLine) : A.units + min x.depth y.depth < cLine := by
  have := (okD_lay 40 x h).2
  omega
theorem notNone_ne {x : D} (h : notNone x = true) : x ≠ .none := fun z => by subst z; cases h
theorem o_dat {op : CmpOp} {f : D → D → Bool} {ok : D → D → Bool}
    (rule : ∀ (s : Shared) (a b : Value) (da db : D) (as bs : List Addr) (Q E : Value → Shared → Prop), Reads s.heap a da as → Reads s.heap b db bs → ok da db = true → Q (.bool (f da db)) s → wpAny (model X.prog X.w) X.A (compareOp op a b) Q E s) :
    OpR X (compareOp op) (rDat X.K fun x y => if ok x y = true then some (bR (f x y)) else none) := by
  intro pins s σ H x y v u Q I rx ry h
  obtain ⟨d, e, b, hd, he, hf, q⟩ := h
  obtain ⟨as, r1⟩ := Dp.reads I d x v hd rx
  obtain ⟨bs, r2⟩ := Dp.reads I e y u he ry
  replace hf : (if ok d e = true then some (bR (f d e)) else none) = some (bR b) := hf
  by_cases ho : ok d e = true
  · rw [if_pos ho] at hf
    have hb : f d e = b := by
      have z := Option.some.inj hf
      injection z with z
      injection z
    exact rule s v u d e as bs _ _ r1 r2 ho ⟨.bl (f d e), H, I, rfl, by rw [hb]; exact q⟩
  · rw [if_neg ho] at hf; cases hf
theorem g_dat {n : Nat} {f : D → D → Option R} (hok : ∀ x y r, f x y = some r → okD n x = true ∧ okD n y = true ∧ ∃ b, r = bR b) : Op2 K kl (rDat K f) f := by
  intro H v1 v2 x y res Q h1 h2 e q
  obtain ⟨o1, o2, b, rfl⟩ := hok x y res e
  exact ⟨x, y, b, DV.dp h1 o1, DV.dp h2 o2, e, q _ _ (Post.dat (.bl b))⟩
theorem o_eq (hu : X.A.units + 64 < cLine) : OpR X (compareOp .Eq) (rDat X.K pEq) := o_dat (ok := fun x y => okD 40 x && okD 40 y) fun s a b da db as bs Q E r1 r2 ho hq => by
  have h := Bool.and_eq_true_iff.mp ho
  exact SeqAt.compareEq_shaped r1 r2 (okD_shaped h.1) (okD_shaped h.2) hu hq
theorem o_ne (hu : X.A.units + 64 < cLine) : OpR X (compareOp .NotEq) (rDat X.K pNe) := o_dat (ok := fun x y => okD 40 x && okD 40 y) (f := fun x y => !PyData.eqv x y) fun s a b da db as bs Q E r1 r2 ho hq => by
  have h := Bool.and_eq_true_iff.mp ho
  exact SeqAt.compareNe_shaped r1 r2 (okD_shaped h.1) (okD_shaped h.2) hu hq
theorem ok4 {x y : D} (h : (okD 40 x && okD 40 y && PySem.W.alike x y && notNone x) = true) : okD 40 x = true ∧ okD 40 y = true ∧ PySem.W.alike x y = true ∧ x ≠ .none := by
  simp only [Bool.and_eq_true] at h
  exact ⟨h.1.1.1, h.1.1.2, h.1.2, notNone_ne h.2⟩
theorem o_lt (hu : X.A.units + 64 < cLine) : OpR X (compareOp .Lt) (rDat X.K pLt) := o_dat (f := ltD) (ok := fun x y => okD 40 x && okD 40 y && PySem.W.alike x y && notNone x) fun s a b da db as bs Q E r1 r2 ho hq => by
  obtain ⟨h1, h2, h3, h4⟩ := ok4 ho
  exact PySem.W.lt_data r1 r2 h3 h4 (okD_room h1 hu) (by rw [← ltD_eq]; exact hq)
theorem o_gt (hu : X.A.units + 64 < cLine) : OpR X (compareOp .Gt) (rDat X.K pGt) := o_dat (f := fun x y => ltD y x) (ok := fun x y => okD 40 x && okD 40 y && PySem.W.alike x y && notNone x) fun s a b da db as bs Q E r1 r2 ho hq => by
  obtain ⟨h1, h2, h3, h4⟩ := ok4 ho
  exact PySem.W.gt_data r1 r2 h3 h4 (okD_room h1 hu) (by rw [← ltD_eq]; exact hq)
theorem o_le (hu : X.A.units + 64 < cLine) : OpR X (compareOp .LtE) (rDat X.K pLe) := o_dat (f := fun x y => !ltD y x) (ok := fun x y => okD 40 x && okD 40 y && PySem.W.alike x y && notNone x) fun s a b da db as bs Q E r1 r2 ho hq => by
  obtain ⟨h1, h2, h3, h4⟩ := ok4 ho
  exact PySem.W.le_data r1 r2 h3 h4 (okD_room h1 hu) (by rw [← ltD_eq]; exact hq)
theorem o_ge (hu : X.A.units + 64 < cLine) : OpR X (compareOp .GtE) (rDat X.K pGe) := o_dat (f := fun x y => !ltD x y) (ok := fun x y => okD 40 x && okD 40 y && PySem.W.alike x y && notNone x) fun s a b da db as bs Q E r1 r2 ho hq => by
  obtain ⟨h1, h2, h3, h4⟩ := ok4 ho
  exact PySem.W.ge_data r1 r2 h3 h4 (okD_room h1 hu) (by rw [← ltD_eq]; exact hq)
theorem g_eq : Op2 K kl (rDat K pEq) pEq := g_dat (n := 40) fun x y r e => by
  unfold pEq at e
  split at e
  · rename_i h
    cases e
    exact ⟨(Bool.and_eq_true_iff.mp h).1, (Bool.and_eq_true_iff.mp h).2, _, rfl⟩
  · cases e
theorem g_ne : Op2 K kl (rDat K pNe) pNe := g_dat (n := 40) fun x y r e => by
  unfold pNe at e
  split at e
  · rename_i h
    cases e
    exact ⟨(Bool.and_eq_true_iff.mp h).1, (Bool.and_eq_true_iff.mp h).2, _, rfl⟩
  · cases e
theorem g_cmp {f : D → D → Bool} : Op2 K kl (rDat K (pCmp f)) (pCmp f) := g_dat (n := 40) fun x y r e => by
  unfold pCmp at e
  split at e
  · rename_i h
    cases e
    exact ⟨(ok4 h).1, (ok4 h).2.1, _, rfl⟩
  · cases e
/-- is None, is not None -/
def isN : D → Bool
  | .none => true
  | _ => false
def pIs (x y : D) : Option R := if isN y then some (bR (isN x)) else none
def pIsNot (x y : D) : Option R := if isN y then some (bR (!isN x)) else none
theorem DV.non {H : Hp} {v : V} {d : D} (h : DV K kl H v d) : decide (v = .non) = isN d := by
  cases d with
  | none => cases h; rfl
  | bool b => cases h; rfl
  | int i => cases h; rfl
  | str x => cases h; rfl
  | list ds => obtain ⟨a, vs, rfl, _⟩ := h; rfl
  | tuple ds => obtain ⟨a, vs, rfl, _⟩ := h; rfl
  | dict ds => obtain ⟨a, rfl, _⟩ := h; rfl
theorem isN_eq {d : D} (h : isN d = true) : d = .none := by cases d <;> first | rfl | cases h
theorem g_is : Op2 K kl (fun x y H Q => y = .non ∧ Q (.bl (decide (x = .non))) H) pIs := by
  intro H v1 v2 x y res Q h1 h2 e q
  unfold pIs at e
  split at e
  · rename_i h
    cases e
    have hy := isN_eq h
    subst hy
    refine ⟨h2, ?_⟩
    rw [DV.non h1]
    exact q _ _ (Post.dat (.bl _))
  · cases e
theorem g_isnot : Op2 K kl (fun x y H Q => y = .non ∧ Q (.bl (!decide (x = .non))) H) pIsNot := by
  intro H v1 v2 x y res Q h1 h2 e q
  unfold pIsNot at e
  split at e
  · rename_i h
    cases e
    have hy := isN_eq h
    subst hy
    refine ⟨h2, ?_⟩
    rw [DV.non h1]
    exact q _ _ (Post.dat (.bl _))
  · cases e
end
end Pw

set_option Elab.async false
set_option linter.all false
set_option maxRecDepth 100000
set_option maxHeartbeats 2000000
/-! Pw: in, places, cuts, len, the built-in calls. -/
namespace Pw
open PySem PySem.Spec PyProof.Rows L2

/-! ### keys -/
def toKey : D → Option Key
  | .int i => some (.inl i)
  | .str x => some (.inr x)
  | _ => none
def toKeyL : List D → Option (List Key)
  | [] => some []
  | x :: xs => match toKey x, toKeyL xs with
    | some k, some ks => some (k :: ks)
    | _, _ => none
def toKeys : D → Option (List Key)
  | .tuple xs => toKeyL xs
  | _ => none
def dKof : List (D × D) → Option (List (Key × D))
  | [] => some []
  | (k, v) :: r => match toKey k, dKof r with
    | some k, some r => some ((k, v) :: r)
    | _, _ => none
def dTof : List (D × D) → Option (List (List Key × D))
  | [] => some []
  | (k, v) :: r => match toKeys k, dTof r with
    | some k, some r => some ((k, v) :: r)
    | _, _ => none
def valD {κ : Type} [DecidableEq κ] (kvs : List (κ × D)) (k : κ) : Option D := (kvs.find? fun kv => decide (kv.1 = k)).map (·.2)
theorem toKey_kD (k : Key) : toKey (kD k) = some k := by cases k <;> rfl
theorem kD_toKey {d : D} {k : Key} (h : toKey d = some k) : d = kD k := by
  cases d with
  | int i => cases h; rfl
  | str x => cases h; rfl
  | _ => cases h
theorem toKeyL_map : ∀ ks : List Key, toKeyL (ks.map kD) = some ks
  | [] => rfl
  | k :: ks => by
    show (match toKey (kD k), toKeyL (ks.map kD) with | some k, some ks => some (k :: ks) | _, _ => none) = _
    rw [toKey_kD, toKeyL_map ks]
theorem map_toKeyL : ∀ {ds : List D} {ks : List Key}, toKeyL ds = some ks → ds = ks.map kD
  | [], _, h => by cases h; rfl
  | d :: ds, ks, h => by
    unfold toKeyL at h
    cases h1 : toKey d with
    | none => rw [h1] at h; cases h
    | some k =>
      cases h2 : toKeyL ds with
      | none => rw [h1, h2] at h; cases h
      | some r =>
        rw [h1, h2] at h
        cases h
        rw [kD_toKey h1, map_toKeyL h2]
        rfl
theorem toKeys_keyD (ks : List Key) : toKeys (keyD ks) = some ks := toKeyL_map ks
theorem keyD_toKeys {d : D} {ks : List Key} (h : toKeys d = some ks) : d = keyD ks := by
  cases d with
  | tuple xs => exact congrArg PyData.tuple (map_toKeyL h)
  | _ => cases h
theorem dKof_map : ∀ m : List (Key × D), dKof (m.map fun p => (kD p.1, p.2)) = some m
  | [] => rfl
  | (k, v) :: m => by
    show (match toKey (kD k), dKof (m.map fun p => (kD p.1, p.2)) with | some k, some r => some ((k, v) :: r) | _, _ => none) = _
    rw [toKey_kD, dKof_map m]
theorem dTof_map : ∀ m : List (List Key × D), dTof (m.map fun p => (keyD p.1, p.2)) = some m
  | [] => rfl
  | (k, v) :: m => by
    show (match toKeys (keyD k), dTof (m.map fun p => (keyD p.1, p.2)) with | some k, some r => some ((k, v) :: r) | _, _ => none) = _
    rw [toKeys_keyD, dTof_map m]
theorem dKof_T : ∀ {m : List (List Key × D)} {l : List (Key × D)}, dKof (m.map fun p => (keyD p.1, p.2)) = some l → m = []
  | [], _, _ => rfl
  | (k, v) :: m, l, h => by
    have h' : (match toKey (keyD k), dKof (m.map fun p => (keyD p.1, p.2)) with | some k, some r => some ((k, v) :: r) | _, _ => none) = some l := h
    rw [show toKey (keyD k) = none from rfl] at h'
    cases h'
theorem dTof_K : ∀ {m : List (Key × D)} {l : List (List Key × D)}, dTof (m.map fun p => (kD p.1, p.2)) = some l → m = []
  | [], _, _ => rfl
  | (k, v) :: m, l, h => by
    have h' : (match toKeys (kD k), dTof (m.map fun p => (kD p.1, p.2)) with | some k, some r => some ((k, v) :: r) | _, _ => none) = some l := h
    rw [show toKeys (kD k) = none by cases k <;> rfl] at h'
    cases h'
section
variable {K : PySem.W.Frag} {kl : Bool} {H : Hp} {v : V} {d : D}
theorem DV.key {k : Key} (h : DV K kl H v d) (e : toKey d = some k) : v = kV k := by
  cases d with
  | int i => cases h; cases e; rfl
  | str x => cases h; cases e; rfl
  | _ => cases e
theorem RDs.keys : ∀ {vs : List V} {ks : List Key}, RDs H vs (ks.map kD) → vs = ks.map kV
  | _, [], .nil => rfl
  | _, k :: ks, .cons r t => by
    rw [List.map_cons, RDs.keys t]
    cases k <;> (cases r; rfl)
theorem RDs.of_keys : ∀ ks : List Key, RDs H (ks.map kV) (ks.map kD)
  | [] => .nil
  | .inl i :: ks => .cons (.int i) (RDs.of_keys ks)
  | .inr x :: ks => .cons (.str x) (RDs.of_keys ks)
theorem DV.keys {ks : List Key} (h : DV K kl H v d) (e : toKeys d = some ks) : ∃ b, v = .ref b ∧ H b = some (.tup (ks.map kV)) := by
  have z := keyD_toKeys e
  subst z
  obtain ⟨a, vs, rfl, ha, r⟩ := h
  have q := RDs.keys r
  subst q
  exact ⟨a, rfl, ha⟩
theorem RDK.val {l : List (Key × V)} {m : List (Key × D)} (r : RDK H l m) (k : Key) : (∃ x y, valV l k = some x ∧ valD m k = some y ∧ RD H x y) ∨ (valV l k = none ∧ valD m k = none) := by
  unfold RDK at r
  induction r with
  | nil => exact .inr ⟨rfl, rfl⟩
  | @cons p q ps qs h t ih =>
    obtain ⟨k1, x⟩ := p
    obtain ⟨k2, y⟩ := q
    obtain ⟨e, rr⟩ := h
    have e' : k1 = k2 := e
    subst e'
    by_cases hk : k1 = k
    · exact .inl ⟨x, y, by simp [valV, hk], by simp [valD, hk], rr⟩
    · rcases ih with ⟨x1, y1, h1, h2, h3⟩ | ⟨h1, h2⟩
      · exact .inl ⟨x1, y1, by simpa [valV, hk] using h1, by simpa [valD, hk] using h2, h3⟩
      · exact .inr ⟨by simpa [valV, hk] using h1, by simpa [valD, hk] using h2⟩
theorem RDT.val {l : List (List Key × V)} {m : List (List Key × D)} (r : RDT H l m) (k : List Key) : (∃ x y, valV l k = some x ∧ valD m k = some y ∧ RD H x y) ∨ (valV l k = none ∧ valD m k = none) := by
  unfold RDT at r
  induction r with
  | nil => exact .inr ⟨rfl, rfl⟩
  | @cons p q ps qs h t ih =>
    obtain ⟨k1, x⟩ := p
    obtain ⟨k2, y⟩ := q
    obtain ⟨e, rr⟩ := h
    have e' : k1 = k2 := e
    subst e'
    by_cases hk : k1 = k
    · exact .inl ⟨x, y, by simp [valV, hk], by simp [valD, hk], rr⟩
    · rcases ih with ⟨x1, y1, h1, h2, h3⟩ | ⟨h1, h2⟩
      · exact .inl ⟨x1, y1, by simpa [valV, hk] using h1, by simpa [valD, hk] using h2, h3⟩
      · exact .inr ⟨by simpa [valV, hk] using h1, by simpa [valD, hk] using h2⟩
end
/-- what a dict of data holds at a key: some none is «not there» -/
def lookD (kvs : List (D × D)) (k : D) : Option (Option D) := match toKey k with
  | some k => match dKof kvs with
    | some m => some (valD m k)
    | none => none
  | none => match toKeys k with
    | some k => match dTof kvs with
      | some m => some (valD m k)
      | none => none
    | none => none
/-- where an empty dict stands it is a dict of either kind -/
def EmptyAt (H : Hp) (a : Addr) : Prop := Rd H a (.dK []) ∨ Rd H a (.dT [])
section
variable {K : PySem.W.Frag} {kl : Bool} {H : Hp} {v : V} {d : D}
theorem lookD_get {kvs : List (D × D)} {x : D} {o : Option D} {u : V} (h : DV K kl H v (.dict kvs)) (hk : DV K kl H u x) (e : lookD kvs x = some o) :
    ∃ a, v = .ref a ∧ ((∃ w, DGet H a u w ∧ (∀ y, o = some y → ∃ z, w = some z ∧ RD H z y) ∧ (o = none → w = none)) ∨ (o = none ∧ EmptyAt H a ∧ ((∃ k : Key, u = kV k) ∨ ∃ (k : List Key) (b : Addr), u = .ref b ∧ H b = some (.tup (k.map kV))))) := by
  obtain ⟨a, rfl, hd⟩ := h
  refine ⟨a, rfl, ?_⟩
  unfold lookD at e
  cases h1 : toKey x with
  | some k =>
    simp only [h1] at e
    have hu := DV.key hk h1
    cases h2 : dKof kvs with
    | none => simp only [h2] at e; cases e
    | some m =>
      simp only [h2] at e
      cases e
      rcases hd with ⟨ws, m', hr, rr, rfl⟩ | ⟨ws, m', hr, rr, rfl⟩
      · rw [dKof_map] at h2
        cases h2
        refine .inl ⟨valV ws k, .inl ⟨ws, k, hr, hu, rfl⟩, fun y q => ?_, fun q => ?_⟩
        · rcases rr.val k with ⟨x1, y1, h3, h4, h5⟩ | ⟨h3, h4⟩
          · rw [q] at h4; cases h4; exact ⟨x1, h3, h5⟩
          · rw [q] at h4; cases h4
        · rcases rr.val k with ⟨x1, y1, h3, h4, h5⟩ | ⟨h3, h4⟩
          · rw [q] at h4; cases h4
          · exact h3
      · have z := dKof_T h2
        subst z
        cases h2
        cases rr
        exact .inr ⟨rfl, .inr hr, .inl ⟨k, hu⟩⟩
  | none =>
    simp only [h1] at e
    cases h1' : toKeys x with
    | none => simp only [h1'] at e; cases e
    | some k =>
      simp only [h1'] at e
      obtain ⟨b, hu, hb⟩ := DV.keys hk h1'
      cases h2 : dTof kvs with
      | none => simp only [h2] at e; cases e
      | some m =>
        simp only [h2] at e
        cases e
        rcases hd with ⟨ws, m', hr, rr, rfl⟩ | ⟨ws, m', hr, rr, rfl⟩
        · have z := dTof_K h2
          subst z
          cases h2
          cases rr
          exact .inr ⟨rfl, .inl hr, .inr ⟨k, b, hu, hb⟩⟩
        · rw [dTof_map] at h2
          cases h2
          refine .inl ⟨valV ws k, .inr ⟨ws, k, b, hr, hu, hb, rfl⟩, fun y q => ?_, fun q => ?_⟩
          · rcases rr.val k with ⟨x1, y1, h3, h4, h5⟩ | ⟨h3, h4⟩
            · rw [q] at h4; cases h4; exact ⟨x1, h3, h5⟩
            · rw [q] at h4; cases h4
          · rcases rr.val k with ⟨x1, y1, h3, h4, h5⟩ | ⟨h3, h4⟩
            · rw [q] at h4; cases h4
            · exact h3
end

/-! ### in, not in -/
def inD (x y : D) : Option Bool := match y with
  | .list ys => if okD 40 x && okDs 40 ys then some (ys.any fun z => PyData.eqv z x) else none
  | .tuple ys => if okD 40 x && okDs 40 ys then some (ys.any fun z => PyData.eqv z x) else none
  | .dict kvs => (lookD kvs x).map (·.isSome)
  | _ => none
def pIn (x y : D) : Option R := (inD x y).map bR
def pNotIn (x y : D) : Option R := (inD x y).map fun b => bR (!b)
section
variable {X : Cx} {K : PySem.W.Frag} {kl : Bool}
theorem empty_in {pins : List (Addr × Obj)} {σ : L2.St} {H : Hp} {s : Shared} {a : Addr} {u : V} {w : Value} {A : Around} {E Q : Value → Shared → Prop} (hu : A.units + 1 < cLine) (I : Inv X pins σ H s) (h : EmptyAt H a)
    (k : (∃ k : Key, u = kV k) ∨ ∃ (k : List Key) (b : Addr), u = .ref b ∧ H b = some (.tup (k.map kV))) (ru : RelV u w) (q : ∀ t, Q (.bool false) { s with toks := t }) : wpAny (model X.prog X.w) A (compareOp .In w (.ref a)) Q E s := by
  have raw : (a == sysModules) = false ∧ ∃ o es ep, s.heap.get? a = some o ∧ o.ExactDict ∧ o.data = .dict es ep ∧ es.toList = [] := by
    rcases h with h | h
    · obtain ⟨_, z, vs, rel, o, es, ep, e1, e2, e3, e4, e5, e6⟩ := dk_rd I.hok h
      cases rel
      refine ⟨z, o, es, ep, e1, e2, e3, ?_⟩
      have l := e5.length
      exact List.eq_nil_of_length_eq_zero l
    · obtain ⟨_, z, xs, rel, o, es, ep, e1, e2, e3, e4, _⟩ := dt_rd I.hok h
      cases rel
      exact ⟨z, o, es, ep, e1, e2, e3, e4⟩
  obtain ⟨z, o, es, ep, e1, e2, e3, e4⟩ := raw
  have hes : es = #[] := by
    cases es
    simp only at e4
    rw [e4]
  subst hes
  rcases k with ⟨k, rfl⟩ | ⟨k, b, rfl, hb⟩
  · have dd : s.heap.DictOf (mixKind X.prog X.w) a [] := ⟨o, #[], ep, e1, e2, e3, (by intro e he; simp at he), .nil, List.nodup_nil⟩
    exact wpAny_in_of (kV_is ru) z dd.mapOf (q _)
  · cases (show w = Value.ref b from ru)
    have dd : s.heap.DictOfH (tupleKind (mixKind X.prog X.w)) a [] := ⟨o, #[], ep, e1, e2, e3, rfl, fun _ hx => (by simp at hx), List.nodup_nil⟩
    exact wpAny_in_heap (tupleKind_room_in1 hu) (key_of I.hok hb) z dd (q _)
theorem empty_notIn {pins : List (Addr × Obj)} {σ : L2.St} {H : Hp} {s : Shared} {a : Addr} {u : V} {w : Value} {A : Around} {E Q : Value → Shared → Prop} (hu : A.units + 1 < cLine) (I : Inv X pins σ H s) (h : EmptyAt H a)
    (k : (∃ k : Key, u = kV k) ∨ ∃ (k : List Key) (b : Addr), u = .ref b ∧ H b = some (.tup (k.map kV))) (ru : RelV u w) (q : ∀ t, Q (.bool true) { s with toks := t }) : wpAny (model X.prog X.w) A (compareOp .NotIn w (.ref a)) Q E s := by
  have raw : (a == sysModules) = false ∧ ∃ o es ep, s.heap.get? a = some o ∧ o.ExactDict ∧ o.data = .dict es ep ∧ es.toList = [] := by
    rcases h with h | h
    · obtain ⟨_, z, vs, rel, o, es, ep, e1, e2, e3, e4, e5, e6⟩ := dk_rd I.hok h
      cases rel
      exact ⟨z, o, es, ep, e1, e2, e3, List.eq_nil_of_length_eq_zero e5.length⟩
    · obtain ⟨_, z, xs, rel, o, es, ep, e1, e2, e3, e4, _⟩ := dt_rd I.hok h
      cases rel
      exact ⟨z, o, es, ep, e1, e2, e3, e4⟩
  obtain ⟨z, o, es, ep, e1, e2, e3, e4⟩ := raw
  have hes : es = #[] := by
    cases es
    simp only at e4
    rw [e4]
  subst hes
  rcases k with ⟨k, rfl⟩ | ⟨k, b, rfl, hb⟩
  · have dd : s.heap.DictOf (mixKind X.prog X.w) a [] := ⟨o, #[], ep, e1, e2, e3, (by intro e he; simp at he), .nil, List.nodup_nil⟩
    exact wpAny_notIn_of (kV_is ru) z dd.mapOf (q _)
  · cases (show w = Value.ref b from ru)
    have dd : s.heap.DictOfH (tupleKind (mixKind X.prog X.w)) a [] := ⟨o, #[], ep, e1, e2, e3, rfl, fun _ hx => (by simp at hx), List.nodup_nil⟩
    exact wpAny_notIn_heap (tupleKind_room_in1 hu) (key_of I.hok hb) z dd (q _)
theorem in_room {A : Around} {x : D} {ys : List D} (hx : okD 40 x = true) (hu : A.units + 64 < cLine) : A.units + 1 + min (PyData.depthAll ys) x.depth < cLine := by
  have := (okD_lay 40 x hx).2
  omega
def rInA (K : PySem.W.Frag) (f : Bool → Bool) : R2 := fun x y H Q => ∃ d e b, DV K false H x d ∧ DV K false H y e ∧ inD d e = some b ∧ Q (.bl (f b)) H
theorem o_in (hu : X.A.units + 64 < cLine) : OpR X (compareOp .In) (rInA X.K id) := by
  intro pins s σ H x y v u Q I rx ry h
  obtain ⟨d, e, b, hd, he, hb, q⟩ := h
  have fin : EP X pins σ Q (.bool b) s := ⟨.bl b, H, I, rfl, q⟩
  cases e with
  | list ys =>
    simp only [inD] at hb
    split at hb
    · rename_i hz
      cases hb
      have hz := Bool.and_eq_true_iff.mp hz
      obtain ⟨as, r1⟩ := Dp.reads I d x v (DV.dp hd hz.1) rx
      obtain ⟨bs, r2⟩ := Dp.reads I (.list ys) y u (DV.dp (n := 41) he (by simpa [okD] using hz.2)) ry
      exact SeqAt.in_list_reads r2 r1 (okDs_lay 40 ys hz.2).1 (okD_lay 40 d hz.1).1 (in_room hz.1 hu) fin
    · cases hb
  | tuple ys =>
    simp only [inD] at hb
    split at hb
    · rename_i hz
      cases hb
      have hz := Bool.and_eq_true_iff.mp hz
      obtain ⟨as, r1⟩ := Dp.reads I d x v (DV.dp hd hz.1) rx
      obtain ⟨bs, r2⟩ := Dp.reads I (.tuple ys) y u (DV.dp (n := 41) he (by simpa [okD] using hz.2)) ry
      exact SeqAt.in_tuple_reads r2 r1 (okDs_lay 40 ys hz.2).1 (okD_lay 40 d hz.1).1 (in_room hz.1 hu) fin
    · cases hb
  | dict kvs =>
    simp only [inD] at hb
    obtain ⟨o, ho, hb⟩ := Option.map_eq_some_iff.mp hb
    obtain ⟨a, rfl, hg⟩ := lookD_get he hd ho
    cases ry
    rcases hg with ⟨w, g, g1, g2⟩ | ⟨rfl, em, k⟩
    · refine d_in (by omega) I g rx fun s' I' => ⟨.bl w.isSome, H, I', rfl, ?_⟩
      have : w.isSome = b := by
        cases o with
        | none => rw [g2 rfl]; exact hb
        | some y => obtain ⟨z, hz, _⟩ := g1 y rfl; rw [hz]; exact hb
      rw [this]
      exact q
    · refine empty_in (by omega) I em k rx fun t => ⟨.bl false, H, I.tok t, rfl, ?_⟩
      have : false = b := hb
      rw [this]
      exact q
  | _ => simp [inD] at hb
theorem o_notIn (hu : X.A.units + 64 < cLine) : OpR X (compareOp .NotIn) (rInA X.K not) := by
  intro pins s σ H x y v u Q I rx ry h
  obtain ⟨d, e, b, hd, he, hb, q⟩ := h
  have fin : EP X pins σ Q (.bool (!b)) s := ⟨.bl (!b), H, I, rfl, q⟩
  cases e with
  | list ys =>
    simp only [inD] at hb
    split at hb
    · rename_i hz
      cases hb
      have hz := Bool.and_eq_true_iff.mp hz
      obtain ⟨as, r1⟩ := Dp.reads I d x v (DV.dp hd hz.1) rx
      obtain ⟨bs, r2⟩ := Dp.reads I (.list ys) y u (DV.dp (n := 41) he (by simpa [okD] using hz.2)) ry
      exact SeqAt.notIn_list_reads r2 r1 (okDs_lay 40 ys hz.2).1 (okD_lay 40 d hz.1).1 (in_room hz.1 hu) fin
    · cases hb
  | tuple ys =>
    simp only [inD] at hb
    split at hb
    · rename_i hz
      cases hb
      have hz := Bool.and_eq_true_iff.mp hz
      obtain ⟨as, r1⟩ := Dp.reads I d x v (DV.dp hd hz.1) rx
      obtain ⟨bs, r2⟩ := Dp.reads I (.tuple ys) y u (DV.dp (n := 41) he (by simpa [okD] using hz.2)) ry
      exact SeqAt.notIn_tuple_reads r2 r1 (okDs_lay 40 ys hz.2).1 (okD_lay 40 d hz.1).1 (in_room hz.1 hu) fin
    · cases hb
  | dict kvs =>
    simp only [inD] at hb
    obtain ⟨o, ho, hb⟩ := Option.map_eq_some_iff.mp hb
    obtain ⟨a, rfl, hg⟩ := lookD_get he hd ho
    cases ry
    rcases hg with ⟨w, g, g1, g2⟩ | ⟨rfl, em, k⟩
    · refine d_notIn (by omega) I g rx fun s' I' => ⟨.bl (!w.isSome), H, I', rfl, ?_⟩
      have : w.isSome = b := by
        cases o with
        | none => rw [g2 rfl]; exact hb
        | some y => obtain ⟨z, hz, _⟩ := g1 y rfl; rw [hz]; exact hb
      rw [this]
      exact q
    · refine empty_notIn (by omega) I em k rx fun t => ⟨.bl true, H, I.tok t, rfl, ?_⟩
      have : false = b := hb
      rw [← this] at q
      exact q
  | _ => simp [inD] at hb
theorem g_in : Op2 K false (rInA K id) pIn := by
  intro H v1 v2 x y res Q h1 h2 e q
  obtain ⟨b, hb, rfl⟩ := Option.map_eq_some_iff.mp e
  exact ⟨x, y, b, h1, h2, hb, q _ _ (Post.dat (.bl b))⟩
theorem g_notIn : Op2 K false (rInA K not) pNotIn := by
  intro H v1 v2 x y res Q h1 h2 e q
  obtain ⟨b, hb, rfl⟩ := Option.map_eq_some_iff.mp e
  exact ⟨x, y, b, h1, h2, hb, q _ _ (Post.dat (.bl (!b)))⟩

/-! ### places -/
def pIx (x y : D) : Option R := match x, y with
  | .list xs, .int i => (atI xs i).map .d
  | .tuple xs, .int i => (atI xs i).map .d
  | .dict kvs, k => match lookD kvs k with
    | some (some d) => some (.d d)
    | _ => none
  | _, _ => none
theorem RDs.at {H : Hp} {vs : List V} {ds : List D} {i : Int} {d : D} (r : RDs H vs ds) (h : atI ds i = some d) : ∃ v, atI vs i = some v ∧ RD H v d := by
  unfold atI at h ⊢
  rw [r.length]
  cases e : ixN ds.length i with
  | none => rw [e] at h; cases h
  | some j => rw [e] at h; exact r.get h
def rIxD : R2 := fun x y H Q => ∃ a v, x = .ref a ∧ DGet H a y (some v) ∧ Q v H
theorem ix_dict (hu : X.A.units + 1 < cLine) : IxR X rIxD := by
  intro value slice pins s σ H x y v u Q I rx ry h hs
  obtain ⟨a, z, rfl, g, q⟩ := h
  cases rx
  exact tail_any (dict_typeIs I g) PySem.F.slot_dict_getitem.lookup (d_getItem hu I g ry fun w' s3 I3 rw' => ⟨z, H, I3, rw', q⟩) hs
def rIxA (K : PySem.W.Frag) : R2 := fun x y H Q => rIxL K x y H Q ∨ rIxT K x y H Q ∨ rIxD x y H Q
theorem o_ix (hu : X.A.units + 1 < cLine) : IxR X (rIxA X.K) := IxR.or ix_list (IxR.or ix_tup (ix_dict hu))
theorem g_ix : Op2 K kl (rIxA K) pIx := by
  intro H v1 v2 x y res Q h1 h2 e q
  cases x with
  | list xs =>
    cases y with
    | int i =>
      obtain ⟨d, hd, rfl⟩ := Option.map_eq_some_iff.mp (show (atI xs i).map R.d = some res from e)
      obtain ⟨a, vs, rfl, sq, r⟩ := DV.sq h1
      cases h2
      obtain ⟨w, hw, rw'⟩ := r.at hd
      exact .inl ⟨a, vs, i, w, rfl, rfl, sq, hw, q _ _ (Post.dat rw')⟩
    | _ => exact nomatch e
  | tuple xs =>
    cases y with
    | int i =>
      obtain ⟨d, hd, rfl⟩ := Option.map_eq_some_iff.mp (show (atI xs i).map R.d = some res from e)
      obtain ⟨a, vs, rfl, sq, r⟩ := h1
      cases h2
      obtain ⟨w, hw, rw'⟩ := r.at hd
      exact .inr (.inl ⟨a, vs, i, w, rfl, rfl, .inl (.inl sq), hw, q _ _ (Post.dat rw')⟩)
    | _ => exact nomatch e
  | dict kvs =>
    have e' : (match lookD kvs y with | some (some d) => some (R.d d) | _ => none) = some res := e
    cases ho : lookD kvs y with
    | none => rw [ho] at e'; cases e'
    | some o =>
      cases o with
      | none => rw [ho] at e'; cases e'
      | some d =>
        rw [ho] at e'
        cases e'
        obtain ⟨a, rfl, hg⟩ := lookD_get h1 h2 ho
        rcases hg with ⟨w, g, g1, g2⟩ | ⟨z, _⟩
        · obtain ⟨z, hz, rz⟩ := g1 d rfl
          rw [hz] at g
          exact .inr (.inr ⟨a, z, rfl, g, q _ _ (Post.dat rz)⟩)
        · cases z
  | _ => cases y <;> exact nomatch e

/-! ### len -/
def pLen : List D → Option R
  | [.list xs] => some (.d (.int xs.length))
  | [.tuple xs] => some (.d (.int xs.length))
  | [.dict xs] => some (.d (.int xs.length))
  | _ => none
def rLenD : List V → Hp → VK → Prop := fun xs H Q => ∃ p, xs = [.ref p] ∧ ((∃ kvs, Rd H p (.dK kvs) ∧ Q (.int ((kvs.length : Nat) : Int)) H) ∨ ∃ kvs, Rd H p (.dT kvs) ∧ Q (.int ((kvs.length : Nat) : Int)) H)
theorem call_len_dD : CallR X (.builtin "len") rLenD := by
  intro pins s σ H xs us Q I r h
  obtain ⟨p, rfl, h⟩ := h
  have e := Vals.ref1 r
  subst e
  rcases h with ⟨kvs, hp, q⟩ | ⟨kvs, hp, q⟩
  · exact d_len I hp fun t s' I' => ⟨.int ((kvs.length : Nat) : Int), H, I', ⟨t, rfl⟩, q⟩
  · obtain ⟨z, hd, xs, rel, dd⟩ := dt_rd I.hok hp
    have hl := Paired.length rel
    refine call_len_dictH hd dd (by rw [← hl]; rw [sizeLine_eq] at z; omega) ⟨.int ((kvs.length : Nat) : Int), H, I.tok _, ⟨_, by rw [hl]⟩, q⟩
def rLenA (K : PySem.W.Frag) : List V → Hp → VK → Prop := fun xs H Q => (∃ p ys, xs = [.ref p] ∧ (SqL K H p ys ∨ SqT K H p ys) ∧ Q (.int ys.length) H) ∨ rLenD xs H Q
theorem o_len : CallR X (.builtin "len") (rLenA X.K) := CallR.or call_len_seq call_len_dD
theorem g_len : OpN K kl (rLenA K) pLen := by
  intro H vs xs res Q h e q
  cases h with
  | nil => cases e
  | cons h1 t =>
    cases t with
    | cons _ _ => simp [pLen] at e
    | nil =>
      rename_i v x
      cases x with
      | list xs =>
        cases e
        obtain ⟨a, vs, rfl, sq, r⟩ := DV.sq h1
        exact .inl ⟨a, vs, rfl, .inl sq, by rw [r.length]; exact q _ _ (Post.dat (.int _))⟩
      | tuple xs =>
        cases e
        obtain ⟨a, vs, rfl, sq, r⟩ := h1
        exact .inl ⟨a, vs, rfl, .inr (.inl (.inl sq)), by rw [r.length]; exact q _ _ (Post.dat (.int _))⟩
      | dict xs =>
        cases e
        obtain ⟨a, rfl, ⟨ws, m, hr, rr, rfl⟩ | ⟨ws, m, hr, rr, rfl⟩⟩ := h1
        · have hl := Paired.length rr
          rw [List.length_map, ← hl] at q
          exact .inr ⟨a, rfl, .inl ⟨ws, hr, q _ _ (Post.dat (.int _))⟩⟩
        · have hl := Paired.length rr
          rw [List.length_map, ← hl] at q
          exact .inr ⟨a, rfl, .inr ⟨ws, hr, q _ _ (Post.dat (.int _))⟩⟩
      | _ => exact nomatch e
end
end Pw

set_option Elab.async false
set_option linter.all false
set_option maxRecDepth 100000
set_option maxHeartbeats 2000000
/-! Pw: cuts, turned about; the built-in calls on data. -/
namespace Pw
open PySem PySem.Spec PyProof.Rows L2

/-! ### cuts -/
abbrev MO := En → Res (Option Int)
def mNo : MO := fun e => .ok none e
def mSo (m : ME) : MO := fun env => (m env).bind fun r e => match r.dat true e with
  | some (.int i) => .ok (some i) e
  | _ => .st
def tO (C : Cy) (m : MO) : TO := fun σ H Q => ∃ H0 P env L, Rel C.K C.OW H0 P env σ H L ∧ Sat C H0 P σ L (m env) fun o e => ∀ H', Rel C.K C.OW H0 P e σ H' L → Q o H'
abbrev DO (X : Cx) (W : WX) (OW : Nat → Bool) (e : Option Expr) (m : MO) : Prop := PO X e (tO (cy X W OW) m)
def cutL {α : Type} (xs : List α) (lo hi : Option Int) : List α := (xs.drop (HT.sIx xs.length 0 lo)).take (HT.sIx xs.length xs.length hi - HT.sIx xs.length 0 lo)
def pCut (x : D) (lo hi : Option Int) : Option R := match x with
  | .list xs => some (.ol (cutL xs lo hi))
  | .tuple xs => some (.d (.tuple (cutL xs lo hi)))
  | _ => none
def mCut (m : ME) (lo hi : MO) : ME := fun env => (m env).bind fun r e1 => (lo e1).bind fun l e2 => (hi e2).bind fun h e3 => match r.dat true e3 with
  | some x => match pCut x l h with
    | some r => .ok r e3
    | none => .st
  | none => .st
def mRev (m : ME) : ME := m1 true (fun x => match x with
  | .list xs => some (.ol xs.reverse)
  | .tuple xs => some (.d (.tuple xs.reverse))
  | _ => none) m
section
variable {prog : Program} {w : World} {A : Around} {E : Value → Shared → Prop} {s : Shared}
theorem rev_pick (xs : Array Value) : ((List.range xs.size).filterMap fun (m : Nat) => xs[((xs.size : Int) - 1 + (m : Int) * (-1)).toNat]?).toArray = xs.toList.reverse.toArray := by
  have e : (fun (m : Nat) => xs[((xs.size : Int) - 1 + (m : Int) * (-1)).toNat]?) = fun m => xs[xs.size - 1 - m]? := by
    funext m
    congr 1
    omega
  rw [e]
  have k : ((List.range xs.size).filterMap fun m => xs[xs.size - 1 - m]?) = ((List.range xs.size).map fun k => xs.size - 1 - k).filterMap (xs[·]?) := by
    rw [List.filterMap_map]
    rfl
  rw [k, PySem.W.krv_range, List.filterMap_reverse, PySem.W.krv_all]
theorem getItem_tuple_rev {t sl : Addr} {items : Array Value} {vl vu vs : Value} {Q : Value → Shared → Prop} (ht : IsTup s.heap t items) (hs : s.heap.IsSliceOf sl vl vu vs) (pl : IsPart vl none) (pu : IsPart vu none) (ps : IsPart vs (some (-1)))
    (h : Q (.ref s.heap.objs.size) { s with heap := s.heap.push { cls := .type "tuple", data := .seq items.toList.reverse.toArray } }) (hsz : items.size ≤ sizeLine) : wpAny (model prog w) A (getItem (.ref t) (.ref sl)) Q E s := by
  have take : sizeOk (.seq items.toList.reverse.toArray) := by
    show items.toList.reverse.toArray.size ≤ sizeLine
    rw [List.size_toArray, List.length_reverse, Array.length_toList]
    exact hsz
  obtain ⟨os, h1, h2, h3⟩ := id hs
  have hT : s.TypeIs (.ref sl) "slice" := ⟨os, h1, h2⟩
  unfold getItem
  try with_reducible refine wpAny_holding ?_
  first | refine wpAny_bind (wpAny_pure ?_) | skip
  refine wpAny_bind (wpAny_sequenceKey ht.typeIs (by decide) ?_)
  refine wpAny_bind (wpAny_callSpecial?_slot (name := Str.ofString "__getitem__") ht.typeIs PyProof.Rows.slot_tuple_getitem
    (wpAny_call_entry PyProof.Rows.slot_tuple_getitem ht.typeIs entry_tuple_getitem ?_ (args_tuple_getitem _ _)))
  show wpAny _ _ (Builtin.Tuple.tupleItemsOf (.ref t) >>= _) _ _ s
  refine wpAny_bind (tupleItemsOf_ ht (wpAny_bind (wpAny_typeOf hT ?_)))
  rw [if_pos (by decide)]
  refine wpAny_bind ?_
  show wpAny _ _ (Builtin.Slice.sliceApplied (.ref sl) (pure (items.size : Int))) _ _ s
  unfold Builtin.Slice.sliceApplied Builtin.Slice.sliceFields
  refine wpAny_bind (wpAny_bind (wpAny_field h1 h3 (x := vl) rfl (wpAny_bind (wpAny_field h1 h3 (x := vu) rfl (wpAny_bind (wpAny_field h1 h3 (x := vs) rfl (wpAny_pure ?_)))))))
  refine wpAny_bind (HT.slicePart_ ps ?_)
  show wpAny _ _ (if ((-1 : Int) == 0) = true then _ else _) _ _ s
  rw [if_neg (by decide)]
  refine wpAny_bind (HT.slicePart_ pl (wpAny_bind (HT.slicePart_ pu (wpAny_bind (wpAny_pure ?_)))))
  have places : Builtin.Slice.slicePlaces ((items.size : Int) - 1) (-1) (-1) = items.size := by
    unfold Builtin.Slice.slicePlaces
    have z1 : ¬ ((-1 : Int) > 0) := by omega
    simp only [z1, if_false, Int.neg_neg, Int.ediv_one]
    split <;> omega
  show wpAny _ _ (pure ((items.size : Int) - 1, (-1 : Int), Builtin.Slice.slicePlaces ((items.size : Int) - 1) (-1) (-1))) _ _ s
  rw [places]
  refine wpAny_pure ?_
  show wpAny _ _ (if (((items.size : Int) - 1) == 0 && (-1 : Int) == 1 && items.size == items.size) = true then _ else _) _ _ s
  rw [if_neg (by simp), rev_pick]
  first
    | exact wpAny_bind (m := Builtin.Tuple.tupleExact _) (wpAny_newObj_type (wpAny_pure ⟨_, rfl, wpAny_pure h⟩) take)
    | exact wpAny_bind (m := Builtin.Tuple.tupleExact _) (wpAny_newObj_type (wpAny_bind (wpAny_pure (wpAny_pure ⟨_, rfl, wpAny_pure h⟩))) take)
    | exact wpAny_bind (wpAny_bind (m := Builtin.Tuple.tupleExact _) (wpAny_newObj_type (wpAny_pure (wpAny_pure ⟨_, rfl, wpAny_pure h⟩)) take))
    | exact wpAny_bind (wpAny_bind (m := Builtin.Tuple.tupleExact _) (wpAny_newObj_type (wpAny_pure ⟨_, rfl, wpAny_pure h⟩) take))
end
section
variable {X : Cx} {W : WX} {OW : Nat → Bool} {K : PySem.W.Frag} {e : Expr} {lo hi : Option Expr} {m : ME} {ml mh : MO} {pos p2 : Pos}
theorem do_none : DO X W OW none mNo := ⟨fun pins s σ H Q I ⟨H0, P, env, L, Rl, S⟩ => po_none.run pins s σ H Q I (S H Rl)⟩
theorem do_some (h : DE X W OW e m) : DO X W OW (some e) (mSo m) := ⟨fun pins s σ H Q I ⟨H0, P, env, L, Rl, S⟩ => (po_some h).run pins s σ H Q I ⟨H0, P, env, L, Rl, S.bind.mono fun r e1 _ S1 v H1 R1 => by
  cases hd : r.dat true e1 with
  | none => simp only [hd] at S1; exact S1.elim
  | some x =>
    cases x with
    | int i =>
      simp only [hd] at S1
      have hv := R1.dv List.mem_cons_self hd
      exact ⟨i, hv, S1 H1 R1.drop⟩
    | _ => simp only [hd] at S1; exact S1.elim⟩⟩
def rCut (K : PySem.W.Frag) : V → Option Int → Option Int → Hp → VK → Prop := fun x lo hi H Q => rSlL K x lo hi H Q ∨ rSlA K x lo hi H Q
theorem o_cut : SlR X (rCut X.K) := SlR.or sl_list sl_tupA
theorem RDs.cut {H : Hp} {vs : List V} {ds : List D} (r : RDs H vs ds) (lo hi : Option Int) : RDs H (cutV vs lo hi) (cutL ds lo hi) := by
  unfold cutV cutL
  rw [r.length]
  exact (r.drop _).take _
theorem cutL_whole {α : Type} {xs : List α} {lo hi : Option Int} (h : HT.sIx xs.length 0 lo = 0 ∧ HT.sIx xs.length xs.length hi = xs.length) : cutL xs lo hi = xs := by
  unfold cutL
  rw [h.1, h.2]
  simp
theorem g_cut {H : Hp} {v : V} {x : D} {lo hi : Option Int} {res : R} {Q : VK} (h1 : DV K true H v x) (e : pCut x lo hi = some res) (q : ∀ v H', Post K H H' v res → Q v H') : rCut K v lo hi H Q := by
  cases x with
  | list xs =>
    cases e
    obtain ⟨a, vs, rfl, sq, r⟩ := DV.sq h1
    exact .inl ⟨a, vs, rfl, sq, fun p hp => q _ _ (Post.olNew hp (r.cut lo hi))⟩
  | tuple xs =>
    cases e
    obtain ⟨a, vs, rfl, sq, r⟩ := h1
    refine .inr ⟨a, vs, rfl, .inl (.inl sq), fun z => ?_, fun z p hp => q _ _ (Post.tupNew hp (r.cut lo hi))⟩
    rw [r.length] at z
    rw [cutL_whole z] at q
    exact q _ _ (Post.dat (.tup sq r))
  | _ => cases e
theorem de_cut (h : DE X W OW e m) (hl : DO X W OW lo ml) (hh : DO X W OW hi mh) : DE X W OW (.Subscript e (.Slice lo hi none p2) pos) (mCut m ml mh) := by
  refine pe_le (pe_slice o_cut h hl hh) fun σ H Q ⟨H0, P, env, L, Rl, S⟩ => ?_
  refine ⟨H0, P, env, L, Rl, S.bind.mono fun r e1 _ S1 v H1 R1 => ⟨H0, P, e1, (v, r) :: L, R1, ?_⟩⟩
  refine ((Sat.bind S1).wait fun _ _ q => q.drop).mono fun l e2 _ S2 H2 R2 => ⟨H0, P, e2, (v, r) :: L, R2, ?_⟩
  refine ((Sat.bind S2).wait fun _ _ q => q.drop).mono fun u e3 _ S3 H3 R3 => ?_
  cases hd : r.dat true e3 with
  | none => simp only [hd] at S3; exact S3.elim
  | some x =>
    simp only [hd] at S3
    cases hc : pCut x l u with
    | none => simp only [hc] at S3; exact S3.elim
    | some res =>
      simp only [hc] at S3
      exact g_cut (R3.dv List.mem_cons_self hd) hc fun w H' p => S3 w H' (R3.drop.post p)
/-- x[::-1] -/
theorem pe_revA {k : Nat} {p1 p2 p3 : Pos} {te : TE} (he : PE X e te) : PE X (.Subscript e (.Slice none none (some (.UnaryOp .USub (.Constant (.int 1) k p1) p2)) p3) pos)
    (tUn (fun x H Q => (∃ a xs, x = .ref a ∧ SqL X.K H a xs ∧ ∀ p, H p = none → Q (.ref p) (upd H p (.lst xs.reverse))) ∨ ∃ a xs, x = .ref a ∧ SqT X.K H a xs ∧ ∀ p, H p = none → Q (.ref p) (upd H p (.tup xs.reverse))) te) := by
  refine ⟨fun pins s σ H Q I h => ?_⟩
  refine Subscript_ (thn (he.run pins s σ H _ I h) fun v s1 ⟨x, H1, I1, r1, q1⟩ => ?_)
  have step : PO X (some (.UnaryOp .USub (.Constant (.int 1) k p1) p2)) (tPart (tUn (rU fun i => .int (-i)) (tC (.int 1)))) := po_some (pe_un un_neg pe_int)
  refine wpAny_Slice (thn (po_none.run pins s1 σ H1 (fun o H2 => o = none ∧ H2 = H1) I1 ⟨rfl, rfl⟩) fun vl s2 ⟨l, H2, I2, pl, el, e2⟩ => ?_)
  subst el e2
  refine thn (po_none.run pins s2 σ H2 (fun o H3 => o = none ∧ H3 = H2) I2 ⟨rfl, rfl⟩) fun vu s3 ⟨u, H3, I3, pu, eu, e3⟩ => ?_
  subst eu e3
  refine thn (step.run pins s3 σ H3 (fun o H4 => o = some (-1) ∧ H4 = H3) I3 ⟨1, rfl, -1, rfl, rfl, rfl⟩) fun vs s4 ⟨o, H4, I4, ps, eo, e4⟩ => ?_
  subst eo e4
  have I5 : Inv X pins σ H4 { s4 with heap := s4.heap.push { cls := .type "slice", data := .fields #[vl, vu, vs] } } := I4.kept (t' := s4.toks) fun b ob q => Heap.get?_push_of_some _ q
  rcases q1 with ⟨a, xs, ex, hx, q⟩ | ⟨a, xs, ex, hx, q⟩
  · subst ex
    cases r1
    obtain ⟨us, r, pt, hz⟩ := I5.list hx
    have hn := r.length
    refine tail_any (ops := [.ref a, .ref s4.heap.objs.size]) pt.isList.typeIs (PySem.slot_list_getitem.lookup) (wpAny_getItem_list_slice pt.isList (Heap.IsSliceOf.new _ vl vu vs) pl pu ps (by decide) ?_ (by rw [List.size_toArray]; omega)) (by with_unfolding_all rfl)
    rw [PySem.W.krv_pick]
    refine ⟨.ref _, _, I5.laid (t' := s4.toks) (o := .lst xs.reverse) (fun b ob q => Heap.get?_push_of_some _ q) (Nat.le_refl _) ?_, rfl, q _ (I5.hok.fresh (Nat.le_refl _))⟩
    exact ⟨by simpa using hz, _, 0, r.reverse, Heap.get?_push_size _ rfl⟩
  · subst ex
    cases r1
    obtain ⟨us, r, pt, hz⟩ := I5.tuple hx
    have hn := r.length
    refine tail_any (ops := [.ref a, .ref s4.heap.objs.size]) pt.typeIs (PyProof.Rows.slot_tuple_getitem.lookup) (getItem_tuple_rev pt (Heap.IsSliceOf.new _ vl vu vs) pl pu ps ?_ (by rw [List.size_toArray]; omega)) (by with_unfolding_all rfl)
    refine ⟨.ref _, _, I5.laid (t' := s4.toks) (o := .tup xs.reverse) (fun b ob q => Heap.get?_push_of_some _ q) (Nat.le_refl _) ?_, rfl, q _ (I5.hok.fresh (Nat.le_refl _))⟩
    exact ⟨by simpa using hz, _, r.reverse, IsTup.new _ _⟩
theorem de_rev {k : Nat} {p1 p2 p3 : Pos} (h : DE X W OW e m) : DE X W OW (.Subscript e (.Slice none none (some (.UnaryOp .USub (.Constant (.int 1) k p1) p2)) p3) pos) (mRev m) := by
  refine pe_le (pe_revA h) fun _ _ _ h => op1_le ?_ h
  intro H v1 x res Q h1 e q
  cases x with
  | list xs =>
    cases e
    obtain ⟨a, vs, rfl, sq, r⟩ := DV.sq h1
    exact .inl ⟨a, vs, rfl, sq, fun p hp => q _ _ (Post.olNew hp r.rev)⟩
  | tuple xs =>
    cases e
    obtain ⟨a, vs, rfl, sq, r⟩ := h1
    exact .inr ⟨a, vs, rfl, .inl (.inl sq), fun p hp => q _ _ (Post.tupNew hp r.rev)⟩
  | _ => cases e
end
end Pw

set_option Elab.async false
set_option linter.all false
set_option maxRecDepth 100000
set_option maxHeartbeats 2000000
/-! Pw: the built-in calls on data. -/
namespace Pw
open PySem PySem.Spec PyProof.Rows L2

section
variable {X : Cx} {W : WX} {OW : Nat → Bool} {kl : Bool} {x : Str} {id T : String} {r : List V → Hp → VK → Prop} {g : List D → Option R} {e e2 : Expr} {es : List Expr} {m m2 : ME} {ma : MA} {p pos : Pos}
theorem de_callB (hc : CallR X (.builtin id) r) (hq : OpN X.K kl r g) (hm : X.mg x = none) (ha : DA X W OW (e :: es) ma) (hg : Gl X x := by rfl) (hv : bootBuiltins x = some (.builtin id) := by decide +kernel) (hn : x ≠ "__name__" := by decide)
    (hdb : (x == ("__debug__" : Str)) = false := by decide) (he : starEach (e :: es) X.env = (false, eval e X.env) :: starEach es X.env := by rfl) (hpl : (backTo pos (starEach es X.env)).any (·.1) = false := by rfl) :
    DE X W OW (.Call (.Name x p) (e :: es) [] pos) (mN kl g ma) := pe_le (pe_callB hc hg hm hv ha hn hdb he hpl) fun _ _ _ h => opN_le hq h
theorem de_callT (hc : CallR X (.type T) r) (hq : OpN X.K kl r g) (hm : X.mg x = none) (ha : DA X W OW (e :: es) ma) (hg : Gl X x := by rfl) (hv : bootBuiltins x = some (.type T) := by decide +kernel) (hn : x ≠ "__name__" := by decide)
    (hdb : (x == ("__debug__" : Str)) = false := by decide) (he : starEach (e :: es) X.env = (false, eval e X.env) :: starEach es X.env := by rfl) (hpl : (backTo pos (starEach es X.env)).any (·.1) = false := by rfl) :
    DE X W OW (.Call (.Name x p) (e :: es) [] pos) (mN kl g ma) := pe_le (pe_callTy hc hg hm hv ha hn hdb he hpl) fun _ _ _ h => opN_le hq h
end
/-! ### ints -/
def pAbs : List D → Option R
  | [.int i] => some (.d (.int (if i < 0 then -i else i)))
  | _ => none
def pMax2 : List D → Option R
  | [.int i, .int j] => some (.d (.int (if j > i then j else i)))
  | _ => none
def pMin2 : List D → Option R
  | [.int i, .int j] => some (.d (.int (if j < i then j else i)))
  | _ => none
def pInt : List D → Option R
  | [.int i] => some (.d (.int i))
  | [.bool b] => some (.d (.int (if b then 1 else 0)))
  | _ => none
def pDivmod : List D → Option R
  | [.int i, .int j] => if decide (0 < j) && decide (j < 1073741824) then some (.d (.tuple [.int (i / j), .int (i % j)])) else none
  | _ => none
def asInts : List D → Option (List Int)
  | [] => some []
  | .int i :: r => (asInts r).map fun l => i :: l
  | _ :: _ => none
def asBls : List D → Option (List Bool)
  | [] => some []
  | .bool b :: r => (asBls r).map fun l => b :: l
  | _ :: _ => none
theorem asInts_map : ∀ {ds : List D} {ns : List Int}, asInts ds = some ns → ds = ns.map PyData.int
  | [], _, h => by cases h; rfl
  | d :: ds, ns, h => by
    cases d with
    | int i =>
      obtain ⟨l, h1, rfl⟩ := Option.map_eq_some_iff.mp (show (asInts ds).map (fun l => i :: l) = some ns from h)
      rw [asInts_map h1] <;> rfl
    | _ => cases h
theorem asInts_of : ∀ ns : List Int, asInts (ns.map PyData.int) = some ns
  | [] => rfl
  | n :: ns => by
    show (asInts (ns.map PyData.int)).map (fun l => n :: l) = _
    rw [asInts_of ns] <;> rfl
theorem asBls_map : ∀ {ds : List D} {ns : List Bool}, asBls ds = some ns → ds = ns.map PyData.bool
  | [], _, h => by cases h; rfl
  | d :: ds, ns, h => by
    cases d with
    | bool i =>
      obtain ⟨l, h1, rfl⟩ := Option.map_eq_some_iff.mp (show (asBls ds).map (fun l => i :: l) = some ns from h)
      rw [asBls_map h1] <;> rfl
    | _ => cases h
theorem asBls_of : ∀ ns : List Bool, asBls (ns.map PyData.bool) = some ns
  | [] => rfl
  | n :: ns => by
    show (asBls (ns.map PyData.bool)).map (fun l => n :: l) = _
    rw [asBls_of ns] <;> rfl
def pSum : List D → Option R
  | [.list xs] => (asInts xs).map fun ns => .d (.int ns.sum)
  | _ => none
def pAll : List D → Option R
  | [.list xs] => (asBls xs).map fun ns => bR (ns.all id)
  | _ => none
def pAny : List D → Option R
  | [.list xs] => (asBls xs).map fun ns => bR (ns.any id)
  | _ => none
def pTup : List D → Option R
  | [.list xs] => some (.d (.tuple xs))
  | [.tuple xs] => some (.d (.tuple xs))
  | _ => none
def pLst : List D → Option R
  | [.list xs] => some (.ol xs)
  | [.tuple xs] => some (.ol xs)
  | _ => none
section
variable {K : PySem.W.Frag} {kl : Bool}
theorem DVs.one {H : Hp} {vs : List V} {x : D} (h : DVs K kl H vs [x]) : ∃ v, vs = [v] ∧ DV K kl H v x := by
  cases h with
  | cons a t => cases t; exact ⟨_, rfl, a⟩
theorem DVs.two {H : Hp} {vs : List V} {x y : D} (h : DVs K kl H vs [x, y]) : ∃ v u, vs = [v, u] ∧ DV K kl H v x ∧ DV K kl H u y := by
  cases h with
  | cons a t => cases t with
    | cons b t => cases t; exact ⟨_, _, rfl, a, b⟩
theorem g_abs : OpN K kl (fun xs H Q => ∃ i, xs = [.int i] ∧ Q (.int (if i < 0 then -i else i)) H) pAbs := by
  intro H vs xs res Q h e q
  match xs, e with
  | [.int i], e =>
    cases e
    obtain ⟨v, rfl, hv⟩ := h.one
    cases hv
    exact ⟨i, rfl, q _ _ (Post.dat (.int _))⟩
theorem g_max2 : OpN K kl (fun xs H Q => ∃ i j, xs = [.int i, .int j] ∧ Q (.int (if j > i then j else i)) H) pMax2 := by
  intro H vs xs res Q h e q
  match xs, e with
  | [.int i, .int j], e =>
    cases e
    obtain ⟨v, u, rfl, hv, hu⟩ := h.two
    cases hv; cases hu
    exact ⟨i, j, rfl, q _ _ (Post.dat (.int _))⟩
theorem g_min2 : OpN K kl (fun xs H Q => ∃ i j, xs = [.int i, .int j] ∧ Q (.int (if j < i then j else i)) H) pMin2 := by
  intro H vs xs res Q h e q
  match xs, e with
  | [.int i, .int j], e =>
    cases e
    obtain ⟨v, u, rfl, hv, hu⟩ := h.two
    cases hv; cases hu
    exact ⟨i, j, rfl, q _ _ (Post.dat (.int _))⟩
theorem g_int : OpN K kl (fun xs H Q => (∃ i, xs = [.int i] ∧ Q (.int i) H) ∨ ∃ k, xs = [.bl k] ∧ Q (.int (if k then 1 else 0)) H) pInt := by
  intro H vs xs res Q h e q
  match xs, e with
  | [.int i], e =>
    cases e
    obtain ⟨v, rfl, hv⟩ := h.one
    cases hv
    exact .inl ⟨i, rfl, q _ _ (Post.dat (.int _))⟩
  | [.bool i], e =>
    cases e
    obtain ⟨v, rfl, hv⟩ := h.one
    cases hv
    exact .inr ⟨i, rfl, q _ _ (Post.dat (.int _))⟩
theorem g_divmod : OpN K kl (fun xs H Q => ∃ i j, xs = [.int i, .int j] ∧ CDiv i j ∧ ∀ p, H p = none → Q (.ref p) (upd H p (.tup [.int (i / j), .int (i % j)]))) pDivmod := by
  intro H vs xs res Q h e q
  match xs, e with
  | [.int i, .int j], e =>
    have e' : (if decide (0 < j) && decide (j < 1073741824) then some (R.d (.tuple [.int (i / j), .int (i % j)])) else none) = some res := e
    by_cases c : (decide (0 < j) && decide (j < 1073741824)) = true
    · rw [if_pos c] at e'
      cases e'
      obtain ⟨v, u, rfl, hv, hu⟩ := h.two
      cases hv; cases hu
      simp only [Bool.and_eq_true, decide_eq_true_eq] at c
      exact ⟨i, j, rfl, c, fun p hp => q _ _ (Post.tupNew hp (.cons (.int _) (.cons (.int _) .nil)))⟩
    · rw [if_neg c] at e'
      cases e'
theorem g_sum : OpN K kl (rSum K) pSum := by
  intro H vs xs res Q h e q
  match xs, e with
  | [.list l], e =>
    obtain ⟨ns, h1, h2⟩ := Option.map_eq_some_iff.mp (show (asInts l).map (fun ns => R.d (.int ns.sum)) = some res from e)
    subst h2
    obtain ⟨v, rfl, hv⟩ := h.one
    obtain ⟨a, ws, rfl, sq, r⟩ := hv.sq
    rw [asInts_map h1] at r
    rw [r.ints] at sq
    exact ⟨a, ns, rfl, sq, q _ _ (Post.dat (.int _))⟩
theorem g_all : OpN K kl (rAll K) pAll := by
  intro H vs xs res Q h e q
  match xs, e with
  | [.list l], e =>
    obtain ⟨ns, h1, h2⟩ := Option.map_eq_some_iff.mp (show (asBls l).map (fun ns => bR (ns.all id)) = some res from e)
    subst h2
    obtain ⟨v, rfl, hv⟩ := h.one
    obtain ⟨a, ws, rfl, sq, r⟩ := hv.sq
    rw [asBls_map h1] at r
    rw [r.bls] at sq
    exact ⟨a, ns, rfl, sq, q _ _ (Post.dat (.bl _))⟩
theorem g_any : OpN K kl (rAny K) pAny := by
  intro H vs xs res Q h e q
  match xs, e with
  | [.list l], e =>
    obtain ⟨ns, h1, h2⟩ := Option.map_eq_some_iff.mp (show (asBls l).map (fun ns => bR (ns.any id)) = some res from e)
    subst h2
    obtain ⟨v, rfl, hv⟩ := h.one
    obtain ⟨a, ws, rfl, sq, r⟩ := hv.sq
    rw [asBls_map h1] at r
    rw [r.bls] at sq
    exact ⟨a, ns, rfl, sq, q _ _ (Post.dat (.bl _))⟩
theorem g_tup : OpN K kl (fun xs H Q => ∃ p ys, xs = [.ref p] ∧ ((SqL K H p ys ∧ ∀ l, H l = none → Q (.ref l) (upd H l (.tup ys))) ∨ (SqT K H p ys ∧ Q (.ref p) H))) pTup := by
  intro H vs xs res Q h e q
  match xs, e with
  | [.list l], e =>
    cases e
    obtain ⟨v, rfl, hv⟩ := h.one
    obtain ⟨a, ws, rfl, sq, r⟩ := hv.sq
    exact ⟨a, ws, rfl, .inl ⟨sq, fun l hl => q _ _ (Post.tupNew hl r)⟩⟩
  | [.tuple l], e =>
    cases e
    obtain ⟨v, rfl, hv⟩ := h.one
    obtain ⟨a, ws, rfl, sq, r⟩ := hv
    exact ⟨a, ws, rfl, .inr ⟨.inl (.inl sq), q _ _ (Post.dat (.tup sq r))⟩⟩
theorem g_lst : OpN K kl (fun xs H Q => ∃ p ys, xs = [.ref p] ∧ (SqL K H p ys ∨ SqT K H p ys) ∧ ∀ l, H l = none → Q (.ref l) (upd H l (.lst ys))) pLst := by
  intro H vs xs res Q h e q
  match xs, e with
  | [.list l], e =>
    cases e
    obtain ⟨v, rfl, hv⟩ := h.one
    obtain ⟨a, ws, rfl, sq, r⟩ := hv.sq
    exact ⟨a, ws, rfl, .inl sq, fun l hl => q _ _ (Post.olNew hl r)⟩
  | [.tuple l], e =>
    cases e
    obtain ⟨v, rfl, hv⟩ := h.one
    obtain ⟨a, ws, rfl, sq, r⟩ := hv
    exact ⟨a, ws, rfl, .inr (.inl (.inl sq)), fun l hl => q _ _ (Post.olNew hl r)⟩
end
/-! ### tuple(range(..)), list(range(..)) -/
def rgD (a b : Int) : List D := (List.range (b - a).toNat).map fun i => PyData.int (a + (i : Nat))
def rgOk (a b : Int) : Bool := decide (-4611686018427387904 ≤ a) && decide (a < 4611686018427387904) && decide (-4611686018427387904 ≤ b) && decide (b < 4611686018427387904) && decide ((b - a).toNat ≤ 16777216)
theorem rgOk_ok {a b : Int} (h : rgOk a b = true) : RgOk a b := by
  unfold rgOk at h
  simp only [Bool.and_eq_true, decide_eq_true_eq] at h
  exact ⟨by omega, by omega, by omega, by omega, by omega⟩
theorem rd_rg {H : Hp} (a b : Int) : RDs H (rgV a b) (rgD a b) := by
  have e : rgV a b = ((List.range (b - a).toNat).map fun i => a + ((i : Nat) : Int)).map V.int := by rw [List.map_map]; rfl
  have e2 : rgD a b = ((List.range (b - a).toNat).map fun i => a + ((i : Nat) : Int)).map PyData.int := by rw [List.map_map]; rfl
  rw [e, e2]
  exact RDs.of_ints _
/-- what is asked of a range -/
abbrev MG := En → Res (Int × Int)
def mG1 (m : ME) : MG := fun env => (m env).bind fun r e => match r.dat true e with
  | some (.int n) => .ok (0, n) e
  | _ => .st
def mG2 (m n : ME) : MG := fun env => (m env).bind fun r e => (n e).bind fun r2 e2 => match r.dat true e2, r2.dat true e2 with
  | some (.int a), some (.int b) => .ok (a, b) e2
  | _, _ => .st
def tG (C : Cy) (m : MG) : L2.St → Hp → (Int → Int → Hp → Prop) → Prop := fun σ H Q => ∃ H0 P env L, Rel C.K C.OW H0 P env σ H L ∧ Sat C H0 P σ L (m env) fun p e => ∀ H', Rel C.K C.OW H0 P e σ H' L → Q p.1 p.2 H'
abbrev DG (X : Cx) (W : WX) (OW : Nat → Bool) (e : Expr) (m : MG) : Prop := PRg X e (tG (cy X W OW) m)
def mRgL (m : MG) : ME := fun env => (m env).bind fun p e => if rgOk p.1 p.2 = true then .ok (.ol (rgD p.1 p.2)) e else .st
def mRgT (m : MG) : ME := fun env => (m env).bind fun p e => if rgOk p.1 p.2 = true then .ok (.d (.tuple (rgD p.1 p.2))) e else .st
section
variable {X : Cx} {W : WX} {OW : Nat → Bool} {a b e : Expr} {m n : ME} {mg : MG} {p pos : Pos}
theorem dg_1 (hm : X.mg "range" = none) (ha : DE X W OW a m) (hg : Gl X "range" := by rfl) (na : starEach [a] X.env = (false, eval a X.env) :: starEach [] X.env := by rfl) : DG X W OW (.Call (.Name "range" p) [a] [] pos) (mG1 m) := by
  intro pins s σ H Q I ⟨H0, P, env, L, Rl, S⟩
  refine prg_1 hg hm ha na pins s σ H Q I ⟨H0, P, env, L, Rl, (Sat.bind S).mono fun r e1 _ S1 v H1 R1 => ?_⟩
  cases h1 : r.dat true e1 with
  | none => simp only [h1] at S1; exact S1.elim
  | some d =>
    cases d with
    | int i =>
      simp only [h1] at S1
      exact ⟨i, R1.dv List.mem_cons_self h1, S1 H1 R1.drop⟩
    | _ => simp only [h1] at S1; exact S1.elim
theorem dg_2 (hm : X.mg "range" = none) (ha : DE X W OW a m) (hb : DE X W OW b n) (hg : Gl X "range" := by rfl) (na : starEach [a, b] X.env = (false, eval a X.env) :: starEach [b] X.env := by rfl)
    (nb : starEach [b] X.env = (false, eval b X.env) :: starEach [] X.env := by rfl) (hp : (backTo pos (starEach [b] X.env)).any (·.1) = false := by rfl) : DG X W OW (.Call (.Name "range" p) [a, b] [] pos) (mG2 m n) := by
  intro pins s σ H Q I ⟨H0, P, env, L, Rl, S⟩
  refine prg_2 hg hm ha hb na nb hp pins s σ H Q I ⟨H0, P, env, L, Rl, (Sat.bind S).mono fun r e1 _ S1 v H1 R1 => ⟨H0, P, e1, (v, r) :: L, R1, ?_⟩⟩
  refine ((Sat.bind S1).wait fun _ _ q => q.drop).mono fun r2 e2 _ S2 u H2 R2 => ?_
  cases h1 : r.dat true e2 with
  | none => simp only [h1] at S2; exact S2.elim
  | some d =>
    cases h2 : r2.dat true e2 with
    | none => cases d <;> (simp only [h1, h2] at S2; exact S2.elim)
    | some d2 =>
      cases d with
      | int i =>
        cases d2 with
        | int j =>
          simp only [h1, h2] at S2
          exact ⟨i, j, R2.dv (List.mem_cons_of_mem _ List.mem_cons_self) h1, R2.dv List.mem_cons_self h2, S2 H2 R2.drop.drop⟩
        | _ => simp only [h1, h2] at S2; exact S2.elim
      | _ => simp only [h1, h2] at S2; exact S2.elim
theorem de_rgL (hc : X.calm = true) (hm : X.mg "list" = none) (h : DG X W OW e mg) (hg : Gl X "list" := by rfl) (na : starEach [e] X.env = (false, eval e X.env) :: starEach [] X.env := by rfl) : DE X W OW (.Call (.Name "list" p) [e] [] pos) (mRgL mg) := by
  refine pe_le (pe_listRg hc hg hm h na) fun σ H Q ⟨H0, P, env, L, Rl, S⟩ => ⟨H0, P, env, L, Rl, (Sat.bind S).mono fun ab e1 _ S1 H1 R1 => ?_⟩
  by_cases c : rgOk ab.1 ab.2 = true
  · rw [if_pos c] at S1
    exact ⟨rgOk_ok c, fun q hq => S1 _ _ (R1.post (Post.olNew hq (rd_rg _ _)))⟩
  · rw [if_neg c] at S1
    exact S1.elim
theorem de_rgT (hc : X.calm = true) (hm : X.mg "tuple" = none) (h : DG X W OW e mg) (hg : Gl X "tuple" := by rfl) (na : starEach [e] X.env = (false, eval e X.env) :: starEach [] X.env := by rfl) : DE X W OW (.Call (.Name "tuple" p) [e] [] pos) (mRgT mg) := by
  refine pe_le (pe_tupRg hc hg hm h na) fun σ H Q ⟨H0, P, env, L, Rl, S⟩ => ⟨H0, P, env, L, Rl, (Sat.bind S).mono fun ab e1 _ S1 H1 R1 => ?_⟩
  by_cases c : rgOk ab.1 ab.2 = true
  · rw [if_pos c] at S1
    exact ⟨rgOk_ok c, fun q hq => S1 _ _ (R1.post (Post.tupNew hq (rd_rg _ _)))⟩
  · rw [if_neg c] at S1
    exact S1.elim
end
/-! ### isinstance -/
def tyD : D → String
  | .none => "NoneType"
  | .bool _ => "bool"
  | .int _ => "int"
  | .str _ => "str"
  | .list _ => "list"
  | .tuple _ => "tuple"
  | .dict _ => "dict"
def noDict : D → Bool
  | .dict _ => false
  | _ => true
def isiD (T : String) (x : D) : Option R := if noDict x = true then (kitB (tyD x) T).map bR else none
def isi2D (T U : String) (x : D) : Option R := if noDict x = true then match kitB (tyD x) T, kitB (tyD x) U with
  | some a, some b => some (bR (a || b))
  | _, _ => none else none
section
variable {K : PySem.W.Frag} {H : Hp} {v : V} {x : D}
theorem DV.ty (h : DV K false H v x) (n : noDict x = true) : TyX K H v (.type (tyD x)) := by
  cases x with
  | none => cases h; exact .base .non
  | bool b => cases h; exact .base (.bl b)
  | int i => cases h; exact .base (.int i)
  | str y => cases h; exact .base (.str y)
  | list ds =>
    obtain ⟨a, vs, rfl, rd, r⟩ := h.rd
    rcases rd with rd | ⟨o, rd⟩
    · exact .base (.lst rd)
    · exact .base (.frz rd)
  | tuple ds =>
    obtain ⟨a, vs, rfl, rd, r⟩ := h
    exact .base (.tup rd)
  | dict ds => cases n
end
section
variable {X : Cx} {W : WX} {OW : Nat → Bool} {e : Expr} {m : ME} {p p1 p2 p3 pos : Pos} {x y : Str} {T U : String} {k1 : ExprContext}
theorem de_isi (hm : X.mg "isinstance" = none) (h : DE X W OW e m) (hx : X.mg x = none) (hg : Gl X "isinstance" := by rfl) (hgx : Gl X x := by rfl) (hv : bootBuiltins x = some (.type T) := by decide +kernel) (hn : x ≠ "__name__" := by decide) (hd : (x == ("__debug__" : Str)) = false := by decide)
    (na : starEach [e, .Name x p1] X.env = (false, eval e X.env) :: starEach [.Name x p1] X.env := by rfl) : DE X W OW (.Call (.Name "isinstance" p) [e, .Name x p1] [] pos) (m1 false (isiD T) m) := by
  refine pe_le (pe_callB (id := "isinstance") call_isi hg hm (by decide +kernel) (pa_cons h (pa_cons (pe_bltn (v := .ty T) hgx hx hv rfl hn hd) pa_nil) na) (by decide) (by decide) na rfl) fun σ H Q ⟨H0, P, env, L, Rl, S⟩ => ⟨H0, P, env, L, Rl, (Sat.bind S).mono fun r e1 _ S1 v H1 R1 => ?_⟩
  cases h1 : r.dat false e1 with
  | none => simp only [h1] at S1; exact S1.elim
  | some d =>
    simp only [h1] at S1
    unfold isiD at S1
    by_cases c : noDict d = true
    · rw [if_pos c] at S1
      cases hk : kitB (tyD d) T with
      | none => rw [hk] at S1; exact S1.elim
      | some b =>
        rw [hk] at S1
        exact ⟨v, .ty T, _, _, b, rfl, .ty T, (R1.dv List.mem_cons_self h1).ty c, kit_ty hk, S1 _ _ (R1.drop.post (Post.dat (.bl b)))⟩
    · rw [if_neg c] at S1; exact S1.elim
theorem de_isi2 {x3} (hm : X.mg "isinstance" = none) (h : DE X W OW e m) (hx : X.mg x = none) (hy : X.mg y = none) (hg : Gl X "isinstance" := by rfl) (hgx : Gl X x := by rfl) (hgy : Gl X y := by rfl) (hv : bootBuiltins x = some (.type T) := by decide +kernel) (hu : bootBuiltins y = some (.type U) := by decide +kernel)
    (hn : x ≠ "__name__" := by decide) (hd : (x == ("__debug__" : Str)) = false := by decide) (hn2 : y ≠ "__name__" := by decide) (hd2 : (y == ("__debug__" : Str)) = false := by decide)
    (na : starEach [e, .Tuple [.Name x p1, .Name y p2] x3 p3] X.env = (false, eval e X.env) :: starEach [.Tuple [.Name x p1, .Name y p2] x3 p3] X.env := by rfl) : DE X W OW (.Call (.Name "isinstance" p) [e, .Tuple [.Name x p1, .Name y p2] x3 p3] [] pos) (m1 false (isi2D T U) m) := by
  refine pe_le (pe_callB (id := "isinstance") call_isiT hg hm (by decide +kernel) (pa_cons h (pa_cons (pe_tup (pa_cons (pe_bltn (v := .ty T) hgx hx hv rfl hn hd) (pa_cons (pe_bltn (v := .ty U) hgy hy hu rfl hn2 hd2) pa_nil))) pa_nil) na) (by decide) (by decide) na rfl) fun σ H Q ⟨H0, P, env, L, Rl, S⟩ => ⟨H0, P, env, L, Rl, (Sat.bind S).mono fun r e1 _ S1 v H1 R1 => ?_⟩
  cases h1 : r.dat false e1 with
  | none => simp only [h1] at S1; exact S1.elim
  | some d =>
    simp only [h1] at S1
    unfold isi2D at S1
    by_cases c : noDict d = true
    · rw [if_pos c] at S1
      cases hk : kitB (tyD d) T with
      | none => simp only [hk] at S1; exact S1.elim
      | some b =>
        cases hk2 : kitB (tyD d) U with
        | none => simp only [hk, hk2] at S1; exact S1.elim
        | some b2 =>
          simp only [hk, hk2] at S1
          refine ⟨by rw [sizeLine_eq]; show 2 ≤ 16777216; decide, fun tp htp => ?_⟩
          have R2 : Rel X.K OW H0 P e1 σ (upd H1 tp (.tup [.ty T, .ty U])) ((v, r) :: L) := R1.grow fun b o e => by rw [upd_ne (ne_of_none e htp)]; exact e
          refine ⟨v, tp, [.ty T, .ty U], .type (tyD d), [.type T, .type U], b || b2, rfl, upd_same, .cons (.ty T) (.cons (.ty U) .nil), (R2.dv List.mem_cons_self h1).ty c, ?_, S1 _ _ (R2.drop.post (Post.dat (.bl _)))⟩
          refine kitAny_cons (kit_ty hk) (fun eb => ?_) fun eb => by rw [eb]; rfl
          refine kitAny_cons (kit_ty hk2) (fun eb2 => ?_) fun eb2 => by rw [eb2, Bool.or_true]
          rw [eb, eb2]; rfl
    · rw [if_neg c] at S1; exact S1.elim
end
/-! ### repr of lists, tuples -/
def isSq : D → Bool
  | .list _ => true
  | .tuple _ => true
  | _ => false
def showOk (d : D) : Bool := isSq d && okD 40 d && d.showable && decide (d.shown.length ≤ 16777216)
def pRepr : List D → Option R
  | [d] => if showOk d = true then some (.d (.str d.shown)) else none
  | _ => none
def rReprD (K : PySem.W.Frag) : List V → Hp → VK → Prop := fun xs H Q => ∃ v d, xs = [v] ∧ DV K false H v d ∧ showOk d = true ∧ Q (.str d.shown) H
section
variable {X : Cx}
theorem o_repr (hg : X.A.guards = some []) (hu : X.A.units + 64 < cLine) : CallR X (.builtin "repr") (rReprD X.K) := by
  intro pins s σ H xs us Q I r h
  obtain ⟨v, d, rfl, hv, ok, q⟩ := h
  unfold showOk at ok
  simp only [Bool.and_eq_true, decide_eq_true_eq] at ok
  obtain ⟨⟨⟨sq, okd⟩, sh⟩, ln⟩ := ok
  obtain ⟨u, rfl, ru⟩ := vals1 r
  obtain ⟨as, rd⟩ := Dp.reads I d v u (hv.dp okd) ru
  obtain ⟨lay, dep⟩ := okD_lay 40 d okd
  have hu' : ∃ a, u = .ref a := by
    cases d with
    | list ds => cases rd; exact ⟨_, rfl⟩
    | tuple ds => cases rd; exact ⟨_, rfl⟩
    | _ => cases sq
  obtain ⟨a, rfl⟩ := hu'
  exact repr_of_reads' rd sh (PyData.noDict_hsm (PyData.hasDict_of_canLay d lay)) hg (by omega) (fun _ _ e => e) (fun h' t tk hk => ⟨.str d.shown, H, I.kept hk, ⟨t, rfl⟩, q⟩) (by rw [sizeLine_eq]; exact ln)
theorem g_repr {K : PySem.W.Frag} : OpN K false (rReprD K) pRepr := by
  intro H vs xs res Q h e q
  match xs, e with
  | [d], e =>
    have e' : (if showOk d = true then some (R.d (.str d.shown)) else none) = some res := e
    by_cases c : showOk d = true
    · rw [if_pos c] at e'
      cases e'
      obtain ⟨v, rfl, hv⟩ := h.one
      exact ⟨v, d, rfl, hv, c, q _ _ (Post.dat (.str _))⟩
    · rw [if_neg c] at e'; cases e'
end
end Pw

set_option Elab.async false
set_option linter.all false
set_option maxRecDepth 100000
set_option maxHeartbeats 2000000
/-! Pw: tests, and/or/not, chains, calls with known defs. -/
namespace Pw
open PySem PySem.Spec PyProof.Rows L2

/-- a value that is a bool, as a test -/
def mTst (m : ME) : MT := fun env => (m env).bind fun r e => match r with
  | .d (.bool b) => .ok b e
  | _ => .st
def mAndT (a b : MT) : MT := fun env => (a env).bind fun c e => if c = true then b e else .ok false e
def mOrT (a b : MT) : MT := fun env => (a env).bind fun c e => if c = true then .ok true e else b e
def mNotT (a : MT) : MT := fun env => (a env).bind fun c e => .ok (!c) e
/-- a test as a value -/
def mBV (a : MT) : ME := fun env => (a env).bind fun c e => .ok (.d (.bool c)) e
def mIf (t : MT) (a b : ME) : ME := fun env => (t env).bind fun c e => if c = true then a e else b e
def mAndV (a : MT) (b : ME) : ME := fun env => (a env).bind fun c e => if c = true then b e else .ok (.d (.bool false)) e
def mOrV (a : MT) (b : ME) : ME := fun env => (a env).bind fun c e => if c = true then .ok (.d (.bool true)) e else b e
/-- a op b op' c -/
def mCh (g g' : D → D → Option R) (kl kl' : Bool) (a b c : ME) : ME := fun env => (a env).bind fun r1 e1 => (b e1).bind fun r2 e2 => match r1.dat kl e2, r2.dat kl e2 with
  | some x, some y => match g x y with
    | some (.d (.bool k)) => if k = true then (c e2).bind fun r3 e3 => match r2.dat kl' e3, r3.dat kl' e3 with
        | some y', some z => match g' y' z with
          | some r => .ok r e3
          | none => .st
        | _, _ => .st
      else .ok (.d (.bool false)) e2
    | _ => .st
  | _, _ => .st
section
variable {X : Cx} {W : WX} {OW : Nat → Bool} {kl kl' : Bool} {a b c e : Expr} {rest : List Expr} {m ma mb mc : ME} {ta tb tc : MT} {pos : Pos} {g g' : D → D → Option R} {r r' : R2}
theorem dt_val (h : DE X W OW e m) (he : ∀ whole, isTrue e X.env whole = (do let v ← whole; standAt e.pos; holding [v] (truthy v)) := by intro _; rfl) : DT X W OW e (mTst m) := by
  refine pt_le (pt_val h he) fun σ H Q ⟨H0, P, env, L, Rl, S⟩ => ⟨H0, P, env, L, Rl, (Sat.bind S).mono fun r e1 _ S1 v H1 R1 => ?_⟩
  cases r with
  | d x =>
    cases x with
    | bool k =>
      have h1 : RD H1 v (.bool k) := R1.pend (v, .d (.bool k)) List.mem_cons_self
      cases h1
      exact ⟨k, rfl, S1 H1 R1.drop⟩
    | _ => exact S1.elim
  | _ => exact S1.elim
theorem dt_cmpR {op : CmpOp} (ho : OpR X (compareOp op) r) (hg : Op2 X.K kl r g) (ha : DE X W OW a ma) (hb : DE X W OW b mb) (hm : behindInMarks op b = false) : DT X W OW (.Compare a [op] [b] pos) (mTst (m2 kl g ma mb)) := by
  refine pt_le (pt_cmpR ho ha hb hm) fun σ H Q ⟨H0, P, env, L, Rl, S⟩ => ?_
  refine op2_le (W := W) (OW := OW) hg (ma := ma) (mb := mb) (Q := fun x H' => ∃ k, x = .bl k ∧ Q k H') ⟨H0, P, env, L, Rl, (Sat.bind S).mono fun r e1 _ S1 v H1 R1 => ?_⟩
  cases r with
  | d x =>
    cases x with
    | bool k =>
      have h1 : RD H1 v (.bool k) := R1.pend (v, .d (.bool k)) List.mem_cons_self
      cases h1
      exact ⟨k, rfl, S1 H1 R1.drop⟩
    | _ => exact S1.elim
  | _ => exact S1.elim
theorem ch_le (hg : Op2 X.K kl r g) (hg' : Op2 X.K kl' r' g') {σ : L2.St} {H : Hp} {Q : VK} (h : tD (cy X W OW) (mCh g g' kl kl' ma mb mc) σ H Q) : tChain r r' (tD (cy X W OW) ma) (tD (cy X W OW) mb) (tD (cy X W OW) mc) σ H Q := by
  obtain ⟨H0, P, env, L, Rl, S⟩ := h
  refine ⟨H0, P, env, L, Rl, (Sat.bind S).mono fun r1 e1 _ S1 v H1 R1 => ⟨H0, P, e1, (v, r1) :: L, R1, ?_⟩⟩
  refine ((Sat.bind S1).wait fun _ _ q => q.drop).mono fun r2 e2 _ S2 u H2 R2 => ?_
  cases h1 : r1.dat kl e2 with
  | none => simp only [h1] at S2; exact S2.elim
  | some x =>
    cases h2 : r2.dat kl e2 with
    | none => simp only [h1, h2] at S2; exact S2.elim
    | some y =>
      simp only [h1, h2] at S2
      cases h3 : g x y with
      | none => simp only [h3] at S2; exact S2.elim
      | some res =>
        cases res with
        | d z =>
          cases z with
          | bool k =>
            simp only [h3] at S2
            refine hg H2 v u x y _ _ (R2.dv (List.mem_cons_of_mem _ List.mem_cons_self) h1) (R2.dv List.mem_cons_self h2) h3 fun w H' p => ?_
            have rb : RD H' w (.bool k) := p.2.1
            cases rb
            refine ⟨k, rfl, ?_⟩
            have R3 := R2.grow p.1
            have R4 : Rel X.K OW H0 P e2 σ H' ((u, r2) :: L) := R3.sub (List.Sublist.cons_cons _ (List.sublist_cons_self _ _))
            cases k with
            | false =>
              rw [if_neg Bool.false_ne_true] at S2 ⊢
              exact S2 _ _ (R4.drop.post (Post.dat (.bl false)))
            | true =>
              rw [if_pos rfl] at S2 ⊢
              refine ⟨H0, P, e2, (u, r2) :: L, R4, ((Sat.bind S2).wait fun _ _ q => q.drop).mono fun r3 e3 _ S3 w3 H3 R5 => ?_⟩
              cases h4 : r2.dat kl' e3 with
              | none => simp only [h4] at S3; exact S3.elim
              | some y' =>
                cases h5 : r3.dat kl' e3 with
                | none => simp only [h4, h5] at S3; exact S3.elim
                | some z =>
                  simp only [h4, h5] at S3
                  cases h6 : g' y' z with
                  | none => simp only [h6] at S3; exact S3.elim
                  | some res =>
                    simp only [h6] at S3
                    exact hg' H3 u w3 y' z res Q (R5.dv (List.mem_cons_of_mem _ List.mem_cons_self) h4) (R5.dv List.mem_cons_self h5) h6 fun w4 H4 p4 => S3 w4 H4 (R5.drop.drop.post p4)
          | _ => simp only [h3] at S2; exact S2.elim
        | _ => simp only [h3] at S2; exact S2.elim
theorem de_chain {op op' : CmpOp} (ho : OpR X (compareOp op) r) (hg : Op2 X.K kl r g) (ho' : OpR X (compareOp op') r') (hg' : Op2 X.K kl' r' g') (ha : DE X W OW a ma) (hb : DE X W OW b mb) (hc : DE X W OW c mc)
    (hm : lastMarks [op, op'] [b, c] = false := by with_unfolding_all rfl) : DE X W OW (.Compare a [op, op'] [b, c] pos) (mCh g g' kl kl' ma mb mc) := pe_le (pe_chain ho ho' ha hb hc hm) fun _ _ _ h => ch_le hg hg' h
theorem dt_chain {op op' : CmpOp} (ho : OpR X (compareOp op) r) (hg : Op2 X.K kl r g) (ho' : OpR X (compareOp op') r') (hg' : Op2 X.K kl' r' g') (ha : DE X W OW a ma) (hb : DE X W OW b mb) (hc : DE X W OW c mc)
    (hm : lastMarks [op, op'] [b, c] = false := by with_unfolding_all rfl) : DT X W OW (.Compare a [op, op'] [b, c] pos) (mTst (mCh g g' kl kl' ma mb mc)) := by
  refine pt_le (pt_chain ho ho' ha hb hc hm) fun σ H Q ⟨H0, P, env, L, Rl, S⟩ => ?_
  refine ch_le (W := W) (OW := OW) hg hg' (ma := ma) (mb := mb) (mc := mc) (Q := fun x H' => ∃ k, x = .bl k ∧ Q k H') ⟨H0, P, env, L, Rl, (Sat.bind S).mono fun r e1 _ S1 v H1 R1 => ?_⟩
  cases r with
  | d x =>
    cases x with
    | bool k =>
      have h1 : RD H1 v (.bool k) := R1.pend (v, .d (.bool k)) List.mem_cons_self
      cases h1
      exact ⟨k, rfl, S1 H1 R1.drop⟩
    | _ => exact S1.elim
  | _ => exact S1.elim
theorem dw_and1 (ha : DT X W OW a ta) : DW X W OW (.BoolOp .And [a] pos) ta := pw_and1 ha
theorem dw_or1 (ha : DT X W OW a ta) : DW X W OW (.BoolOp .Or [a] pos) ta := pw_or1 ha
theorem dw_and (ha : DT X W OW a ta) (hb : DW X W OW (.BoolOp .And (b :: rest) pos) tb) : DW X W OW (.BoolOp .And (a :: b :: rest) pos) (mAndT ta tb) := by
  refine pw_le (pw_and ha hb) fun σ H Q ⟨H0, P, env, L, Rl, S⟩ => ⟨H0, P, env, L, Rl, (Sat.bind S).mono fun k e1 _ S1 H1 R1 => ?_⟩
  cases k with
  | true => exact ⟨H0, P, e1, L, R1, S1⟩
  | false => exact S1 H1 R1
theorem dw_or (ha : DT X W OW a ta) (hb : DW X W OW (.BoolOp .Or (b :: rest) pos) tb) : DW X W OW (.BoolOp .Or (a :: b :: rest) pos) (mOrT ta tb) := by
  refine pw_le (pw_or ha hb) fun σ H Q ⟨H0, P, env, L, Rl, S⟩ => ⟨H0, P, env, L, Rl, (Sat.bind S).mono fun k e1 _ S1 H1 R1 => ?_⟩
  cases k with
  | true => exact S1 H1 R1
  | false => exact ⟨H0, P, e1, L, R1, S1⟩
theorem dt_w (h : DW X W OW e ta) : DT X W OW e ta := PW.pt h
theorem dt_not (ha : DT X W OW a ta) : DT X W OW (.UnaryOp .Not a pos) (mNotT ta) := by
  refine pt_le (pt_not ha) fun σ H Q ⟨H0, P, env, L, Rl, S⟩ => ⟨H0, P, env, L, Rl, (Sat.bind S).mono fun k e1 _ S1 H1 R1 => S1 H1 R1⟩
/-- as values: the items are bools -/
theorem bl_of {H : Hp} {σ : L2.St} {H0 : Hp} {P : List (Option Addr)} {e1 : En} {L : Pe} {v : V} {k : Bool} (R1 : Rel X.K OW H0 P e1 σ H ((v, .d (.bool k)) :: L)) : v = .bl k := by
  have h1 : RD H v (.bool k) := R1.pend (v, .d (.bool k)) List.mem_cons_self
  cases h1
  rfl
theorem de_and (ha : DE X W OW a ma) (hb : DE X W OW (.BoolOp .And (b :: rest) pos) mb) : DE X W OW (.BoolOp .And (a :: b :: rest) pos) (mAndV (mTst ma) mb) := by
  refine pe_le (pe_and ha hb) fun σ H Q ⟨H0, P, env, L, Rl, S⟩ => ⟨H0, P, env, L, Rl, (Sat.bind (Sat.bind S)).mono fun r e1 _ S1 v H1 R1 => ?_⟩
  cases r with
  | d x =>
    cases x with
    | bool k =>
      refine ⟨k, bl_of R1, ?_⟩
      have S2 : Sat (cy X W OW) H0 P σ L (if k = true then mb e1 else .ok (.d (.bool false)) e1) (okE (cy X W OW) H0 P σ L Q) := S1
      cases k with
      | true => exact ⟨H0, P, e1, L, R1.drop, S2⟩
      | false => exact S2 _ _ (R1.drop.post (Post.dat (.bl false)))
    | _ => exact S1.elim
  | _ => exact S1.elim
theorem de_or (ha : DE X W OW a ma) (hb : DE X W OW (.BoolOp .Or (b :: rest) pos) mb) : DE X W OW (.BoolOp .Or (a :: b :: rest) pos) (mOrV (mTst ma) mb) := by
  refine pe_le (pe_or ha hb) fun σ H Q ⟨H0, P, env, L, Rl, S⟩ => ⟨H0, P, env, L, Rl, (Sat.bind (Sat.bind S)).mono fun r e1 _ S1 v H1 R1 => ?_⟩
  cases r with
  | d x =>
    cases x with
    | bool k =>
      refine ⟨k, bl_of R1, ?_⟩
      have S2 : Sat (cy X W OW) H0 P σ L (if k = true then .ok (.d (.bool true)) e1 else mb e1) (okE (cy X W OW) H0 P σ L Q) := S1
      cases k with
      | false => exact ⟨H0, P, e1, L, R1.drop, S2⟩
      | true => exact S2 _ _ (R1.drop.post (Post.dat (.bl true)))
    | _ => exact S1.elim
  | _ => exact S1.elim
theorem de_one {op} (h : DE X W OW a ma) : DE X W OW (.BoolOp op [a] pos) ma := pe_one h
theorem de_not (ha : DE X W OW a ma) : DE X W OW (.UnaryOp .Not a pos) (mBV (mNotT (mTst ma))) := by
  refine pe_le (pe_not ha) fun σ H Q ⟨H0, P, env, L, Rl, S⟩ => ⟨H0, P, env, L, Rl, (Sat.bind (Sat.bind (Sat.bind S))).mono fun r e1 _ S1 v H1 R1 => ?_⟩
  cases r with
  | d x =>
    cases x with
    | bool k => exact ⟨k, bl_of R1, S1 _ _ (R1.drop.post (Post.dat (.bl _)))⟩
    | _ => exact S1.elim
  | _ => exact S1.elim
theorem de_ifx (hc : DT X W OW c tc) (ha : DE X W OW a ma) (hb : DE X W OW b mb) : DE X W OW (.IfExp c a b pos) (mIf tc ma mb) := by
  refine pe_le (pe_ifExp hc ha hb) fun σ H Q ⟨H0, P, env, L, Rl, S⟩ => ⟨H0, P, env, L, Rl, (Sat.bind S).mono fun k e1 _ S1 H1 R1 => ?_⟩
  cases k with
  | true => exact ⟨H0, P, e1, L, R1, S1⟩
  | false => exact ⟨H0, P, e1, L, R1, S1⟩
end
end Pw

set_option Elab.async false
set_option linter.all false
set_option maxRecDepth 100000
set_option maxHeartbeats 2000000
/-! Pw: what loops and comprehensions walk; targets. -/
namespace Pw
open PySem PySem.Spec PyProof.Rows L2

/-- an iterator that yields just these -/
def SrcOk (H : Hp) (J : It) (ds : List D) : Prop := ∀ H', Kp H H' → ∀ i, (∀ d, ds[i]? = some d → J.go i H' ∧ ∀ x H'', J.yld i H' x H'' → Same H' H'' ∧ RD H'' x d) ∧ (ds.length ≤ i → J.stop i H')
abbrev MI := En → Res (List D)
def tI (C : Cy) (m : MI) : TI := fun σ H R => ∃ H0 P env L, Rel C.K C.OW H0 P env σ H L ∧ Sat C H0 P σ L (m env) fun ds e => ∀ H' J, Rel C.K C.OW H0 P e σ H' L → SrcOk H' J ds → R J H'
abbrev DI (X : Cx) (W : WX) (OW : Nat → Bool) (tg e : Expr) (m : MI) : Prop := PI X tg e (tI (cy X W OW) m)
/-- a frozen list, a tuple, the script -/
def sqD : R → Option (List D)
  | .d (.list ds) => some ds
  | .d (.tuple ds) => some ds
  | .kl ds => some ds
  | _ => none
def mSq (m : ME) : MI := fun env => (m env).bind fun r e => match sqD r with
  | some ds => .ok ds e
  | none => .st
def mRgI (m : MG) : MI := fun env => (m env).bind fun p e => if rgOk p.1 p.2 = true then .ok (rgD p.1 p.2) e else .st
/-- enumerate, zip -/
def numD (ds : List D) : List D := ds.mapIdx fun i d => .tuple [.int (i : Nat), d]
def mEnum (m : ME) : MI := fun env => (mSq m env).bind fun ds e => .ok (numD ds) e
def zipD (xs ys : List D) : List D := List.zipWith (fun x y => .tuple [x, y]) xs ys
def sqK : R → R → Option (List D)
  | .d (.list xs), .d (.list ys) => some (zipD xs ys)
  | .d (.tuple xs), .d (.tuple ys) => some (zipD xs ys)
  | _, _ => none
def mZip (m n : ME) : MI := fun env => (m env).bind fun r e => (n e).bind fun r2 e2 => match sqK r r2 with
  | some ds => .ok ds e2
  | none => .st
section
variable {K : PySem.W.Frag} {H H' : Hp}
theorem src_list {a : Addr} {vs : List V} {ds : List D} (hs : ∀ H', Kp H H' → SqL K H' a vs) (r : RDs H vs ds) : SrcOk H (Itl K a) ds := fun H' k i => by
  have s := hs H' k
  refine ⟨fun d e => ?_, fun h => ⟨vs, s, by rw [r.length]; exact h⟩⟩
  obtain ⟨v, e1, rv⟩ := r.get e
  refine ⟨⟨vs, v, s, e1⟩, fun x H'' y => ?_⟩
  obtain ⟨e2, y⟩ := y
  subst e2
  have q := y vs s
  rw [e1] at q; cases q
  exact ⟨Same.refl _, rv.kp k⟩
theorem src_tup {a : Addr} {vs : List V} {ds : List D} (hs : ∀ H', Kp H H' → SqT K H' a vs) (r : RDs H vs ds) : SrcOk H (Itt K a) ds := fun H' k i => by
  have s := hs H' k
  refine ⟨fun d e => ?_, fun h => ⟨vs, s, by rw [r.length]; exact h⟩⟩
  obtain ⟨v, e1, rv⟩ := r.get e
  refine ⟨⟨vs, v, s, e1⟩, fun x H'' y => ?_⟩
  obtain ⟨e2, y⟩ := y
  subst e2
  have q := y vs s
  rw [e1] at q; cases q
  exact ⟨Same.refl _, rv.kp k⟩
theorem src_rg (a b : Int) : SrcOk H (Itr a (b - a).toNat) (rgD a b) := fun H' k i => by
  have hl : (rgD a b).length = (b - a).toNat := by unfold rgD; rw [List.length_map, List.length_range]
  refine ⟨fun d e => ?_, fun h => by rw [hl] at h; exact h⟩
  have hi : i < (b - a).toNat := by rw [← hl]; exact (List.getElem?_eq_some_iff.mp e).1
  refine ⟨hi, fun x H'' y => ?_⟩
  obtain ⟨e2, e3⟩ := y
  subst e2 e3
  refine ⟨Same.refl _, ?_⟩
  unfold rgD at e
  rw [List.getElem?_map, List.getElem?_range hi] at e
  cases e
  exact .int _
theorem same_new {a : Addr} {u : HO} (h : H a = none) : Same H (upd H a u) := fun b o e => by rw [upd_ne (ne_of_none e h)]; exact e
theorem src_pair {J : It} {ds : List D} (r : ∀ H', Kp H H' → ∀ i, (∀ d, ds[i]? = some d → J.go i H' ∧ ∀ x H'', J.yld i H' x H'' → ∃ T u w du dw, x = .ref T ∧ H' T = none ∧ H'' = upd H' T (.tup [u, w]) ∧ d = .tuple [du, dw] ∧ RD H' u du ∧ RD H' w dw) ∧ (ds.length ≤ i → J.stop i H')) : SrcOk H J ds := fun H' k i => by
  obtain ⟨h1, h2⟩ := r H' k i
  refine ⟨fun d e => ?_, h2⟩
  obtain ⟨g, y⟩ := h1 d e
  refine ⟨g, fun x H'' yy => ?_⟩
  obtain ⟨T, u, w, du, dw, rfl, hn, rfl, rfl, ru, rw'⟩ := y x H'' yy
  exact ⟨same_new hn, .tup upd_same (.cons (ru.kp (Kp.new hn)) (.cons (rw'.kp (Kp.new hn)) .nil))⟩
theorem num_get {ds : List D} {i : Nat} {d : D} (e : (numD ds)[i]? = some d) : ∃ x, ds[i]? = some x ∧ d = .tuple [.int (i : Nat), x] := by
  unfold numD at e
  rw [List.getElem?_mapIdx] at e
  obtain ⟨x, e1, e2⟩ := Option.map_eq_some_iff.mp e
  exact ⟨x, e1, e2.symm⟩
theorem zip_get {xs ys : List D} {i : Nat} {d : D} (e : (zipD xs ys)[i]? = some d) : ∃ x y, xs[i]? = some x ∧ ys[i]? = some y ∧ d = .tuple [x, y] := by
  unfold zipD at e
  rw [List.getElem?_zipWith] at e
  cases h1 : xs[i]? with
  | none => rw [h1] at e; cases e
  | some x =>
    cases h2 : ys[i]? with
    | none => rw [h1, h2] at e; cases e
    | some y =>
      rw [h1, h2] at e
      cases e
      exact ⟨x, y, rfl, rfl, rfl⟩
end
/-! ### enumerate over a tuple -/
def IteT (K : PySem.W.Frag) (a : Addr) : It :=
  ⟨fun i H => ∃ (xs : List V) (x : V), SqT K H a xs ∧ xs[i]? = some x, fun i H v H' => ∃ T x, v = .ref T ∧ H T = none ∧ H' = upd H T (.tup [.int (i : Nat), x]) ∧ ∀ xs, SqT K H a xs → xs[i]? = some x, fun i H => ∃ xs : List V, SqT K H a xs ∧ xs.length ≤ i⟩
theorem meets_enum_1 {v : Value} {o : Obj} {H : Heap → Prop} (B : Begins v o H) :
    Meets (Builtin.«enumerate.__new__» ⟨[.type "enumerate", v], []⟩) (fun _ R s => H s.heap ∧
      R (.ok (.ret (.ref (s.heap.push o).objs.size))) { s with heap := (s.heap.push o).push { cls := .type "enumerate", data := .fields #[.none, .bool false, .ref s.heap.objs.size, rawInt 0, .none, .none] } }) :=
  .of_wp fun prog w A R s h => by
    obtain ⟨hp, g, d, tk, os⟩ := s
    obtain ⟨h1, h⟩ := h
    have hsub := sub_enumerate
    have q1 : ∀ {A' : Around} {E : Value → Shared → Prop} {Q : Value → Shared → Prop}, Q (.ref hp.objs.size) ⟨hp.push o, g, d, tk, os⟩ → wpAny (model prog w) A' (pyIter v) Q E ⟨hp, g, d, tk, os⟩ :=
      fun q => B.iter prog w _ _ ⟨hp, g, d, tk, os⟩ _ h1 q
    wp_walk using q1
    refine wpAny_stack_any fun st => wpAny_pure ?_
    split
    · rename_i c _ _ _ _ _
      cases (c == Value.type "enumerate") <;> (wp_walk using q1; exact ⟨_, rfl, h⟩)
    · wp_walk using q1
      exact ⟨_, rfl, h⟩
theorem enum_tup_call {prog : Program} {w : World} {A : Around} {E : Value → Shared → Prop} {s : Shared} {l : Addr} {items : Array Value} {Q : Value → Shared → Prop} (hL : s.heap.IsTuple l items)
    (h : ∀ h', IsEnum h' (s.heap.objs.size + 1) s.heap.objs.size 0 .none → h'.IsTupleIter s.heap.objs.size l 0 → (∀ b o, s.heap.get? b = some o → h'.get? b = some o) → Q (.ref (s.heap.objs.size + 1)) { s with heap := h' }) :
    wpAny (model prog w) A (call (.type "enumerate") [.ref l]) Q E s := by
  refine callType_new F.called_enumerate (by decide) (F.typeCall_enumerate_1 _) (F.newCall_enumerate_1 _) (fun obj => F.args_object_init_2 obj _) F.entry_enumerate_new (meets_enum_1 (begins_tuple l items)) ⟨hL, ?_⟩
  generalize ho : ({ cls := .type "tuple_iterator", data := .fields #[.ref l, .int 0 0] } : Obj) = o
  have hz : (s.heap.push o).objs.size = s.heap.objs.size + 1 := Heap.size_push ..
  have he : IsEnum ((s.heap.push o).push { cls := .type "enumerate", data := .fields #[.none, .bool false, .ref s.heap.objs.size, rawInt 0, .none, .none] }) (s.heap.objs.size + 1) s.heap.objs.size 0 .none := by
    have q := Heap.get?_push_size (s.heap.push o) (o := { cls := .type "enumerate", data := .fields #[.none, .bool false, .ref s.heap.objs.size, rawInt 0, .none, .none] }) rfl
    rw [hz] at q
    exact q
  show _ ∧ _
  rw [hz]
  refine ⟨⟨_, he, rfl⟩, h _ he ⟨_, Heap.get?_push_of_some _ (Heap.get?_push_size _ (by rw [← ho]; rfl)), by rw [← ho], by rw [← ho]; rfl⟩ fun b u x => Heap.get?_push_of_some _ (Heap.get?_push_of_some _ x)⟩
theorem turn_enumT {P : Program} {w : World} {K : PySem.W.Frag} {elts : List Expr} {kk : Nat} {tpos : Pos} (a e it : Addr) :
    Turn P w K (.Tuple elts kk tpos) (IteT K a) [e, it] e (fun i h => (∃ old, IsEnum h e it ((i : Nat) : Int) old) ∧ h.IsTupleIter it a i ∧ e ≠ it) where
  mem := by simp
  obj := fun i h st b hb => by
    obtain ⟨⟨old, he⟩, ⟨o, ho, hc, hd⟩, hne⟩ := st
    have e' : b = e ∨ b = it := by simpa using hb
    rcases e' with z | z
    · rw [z]; exact ⟨_, he, fun v q => nomatch q⟩
    · rw [z]; exact ⟨o, ho, fun v q => by rw [hd] at q; cases q⟩
  keep := fun i h h' st k => let ⟨⟨old, he⟩, hi, hne⟩ := st; ⟨⟨old, k e (by simp) _ he⟩, hi.at fun o q => k it (by simp) o q, hne⟩
  item := by
    intro X hP hw hK hc i pins s σ H E I hf st hg
    subst hP hw hK
    obtain ⟨⟨old, he⟩, hit, hne⟩ := st
    obtain ⟨xs, x, hq, hx⟩ := hg
    obtain ⟨its, rv, p, hz⟩ := I.tuple hq
    obtain ⟨u, hu, ru⟩ := rv.get hx
    have hel : e < s.heap.objs.size := Heap.lt_size he
    have hil : it < s.heap.objs.size := by obtain ⟨_, q, _⟩ := hit; exact Heap.lt_size q
    obtain ⟨o, ho, hcl, hdt⟩ := id p
    have hia : a ≠ it := fun z => by
      obtain ⟨o2, h2, c2, _⟩ := id hit
      rw [z] at ho
      rw [ho] at h2; cases h2
      rw [hcl] at c2
      injection c2 with c2
      exact absurd c2 (by decide)
    have hea : e ≠ a := fun z => by
      rw [← z] at ho
      have he2 : s.heap.get? e = some _ := he
      rw [ho] at he2
      rw [Option.some.inj he2] at hcl
      injection hcl with hcl
      exact absurd hcl (by decide)
    have hi : i < its.toArray.size := by
      have q := (List.getElem?_eq_some_iff.mp hu).1
      rw [List.size_toArray]; exact q
    have hh1 : X.A.in1.handled = none := I.ok.hd hc
    refine wpAny_pyNext_enum_itemC (c := ((i : Nat) : Int)) (Draws.tuple (prog := X.prog) (w := X.w) hh1 it a hia its.toArray) he ⟨hit, show s.heap.IsTuple a its.toArray from p⟩ hi hne (by simp [hne, hea]) fun x' h' tk hx' ho' hst' hT hsz hk => ?_
    have ex : x' = u := by
      have q : its[i]? = some x' := by simpa using hx'
      rw [hu] at q; cases q; rfl
    subst ex
    refine ⟨_, rfl, wpAny_letOwnedTupleGo_enum (s := { s with heap := h', toks := tk + 1 }) ho' fun h'' he' sb => ?_⟩
    have hT2 : h''.get? s.heap.objs.size = some { cls := .type "tuple", data := .seq #[.int i tk, x'] } := (sb.2 _ (Nat.ne_of_gt hel)).trans hT
    have new : ObjOk X.prog X.w (upd H s.heap.objs.size (.tup [.int (i : Nat), x])) h'' s.heap.objs.size (.tup [.int (i : Nat), x]) :=
      ⟨by show 2 ≤ sizeLine; decide, [.int i tk, x'], .cons ⟨_, rfl⟩ (.cons ru .nil), ⟨_, hT2, rfl, _, rfl⟩⟩
    have I1 : Inv X pins σ (upd H s.heap.objs.size (.tup [.int (i : Nat), x])) { s with heap := h'', toks := tk + 1 } :=
      I.turnedNew (ch := [e, it]) (fun b ob hb q => (sb.2 b (fun z => hb (by simp [z]))).trans (hk b ob (fun z => hb (by simp [z])) (fun z => hb (by simp [z])) q)) hf (Nat.le_refl _) new
    refine ⟨.ref s.heap.objs.size, _, I1, rfl, ⟨_, x, rfl, I.hok.fresh (Nat.le_refl _), rfl, fun ys hy => by rw [I.tuple_inj hy hq]; exact hx⟩, ⟨⟨x', ?_⟩, hst'.1.at fun o q => (sb.2 it (Ne.symm hne)).trans q, hne⟩, fun b hb => ?_⟩
    · have e1 : ((i + 1 : Nat) : Int) = (i : Int) + 1 := by omega
      rw [e1]; exact he'
    · have hb' : b < s.heap.objs.size := by
        have e' : b = e ∨ b = it := by simpa using hb
        rcases e' with z | z
        · rw [z]; exact hel
        · rw [z]; exact hil
      rw [upd_ne (Nat.ne_of_lt hb')]
      exact (hf b hb).1
  done := by
    intro X hP hw hK hc i pins s σ H E I hf st hg
    subst hP hw hK
    obtain ⟨⟨old, he⟩, hit, hne⟩ := st
    obtain ⟨xs, hq, hx⟩ := hg
    obtain ⟨its, rv, p, hz⟩ := I.tuple hq
    obtain ⟨f0, f1, f2, f3, f4, f5⟩ := hf it (by simp)
    have hl := rv.length
    have hTy : s.TypeIs (.ref e) "enumerate" := ⟨_, he, rfl⟩
    unfold pyNext
    refine wpAny_bind (wpAny_attempt (wpAny_callSpecial?_slot (name := Str.ofString "__next__") hTy F.slot_enumerate_next
      (wpAny_call_entry F.slot_enumerate_next hTy F.entry_enumerate_next ?_ (F.args_enumerate_next_1 _))))
    show wpAny _ _ (field (.ref e) 2 >>= _) _ _ _
    refine wpAny_bind (wpAny_field he rfl (x := .ref it) rfl ?_)
    refine wpAny_bind (wpAny_nextOf_tuple_end (I.ok.hd hc) hit (show s.heap.IsTuple a its.toArray from p) (by simp; omega) fun h' x he' hx' => ?_)
    obtain ⟨o, ho, hc'⟩ := hx'
    refine wpAny_bind (wpAny_isInstance (T := "StopIteration") (b := true) ⟨o, ho, hc'⟩ isSubtype_stop ?_)
    exact wpAny_pure ⟨rfl, I.turned (t' := s.toks) (fun b o hb q => he' b o hb q) f0 f1 f3 f4 f5⟩
  self := fun A i s Q E st h => let ⟨⟨_, he⟩, _⟩ := st; wpAny_pyIter_enum he h
end Pw

set_option Elab.async false
set_option linter.all false
set_option maxRecDepth 100000
set_option maxHeartbeats 2000000
/-! Pw: sources, targets, list comprehensions. -/
namespace Pw
open PySem PySem.Spec PyProof.Rows L2

theorem KL.all {K : PySem.W.Frag} {H : Hp} {a : Addr} {vs : List V} (h : KL K H a vs) : ∀ H', Kp H H' → SqL K H' a vs := fun _ k => (h.kp k).sq
theorem sq_of {K : PySem.W.Frag} {H : Hp} {v : V} {r : R} {ds : List D} (h : RR K H v r) (e : sqD r = some ds) :
    (∃ a vs, v = .ref a ∧ (∀ H', Kp H H' → SqL K H' a vs) ∧ RDs H vs ds) ∨ ∃ a vs, v = .ref a ∧ (∀ H', Kp H H' → SqT K H' a vs) ∧ RDs H vs ds := by
  cases r with
  | d x =>
    cases x with
    | list xs =>
      cases e
      have h' : RD H v (.list ds) := h
      cases h' with
      | lst e1 r => exact .inl ⟨_, _, rfl, fun H' k => .inl (.inr ⟨_, k.2 _ _ _ e1⟩), r⟩
    | tuple xs =>
      cases e
      have h' : RD H v (.tuple ds) := h
      cases h' with
      | tup e1 r => exact .inr ⟨_, _, rfl, fun H' k => .inl (.inl (k.1 _ _ e1)), r⟩
    | _ => cases e
  | kl xs =>
    cases e
    obtain ⟨a, vs, e1, e2, e3⟩ := h
    exact .inl ⟨a, vs, e1, e2.all, e3⟩
  | _ => cases e
theorem sqD_rr {K : PySem.W.Frag} {env : En} {σ : L2.St} {H : Hp} {v : V} {r : R} {ds : List D} (h : RP K env σ H v r) (e : sqD r = some ds) : RR K H v r := h.rr fun i z => by subst z; cases e
section
variable {X : Cx} {W : WX} {OW : Nat → Bool} {tg e e2 : Expr} {m n : ME} {mg : MG} {p pos : Pos}
theorem di_seq (h : DE X W OW e m) : DI X W OW tg e (mSq m) := by
  refine ⟨fun pins s σ H R I ⟨H0, P, env, L, Rl, S⟩ => ?_⟩
  refine thn (h.run pins s σ H (fun v H1 => ∃ r e1 ds, sqD r = some ds ∧ Rel X.K OW H0 P e1 σ H1 ((v, r) :: L) ∧ ∀ H' J, Rel X.K OW H0 P e1 σ H' L → SrcOk H' J ds → R J H') I ⟨H0, P, env, L, Rl, (Sat.bind S).mono fun r e1 _ S1 v H1 R1 => ?_⟩) fun v s1 ⟨x, H1, I1, rv, r, e1, ds, hd, R1, q⟩ => ?_
  · cases hd : sqD r with
    | none => simp only [hd] at S1; exact S1.elim
    | some ds => simp only [hd] at S1; exact ⟨r, e1, ds, hd, R1, S1⟩
  · have fr : FpOk X pins H1 s1.heap.objs.size := I1.fpOk (Nat.le_refl _) (I1.hok.fresh (Nat.le_refl _))
    rcases sq_of (sqD_rr (R1.pend _ List.mem_cons_self) hd) hd with ⟨a, vs, ea, sq, rd⟩ | ⟨a, vs, ea, sq, rd⟩
    · have ea' : x = .ref a := ea
      subst ea'
      cases rv
      obtain ⟨its, rvs, pl, hz⟩ := I1.list (sq H1 (Kp.refl _))
      refine wpAny_pyIter_list pl.isList ⟨s1.heap.objs.size, [s1.heap.objs.size], _, _, H1, rfl, I1.kept (t' := s1.toks) fun b o e => Heap.get?_push_of_some _ e, turn_list a _, ⟨_, Heap.get?_push_size _ rfl, rfl, rfl⟩, fun b hb => ?_, q _ _ R1.drop (src_list sq rd)⟩
      have e : b = s1.heap.objs.size := by simpa using hb
      rw [e]; exact fr
    · have ea' : x = .ref a := ea
      subst ea'
      cases rv
      obtain ⟨its, rvs, pl, hz⟩ := I1.tuple (sq H1 (Kp.refl _))
      refine wpAny_pyIter_tuple (show s1.heap.IsTuple a its.toArray from pl) ⟨s1.heap.objs.size, [s1.heap.objs.size], _, _, H1, rfl, I1.kept (t' := s1.toks) fun b o e => Heap.get?_push_of_some _ e, turn_tuple a _, ⟨_, Heap.get?_push_size _ rfl, rfl, rfl⟩, fun b hb => ?_, q _ _ R1.drop (src_tup sq rd)⟩
      have e : b = s1.heap.objs.size := by simpa using hb
      rw [e]; exact fr
theorem di_rg (h : DG X W OW e mg) : DI X W OW tg e (mRgI mg) := by
  refine ⟨fun pins s σ H R I ⟨H0, P, env, L, Rl, S⟩ => ?_⟩
  refine thn (h pins s σ H (fun a b H1 => ∃ e1, rgOk a b = true ∧ Rel X.K OW H0 P e1 σ H1 L ∧ ∀ H' J, Rel X.K OW H0 P e1 σ H' L → SrcOk H' J (rgD a b) → R J H') I ⟨H0, P, env, L, Rl, (Sat.bind S).mono fun ab e1 _ S1 H1 R1 => ?_⟩) fun v s1 ⟨r, a, b, t, u, w, H1, ev, hr, I1, e1, ok, R1, q⟩ => ?_
  · by_cases c : rgOk ab.1 ab.2 = true
    · rw [if_pos c] at S1; exact ⟨e1, c, R1, S1⟩
    · rw [if_neg c] at S1; exact S1.elim
  · subst ev
    obtain ⟨h1, h2, h3, h4, _⟩ := rgOk_ok ok
    refine wpAny_pyIter_range hr (small_one h1 h2 h3 h4) ⟨s1.heap.objs.size, [s1.heap.objs.size], _, _, H1, rfl, I1.kept (t' := s1.toks) fun b o e => Heap.get?_push_of_some _ e, turn_range _ a (b - a).toNat, ?_, fun c hb => ?_, q _ _ R1 (src_rg a b)⟩
    · have e1 : a + ((0 : Nat) : Int) * 1 = a := by simp
      have e2 : (((b - a).toNat : Nat) : Int) - ((0 : Nat) : Int) = Builtin.Range.rangeSize a b 1 := by rw [rangeSize_one]; split <;> omega
      show IsRangeIter _ _ (a + ((0 : Nat) : Int) * 1) ((((b - a).toNat : Nat) : Int) - ((0 : Nat) : Int)) 1
      rw [e1, e2]
      exact Heap.get?_push_size _ rfl
    · have e : c = s1.heap.objs.size := by simpa using hb
      rw [e]; exact I1.fpOk (Nat.le_refl _) (I1.hok.fresh (Nat.le_refl _))
theorem di_enum {elts : List Expr} {kk : Nat} {tpos : Pos} (hm : X.mg "enumerate" = none) (h : DE X W OW e m) (hg : Gl X "enumerate" := by rfl) (na : starEach [e] X.env = (false, eval e X.env) :: starEach [] X.env := by rfl) :
    DI X W OW (.Tuple elts kk tpos) (.Call (.Name "enumerate" p) [e] [] pos) (mEnum m) := by
  refine ⟨fun pins s σ H R I ⟨H0, P, env, L, Rl, S⟩ => ?_⟩
  refine Call_ (ld_blt I hg hm boot_enumerate (PyProof.Rows.callWith_type1 (args_cons (thn (h.run pins s σ H (fun v H1 => ∃ r e1 ds, sqD r = some ds ∧ Rel X.K OW H0 P e1 σ H1 ((v, r) :: L) ∧ ∀ H' J, Rel X.K OW H0 P e1 σ H' L → SrcOk H' J (numD ds) → R J H') I ⟨H0, P, env, L, Rl, (Sat.bind (Sat.bind S)).mono fun r e1 _ S1 v H1 R1 => ?_⟩) fun v s1 ⟨x, H1, I1, rv, r, e1, ds, hd, R1, q⟩ => args_nil ?_) na) na))
  · cases hd : sqD r with
    | none => simp only [hd] at S1; exact S1.elim
    | some ds => simp only [hd] at S1; exact ⟨r, e1, ds, hd, R1, S1⟩
  · have fr : ∀ b ∈ [s1.heap.objs.size + 1, s1.heap.objs.size], FpOk X pins H1 b := fun b hb => by
      have e' : b = s1.heap.objs.size + 1 ∨ b = s1.heap.objs.size := by simpa using hb
      have hle : s1.heap.objs.size ≤ b := by
        rcases e' with z | z
        · rw [z]; exact Nat.le_add_right _ _
        · rw [z]; exact Nat.le_refl _
      exact I1.fpOk hle (I1.hok.fresh hle)
    rcases sq_of (sqD_rr (R1.pend _ List.mem_cons_self) hd) hd with ⟨a, vs, ea, sq, rd⟩ | ⟨a, vs, ea, sq, rd⟩
    · have ea' : x = .ref a := ea
      subst ea'
      cases rv
      obtain ⟨its, rvs, pl, hz⟩ := I1.list (sq H1 (Kp.refl _))
      refine call_enumerate_list pl.isList fun h' he hit hsz hk => wpAny_pyIter_enum he ⟨s1.heap.objs.size + 1, [s1.heap.objs.size + 1, s1.heap.objs.size], _, _, H1, rfl, I1.kept (t' := s1.toks) hk, turn_enum a _ _, ⟨⟨.none, he⟩, hit, Nat.succ_ne_self _⟩, fr, q _ _ R1.drop (src_pair fun H' k i => ?_)⟩
      have hs := sq H' k
      have hr := rd.kp k
      refine ⟨fun d ed => ?_, fun hl => ⟨vs, hs, by rw [hr.length]; rw [show (numD ds).length = ds.length from by unfold numD; rw [List.length_mapIdx]] at hl; exact hl⟩⟩
      obtain ⟨dx, ex, rfl⟩ := num_get ed
      obtain ⟨vx, evx, rx⟩ := hr.get ex
      refine ⟨⟨vs, vx, hs, evx⟩, fun y H'' yy => ?_⟩
      obtain ⟨T, w, rfl, hT, rfl, hw⟩ := yy
      have hw2 := hw vs hs
      rw [evx] at hw2; cases hw2
      exact ⟨T, _, _, _, _, rfl, hT, rfl, rfl, .int _, rx⟩
    · have ea' : x = .ref a := ea
      subst ea'
      cases rv
      obtain ⟨its, rvs, pl, hz⟩ := I1.tuple (sq H1 (Kp.refl _))
      refine enum_tup_call (show s1.heap.IsTuple a its.toArray from pl) fun h' he hit hk => wpAny_pyIter_enum he ⟨s1.heap.objs.size + 1, [s1.heap.objs.size + 1, s1.heap.objs.size], _, _, H1, rfl, I1.kept (t' := s1.toks) hk, turn_enumT a _ _, ⟨⟨.none, he⟩, hit, Nat.succ_ne_self _⟩, fr, q _ _ R1.drop (src_pair fun H' k i => ?_)⟩
      have hs := sq H' k
      have hr := rd.kp k
      refine ⟨fun d ed => ?_, fun hl => ⟨vs, hs, by rw [hr.length]; rw [show (numD ds).length = ds.length from by unfold numD; rw [List.length_mapIdx]] at hl; exact hl⟩⟩
      obtain ⟨dx, ex, rfl⟩ := num_get ed
      obtain ⟨vx, evx, rx⟩ := hr.get ex
      refine ⟨⟨vs, vx, hs, evx⟩, fun y H'' yy => ?_⟩
      obtain ⟨T, w, rfl, hT, rfl, hw⟩ := yy
      have hw2 := hw vs hs
      rw [evx] at hw2; cases hw2
      exact ⟨T, _, _, _, _, rfl, hT, rfl, rfl, .int _, rx⟩
theorem zip_len {xs ys : List D} {i : Nat} (h : (zipD xs ys).length ≤ i) : xs.length ≤ i ∨ ys.length ≤ i := by
  unfold zipD at h
  rw [List.length_zipWith] at h
  omega
theorem sqK_some {r1 r2 : R} {ds : List D} (h : sqK r1 r2 = some ds) : (∃ xs ys, r1 = .d (.list xs) ∧ r2 = .d (.list ys) ∧ ds = zipD xs ys) ∨ ∃ xs ys, r1 = .d (.tuple xs) ∧ r2 = .d (.tuple ys) ∧ ds = zipD xs ys := by
  unfold sqK at h
  split at h
  · exact .inl ⟨_, _, rfl, rfl, (Option.some.inj h).symm⟩
  · exact .inr ⟨_, _, rfl, rfl, (Option.some.inj h).symm⟩
  · cases h
theorem di_zip {elts : List Expr} {kk : Nat} {tpos : Pos} (hm : X.mg "zip" = none) (h : DE X W OW e m) (h2 : DE X W OW e2 n) (hg : Gl X "zip" := by rfl)
    (hs : starEach [e, e2] X.env = (false, eval e X.env) :: starEach [e2] X.env := by rfl) (hs2 : starEach [e2] X.env = (false, eval e2 X.env) :: starEach [] X.env := by rfl) (hpl : (backTo pos (starEach [e2] X.env)).any (·.1) = false := by rfl) :
    DI X W OW (.Tuple elts kk tpos) (.Call (.Name "zip" p) [e, e2] [] pos) (mZip m n) := by
  refine ⟨fun pins s σ H R I ⟨H0, P, env, L, Rl, S⟩ => (RZ.pi_zipA hg hm (da_cons h (da_cons h2 da_nil hs2) hs) hs hpl).run pins s σ H R I ⟨H0, P, env, L, Rl, ?_⟩⟩
  show Sat (cy X W OW) H0 P σ L ((m env).bind fun r1 e1 => (((n e1).bind fun r2 e2 => .ok [r2] e2)).bind fun rs e2 => .ok (r1 :: rs) e2) _
  have S' : Sat (cy X W OW) H0 P σ L (m env) fun r e1 => Sat (cy X W OW) H0 P σ L ((n e1).bind fun r2 e2 => match sqK r r2 with
    | some ds => .ok ds e2
    | none => .st) _ := Sat.bind S
  revert S'
  cases m env with
  | st => exact fun S' => S'
  | ex x ee => exact fun S' => S'
  | ok r1 e1 =>
    intro S'
    have S'' : Sat (cy X W OW) H0 P σ L (n e1) fun r2 e2 => Sat (cy X W OW) H0 P σ L (match sqK r1 r2 with
      | some ds => .ok ds e2
      | none => .st) _ := Sat.bind (show Sat (cy X W OW) H0 P σ L ((n e1).bind _) _ from S')
    revert S''
    show _ → Sat (cy X W OW) H0 P σ L (((n e1).bind fun r2 e2 => .ok [r2] e2).bind fun rs e2 => .ok (r1 :: rs) e2) _
    cases n e1 with
    | st => exact fun S' => S'
    | ex x ee => exact fun S' => S'
    | ok r2 e2 =>
      intro S''
      have S3 : Sat (cy X W OW) H0 P σ L (match sqK r1 r2 with
        | some ds => .ok ds e2
        | none => .st) _ := S''
      intro vs H1 hl R1
      match vs, hl with
      | [v1, v2], _ =>
        have p1 := R1.pend (v1, r1) (by simp)
        have p2 := R1.pend (v2, r2) (by simp)
        have R0 : Rel X.K OW H0 P e2 σ H1 L := R1.drop.drop
        cases hk : sqK r1 r2 with
        | none => simp only [hk] at S3; exact S3.elim
        | some ds =>
          simp only [hk] at S3
          rcases sqK_some hk with ⟨xs, ys, z1, z2, z3⟩ | ⟨xs, ys, z1, z2, z3⟩
          · subst z1 z2 z3
            have h1 : RD H1 v1 (.list xs) := p1
            have h2 : RD H1 v2 (.list ys) := p2
            cases h1 with
            | @lst a o vs1 _ ea ra =>
              cases h2 with
              | @lst b o2 vs2 _ eb rb =>
                have k1 : ∀ H', Kp H1 H' → SqL X.K H' a vs1 := fun H' k => .inl (.inr ⟨_, k.2 _ _ _ ea⟩)
                have k2 : ∀ H', Kp H1 H' → SqL X.K H' b vs2 := fun H' k => .inl (.inr ⟨_, k.2 _ _ _ eb⟩)
                refine ⟨a, b, vs1, vs2, rfl, .inl ⟨k1 _ (Kp.refl _), k2 _ (Kp.refl _), S3 _ _ R0 (src_pair fun H' k i => ⟨fun d ed => ?_, fun hl => ⟨vs1, vs2, k1 _ k, k2 _ k, ?_⟩⟩)⟩⟩
                · obtain ⟨dx, dy, ex, ey, rfl⟩ := zip_get ed
                  obtain ⟨vx, evx, rx⟩ := (ra.kp k).get ex
                  obtain ⟨vy, evy, ry⟩ := (rb.kp k).get ey
                  refine ⟨⟨vs1, vs2, vx, vy, k1 _ k, k2 _ k, evx, evy⟩, fun z H'' yy => ?_⟩
                  obtain ⟨T, u, w, rfl, hT, rfl, hu, hw⟩ := yy
                  have hu2 := hu _ (k1 _ k)
                  have hw2 := hw _ (k2 _ k)
                  rw [evx] at hu2; cases hu2
                  rw [evy] at hw2; cases hw2
                  exact ⟨T, _, _, _, _, rfl, hT, rfl, rfl, rx, ry⟩
                · rw [ra.length, rb.length]; exact zip_len hl
          · subst z1 z2 z3
            have h1 : RD H1 v1 (.tuple xs) := p1
            have h2 : RD H1 v2 (.tuple ys) := p2
            cases h1 with
            | @tup a vs1 _ ea ra =>
              cases h2 with
              | @tup b vs2 _ eb rb =>
                have k1 : ∀ H', Kp H1 H' → SqT X.K H' a vs1 := fun H' k => .inl (.inl (k.1 _ _ ea))
                have k2 : ∀ H', Kp H1 H' → SqT X.K H' b vs2 := fun H' k => .inl (.inl (k.1 _ _ eb))
                refine ⟨a, b, vs1, vs2, rfl, .inr ⟨k1 _ (Kp.refl _), k2 _ (Kp.refl _), S3 _ _ R0 (src_pair fun H' k i => ⟨fun d ed => ?_, fun hl => ⟨vs1, vs2, k1 _ k, k2 _ k, ?_⟩⟩)⟩⟩
                · obtain ⟨dx, dy, ex, ey, rfl⟩ := zip_get ed
                  obtain ⟨vx, evx, rx⟩ := (ra.kp k).get ex
                  obtain ⟨vy, evy, ry⟩ := (rb.kp k).get ey
                  refine ⟨⟨vs1, vs2, vx, vy, k1 _ k, k2 _ k, evx, evy⟩, fun z H'' yy => ?_⟩
                  obtain ⟨T, u, w, rfl, hT, rfl, hu, hw⟩ := yy
                  have hu2 := hu _ (k1 _ k)
                  have hw2 := hw _ (k2 _ k)
                  rw [evx] at hu2; cases hu2
                  rw [evy] at hw2; cases hw2
                  exact ⟨T, _, _, _, _, rfl, hT, rfl, rfl, rx, ry⟩
                · rw [ra.length, rb.length]; exact zip_len hl
end
/-! ### targets -/
def NoX : WX := fun _ _ _ _ => False
abbrev MQ := R → En → Option En
def tQ (C : Cy) (sl : List Nat) (mt : MQ) : TG := fun v σ H Q => ∃ H0 P env L r env', Rel C.K C.OW H0 P env σ H ((v, r) :: L) ∧ (∀ p ∈ L, ∀ i, p.2 = .vr i → i ∉ sl) ∧ mt r env = some env' ∧
  ∀ σ' H', σ'.length = σ.length → (∀ j, j ∉ sl → σ'[j]? = σ[j]?) → Rel C.K C.OW H0 P env' σ' H' L → Q σ' H'
def tQs (C : Cy) (sl : List Nat) (mt : List D → En → Option En) : TGs := fun vs σ H Q => ∃ H0 P env L ds env', vs.length = ds.length ∧ Rel C.K C.OW H0 P env σ H (vs.zip (ds.map R.d) ++ L) ∧ (∀ p ∈ L, ∀ i, p.2 = .vr i → i ∉ sl) ∧ mt ds env = some env' ∧
  ∀ σ' H', σ'.length = σ.length → (∀ j, j ∉ sl → σ'[j]? = σ[j]?) → Rel C.K C.OW H0 P env' σ' H' L → Q σ' H'
abbrev DQ (X : Cx) (OW : Nat → Bool) (tg : Expr) (sl : List Nat) (mt : MQ) : Prop := PG X tg (tQ (cy X NoX OW) sl mt)
abbrev DQs (X : Cx) (OW : Nat → Bool) (tg : List Expr) (sl : List Nat) (mt : List D → En → Option En) : Prop := PGs X tg (tQs (cy X NoX OW) sl mt)
def okSt (b : Bool) : R → Bool
  | .vr _ => false
  | .pl _ => false
  | .ol _ => b
  | .oK _ => b
  | .oT _ => b
  | _ => true
def qN (i : Nat) (b : Bool) : MQ := fun r env => if (decide (i < env.length) && notPl env[i]? && okSt b r) = true then some (env.set i (some r)) else none
def qNil : List D → En → Option En := fun ds env => match ds with
  | [] => some env
  | _ => none
def qCons (mt : MQ) (mts : List D → En → Option En) : List D → En → Option En := fun ds env => match ds with
  | d :: ds => match mt (.d d) env with
    | some e => mts ds e
    | none => none
  | [] => none
def qTup (n : Nat) (mts : List D → En → Option En) : MQ := fun r env => match r with
  | .d (.tuple ds) => if ds.length = n then mts ds env else none
  | _ => none
theorem okSt_ok {b : Bool} {r : R} (h : okSt b r = true) : (∀ j, r ≠ .vr j) ∧ (∀ ds, r ≠ .pl ds) ∧ (r.own = true → b = true) := by
  refine ⟨fun j z => (by subst z; cases h), fun ds z => (by subst z; cases h), fun o => ?_⟩
  cases r <;> first | exact h | (cases h; done) | (cases o; done)
theorem Rel.putAll {K : PySem.W.Frag} {OW : Nat → Bool} {H0 H : Hp} {P : List (Option Addr)} {env : En} {σ : L2.St} {L : Pe} (R1 : Rel K OW H0 P env σ H L) : ∀ {vs : List V} {ds : List D}, RDs H vs ds → Rel K OW H0 P env σ H (vs.zip (ds.map R.d) ++ L)
  | _, _, .nil => R1
  | _, _, .cons r t => (R1.putAll t).put (RP.of r) rfl
theorem zip_d {vs : List V} {ds : List D} {p : V × R} (h : p ∈ vs.zip (ds.map R.d)) : ∃ x, p.2 = .d x := by
  have q := (List.of_mem_zip (show (p.1, p.2) ∈ _ from h)).2
  obtain ⟨x, _, e⟩ := List.mem_map.mp q
  exact ⟨x, e.symm⟩
section
variable {X : Cx} {OW : Nat → Bool} {tg e o i : Expr} {es : List Expr} {sl sl2 : List Nat} {mt : MQ} {mts : List D → En → Option En} {pos : Pos} {mo mi : ME}
theorem dq_name {j : Nat} {x : Str} {b : Bool} (hN : X.N.Nodup) (hb : b = true → OW j = true) (hi : X.N[j]? = some x := by rfl) (hx : Loc X.env.scope x := by first | exact Or.inl rfl | exact Or.inr rfl) (hf : X.fn x = true ∨ X.env.scope.names.lookup x = some .local := by first | exact .inl rfl | exact .inr rfl) : DQ X OW (.Name x pos) [j] (qN j b) := by
  refine ⟨fun pins s σ H v u Q I r ⟨H0, P, env, L, rr, env', R1, nv, hm, q⟩ => (pg_name hN hi hx hf).run pins s σ H v u Q I r ?_⟩
  unfold qN at hm
  by_cases c : (decide (j < env.length) && notPl env[j]? && okSt b rr) = true
  · rw [if_pos c] at hm
    cases hm
    simp only [Bool.and_eq_true, decide_eq_true_eq] at c
    obtain ⟨⟨c1, c2⟩, c3⟩ := c
    obtain ⟨o1, o2, o3⟩ := okSt_ok c3
    exact q _ H (by rw [List.length_set]) (fun k hk => by rw [List.getElem?_set_ne (fun z => hk (by simp [z]))]) (R1.store c1 c2 o1 o2 (fun p m z => nv p m j z (by simp)) fun o => hb (o3 o))
  · rw [if_neg c] at hm; cases hm
theorem dqs_nil : DQs X OW [] [] qNil := by
  refine ⟨fun pins s σ H vs us Q I r ⟨H0, P, env, L, ds, env', hl, R1, nv, hm, q⟩ => pgs_nil.run pins s σ H vs us Q I r ?_⟩
  match ds, hm with
  | [], hm =>
    cases hm
    match vs, hl with
    | [], _ => exact ⟨rfl, q σ H rfl (fun _ _ => rfl) R1⟩
theorem dqs_cons (h1 : DQ X OW e sl mt) (h2 : DQs X OW es sl2 mts) (hs : (assignEach (e :: es) X.env).map (·.2) = assign e X.env :: (assignEach es X.env).map (·.2) := by rfl) : DQs X OW (e :: es) (sl ++ sl2) (qCons mt mts) := by
  refine ⟨fun pins s σ H vs us Q I r ⟨H0, P, env, L, ds, env', hl, R1, nv, hm, q⟩ => (pgs_cons h1 h2 hs).run pins s σ H vs us Q I r ?_⟩
  match ds, hm with
  | d :: ds, hm =>
    match vs, hl with
    | v :: vs, hl =>
      unfold qCons at hm
      cases hd : mt (.d d) env with
      | none => simp only [hd] at hm; cases hm
      | some e1 =>
        simp only [hd] at hm
        refine ⟨v, vs, rfl, H0, P, env, vs.zip (ds.map R.d) ++ L, .d d, e1, R1, fun p m i z => ?_, hd, fun σ' H' hl' ha R2 => ⟨H0, P, e1, L, ds, env', by simpa using hl, R2, fun p m i z => ?_, hm, fun σ2 H2 hl2 ha2 R3 => ?_⟩⟩
        · rcases List.mem_append.mp m with m | m
          · obtain ⟨x, ex⟩ := zip_d m
            rw [ex] at z; cases z
          · exact fun y => nv p m i z (List.mem_append_left _ y)
        · exact fun y => nv p m i z (List.mem_append_right _ y)
        · exact q σ2 H2 (hl2.trans hl') (fun j hj => (ha2 j fun y => hj (List.mem_append_right _ y)).trans (ha j fun y => hj (List.mem_append_left _ y))) R3
theorem dq_tup {k : Nat} {n : Nat} (hc : X.calm = true) (h : DQs X OW es sl mts) (hn : (assignEach es X.env).length = n := by rfl) (hst : (assignEach es X.env).findIdx? (·.1) = none := by rfl) : DQ X OW (.Tuple es k pos) sl (qTup n mts) := by
  refine ⟨fun pins s σ H v u Q I r ⟨H0, P, env, L, rr, env', R1, nv, hm, q⟩ => (pg_tup hc h hn hst).run pins s σ H v u Q I r ?_⟩
  unfold qTup at hm
  split at hm
  · rename_i ds
    by_cases c : ds.length = n
    · rw [if_pos c] at hm
      have hd : RD H v (.tuple ds) := R1.pend (v, .d (.tuple ds)) List.mem_cons_self
      cases hd with
      | @tup a vs _ ea ra =>
        exact ⟨a, vs, rfl, .inl (.inl ea), by rw [ra.length]; exact c, H0, P, env, L, ds, env', ra.length, R1.drop.putAll ra, nv, hm, q⟩
    · rw [if_neg c] at hm; cases hm
  · cases hm
end
/-! ### o[i] = .. -/
def putD {κ : Type} [DecidableEq κ] (kvs : List (κ × D)) (k : κ) (v : D) : List (κ × D) := if (kvs.any fun kv => decide (kv.1 = k)) = true then kvs.map (fun kv => if kv.1 = k then (kv.1, v) else kv) else kvs ++ [(k, v)]
/-- an own list, an own dict, written at a place -/
def putAt (k x : D) : R → Option R
  | .ol xs => match k with
    | .int i => (ixN xs.length i).map fun j => .ol (xs.set j x)
    | _ => none
  | .pl xs => match k with
    | .int i => (ixN xs.length i).map fun j => .pl (xs.set j x)
    | _ => none
  | .oK kvs => if kvs.length < 16777216 then (toKey k).map fun kk => .oK (putD kvs kk x) else none
  | .oT kvs => if kvs.length < 16777216 then (toKeys k).map fun kk => .oT (putD kvs kk x) else none
  | _ => none
def qSub (mo mi : ME) : MQ := fun r env => match r with
  | .d x => match mo env with
    | .ok (.vr j) e1 => match mi e1 with
      | .ok (.d k) e2 => match e2[j]? with
        | some (some t) => (putAt k x t).map fun t' => e2.set j (some t')
        | _ => none
      | _ => none
    | _ => none
  | _ => none
theorem prd_len {α β : Type} {F : α → β → Prop} : ∀ {l : List α} {m : List β}, Paired F l m → l.length = m.length
  | _, _, .nil => rfl
  | _, _, .cons _ t => by rw [List.length_cons, List.length_cons, prd_len t]
theorem prd_app {α β : Type} {F : α → β → Prop} : ∀ {l l' : List α} {m m' : List β}, Paired F l m → Paired F l' m' → Paired F (l ++ l') (m ++ m')
  | _, _, _, _, .nil, h => h
  | _, _, _, _, .cons r t, h => .cons r (prd_app t h)
theorem RDK.put {H : Hp} {v : V} {x : D} (r : RD H v x) {k : Key} : ∀ {l : List (Key × V)} {m : List (Key × D)}, RDK H l m → RDK H (l.map fun kv => if kv.1 = k then (kv.1, v) else kv) (m.map fun kv => if kv.1 = k then (kv.1, x) else kv)
  | _, _, .nil => .nil
  | (a, b) :: l, (c, d) :: m, .cons h t => by
    obtain ⟨e, rb⟩ := h
    have e' : a = c := e
    subst e'
    refine .cons (?_ : (if a = k then (a, v) else (a, b)).1 = (if a = k then (a, x) else (a, d)).1 ∧ RD H (if a = k then (a, v) else (a, b)).2 (if a = k then (a, x) else (a, d)).2) (RDK.put r t)
    by_cases z : a = k
    · rw [if_pos z, if_pos z]
      exact ⟨rfl, r⟩
    · rw [if_neg z, if_neg z]
      exact ⟨rfl, rb⟩
theorem RDT.put {H : Hp} {v : V} {x : D} (r : RD H v x) {k : List Key} : ∀ {l : List (List Key × V)} {m : List (List Key × D)}, RDT H l m → RDT H (l.map fun kv => if kv.1 = k then (kv.1, v) else kv) (m.map fun kv => if kv.1 = k then (kv.1, x) else kv)
  | _, _, .nil => .nil
  | (a, b) :: l, (c, d) :: m, .cons h t => by
    obtain ⟨e, rb⟩ := h
    have e' : a = c := e
    subst e'
    refine .cons (?_ : (if a = k then (a, v) else (a, b)).1 = (if a = k then (a, x) else (a, d)).1 ∧ RD H (if a = k then (a, v) else (a, b)).2 (if a = k then (a, x) else (a, d)).2) (RDT.put r t)
    by_cases z : a = k
    · rw [if_pos z, if_pos z]
      exact ⟨rfl, r⟩
    · rw [if_neg z, if_neg z]
      exact ⟨rfl, rb⟩
theorem any_key {κ : Type} [DecidableEq κ] {F : V → D → Prop} {k : κ} : ∀ {l : List (κ × V)} {m : List (κ × D)}, Paired (fun p q => p.1 = q.1 ∧ F p.2 q.2) l m → (l.any fun kv => decide (kv.1 = k)) = m.any fun kv => decide (kv.1 = k)
  | _, _, .nil => rfl
  | (a, b) :: l, (c, d) :: m, .cons h t => by
    obtain ⟨e, _⟩ := h
    have e' : a = c := e
    subst e'
    rw [List.any_cons, List.any_cons, any_key t]
theorem RDK.putD {H : Hp} {v : V} {x : D} {k : Key} {l : List (Key × V)} {m : List (Key × D)} (h : RDK H l m) (r : RD H v x) : RDK H (L2.putK l k v) (Pw.putD m k x) := by
  unfold L2.putK Pw.putD
  rw [any_key h]
  split
  · exact h.put r
  · exact prd_app h (.cons ⟨rfl, r⟩ .nil)
theorem RDT.putD {H : Hp} {v : V} {x : D} {k : List Key} {l : List (List Key × V)} {m : List (List Key × D)} (h : RDT H l m) (r : RD H v x) : RDT H (L2.putK l k v) (Pw.putD m k x) := by
  unfold L2.putK Pw.putD
  rw [any_key h]
  split
  · exact h.put r
  · exact prd_app h (.cons ⟨rfl, r⟩ .nil)
def rSetA : TSet := fun o i v H Q => rSetL o i v H Q ∨ rSetD o i v H Q
theorem set_any {X : Cx} (hu : X.A.units + 1 < cLine) : PSet X rSetA := by
  intro pins s σ H o i v ov iv u Q I ro ri rv h
  rcases h with h | h
  · exact set_list pins s σ H o i v ov iv u Q I ro ri rv h
  · exact set_dict hu pins s σ H o i v ov iv u Q I ro ri rv h
/-- the write itself: a slot's own thing -/
theorem Rel.putAt {K : PySem.W.Frag} {OW : Nat → Bool} {H0 H : Hp} {P : List (Option Addr)} {env : En} {σ : L2.St} {L : Pe} {j : Nat} {t t' : R} {k x : D} {ov iv v : V} {Q : Hp → Prop} (R1 : Rel K OW H0 P env σ H L) (e : env[j]? = some (some t)) (ho : σ[j]? = some (some ov)) (hk : RD H iv k) (hx : RD H v x) (hp : Pw.putAt k x t = some t')
    (q : ∀ H', Rel K OW H0 P (env.set j (some t')) σ H' L → Q H') : rSetA ov iv v H Q := by
  obtain ⟨w, e1, rr⟩ := R1.slot j t e
  rw [ho] at e1; cases e1
  cases t with
  | ol xs =>
    obtain ⟨a, vs, ea, eh, r⟩ := rr
    subst ea
    cases k with
    | int i =>
      cases hk
      obtain ⟨n, h1, h2⟩ := Option.map_eq_some_iff.mp (show (ixN xs.length i).map (fun j => R.ol (xs.set j x)) = some t' from hp)
      subst h2
      refine .inl ⟨a, vs, i, n, rfl, rfl, eh, by rw [r.length]; exact h1, q _ (R1.change e ho rfl ⟨a, _, rfl, upd_same, ((r.set hx n).kp (Kp.write eh trivial))⟩)⟩
    | _ => cases hp
  | pl xs =>
    obtain ⟨a, vs, ea, eh, r⟩ := rr
    subst ea
    cases k with
    | int i =>
      cases hk
      obtain ⟨n, h1, h2⟩ := Option.map_eq_some_iff.mp (show (ixN xs.length i).map (fun j => R.pl (xs.set j x)) = some t' from hp)
      subst h2
      refine .inl ⟨a, vs, i, n, rfl, rfl, eh, by rw [r.length]; exact h1, q _ (R1.change e ho rfl ⟨a, _, rfl, upd_same, ((r.set hx n).kp (Kp.write eh trivial))⟩)⟩
    | _ => cases hp
  | oK kvs =>
    obtain ⟨a, ws, ea, eh, r⟩ := rr
    subst ea
    have hp' : (if kvs.length < 16777216 then (toKey k).map fun kk => R.oK (putD kvs kk x) else none) = some t' := hp
    by_cases c : kvs.length < 16777216
    · rw [if_pos c] at hp'
      obtain ⟨kk, h1, h2⟩ := Option.map_eq_some_iff.mp hp'
      subst h2
      have ek : iv = kV kk := DV.key (K := K) (kl := false) hk.dv h1
      subst ek
      have hl : ws.length = kvs.length := prd_len r
      exact .inr ⟨a, _, rfl, DPut.k eh (by rw [hl, sizeLine_eq]; exact c), q _ (R1.change e ho rfl ⟨a, _, rfl, upd_same, (r.kp (Kp.write eh trivial)).putD (hx.kp (Kp.write eh trivial))⟩)⟩
    · rw [if_neg c] at hp'; cases hp'
  | oT kvs =>
    obtain ⟨a, ws, ea, eh, r⟩ := rr
    subst ea
    have hp' : (if kvs.length < 16777216 then (toKeys k).map fun kk => R.oT (putD kvs kk x) else none) = some t' := hp
    by_cases c : kvs.length < 16777216
    · rw [if_pos c] at hp'
      obtain ⟨kk, h1, h2⟩ := Option.map_eq_some_iff.mp hp'
      subst h2
      obtain ⟨b, ek, eb⟩ := DV.keys (K := K) (kl := false) hk.dv h1
      subst ek
      have hl : ws.length = kvs.length := prd_len r
      exact .inr ⟨a, _, rfl, DPut.t eh eb (by rw [hl, sizeLine_eq]; exact c), q _ (R1.change e ho rfl ⟨a, _, rfl, upd_same, (r.kp (Kp.write eh trivial)).putD (hx.kp (Kp.write eh trivial))⟩)⟩
    · rw [if_neg c] at hp'; cases hp'
  | _ => cases hp
section
variable {X : Cx} {OW : Nat → Bool} {o i : Expr} {pos : Pos} {mo mi : ME}
theorem dq_sub (hu : X.A.units + 1 < cLine) (ho : DE X NoX OW o mo) (hi : DE X NoX OW i mi)
    (ha : ∀ v, assign (.Subscript o i pos) X.env v = (do
      let ov ← holding [v] (eval o X.env)
      let iv ← holding [v, ov] (eval i X.env)
      standAt pos
      holding [v, ov, iv] (setItem ov iv v)
      release [v, ov, iv] []) := by intro _; rfl) : DQ X OW (.Subscript o i pos) [] (qSub mo mi) := by
  refine ⟨fun pins s σ H v u Q I r ⟨H0, P, env, L, rr, env', R1, nv, hm, q⟩ => (pg_sub ho hi (set_any hu) ha).run pins s σ H v u Q I r ?_⟩
  unfold qSub at hm
  cases rr with
  | d x =>
    dsimp only at hm
    refine ⟨H0, P, env, (v, .d x) :: L, R1, ?_⟩
    cases h1 : mo env with
    | st => rw [h1] at hm; cases hm
    | ex _ _ => rw [h1] at hm; cases hm
    | ok r1 e1 =>
      rw [h1] at hm
      cases r1 with
      | vr j =>
        dsimp only at hm
        intro ov H1 R2
        refine ⟨H0, P, e1, (ov, .vr j) :: (v, .d x) :: L, R2, ?_⟩
        cases h2 : mi e1 with
        | st => rw [h2] at hm; cases hm
        | ex _ _ => rw [h2] at hm; cases hm
        | ok r2 e2 =>
          rw [h2] at hm
          cases r2 with
          | d k =>
            dsimp only at hm
            intro iv H2 R3
            cases h3 : e2[j]? with
            | none => rw [h3] at hm; cases hm
            | some ot =>
              cases ot with
              | none => rw [h3] at hm; cases hm
              | some t =>
                rw [h3] at hm
                obtain ⟨t', h4, h5⟩ := Option.map_eq_some_iff.mp (show (putAt k x t).map (fun t' => e2.set j (some t')) = some env' from hm)
                subst h5
                have pv : σ[j]? = some (some ov) := (R3.pend (ov, .vr j) (by simp)).1
                have pk : RD H2 iv k := R3.pend (iv, .d k) (by simp)
                have px : RD H2 v x := R3.pend (v, .d x) (by simp)
                exact R3.drop.drop.drop.putAt h3 pv pk px h4 fun H' R4 => q σ H' rfl (fun _ _ => rfl) R4
          | _ => cases hm
      | _ => cases hm
  | _ => cases hm
end
end Pw

set_option Elab.async false
set_option linter.all false
set_option maxRecDepth 100000
set_option maxHeartbeats 2000000
/-! Pw: list comprehensions. -/
namespace Pw
open PySem PySem.Spec PyProof.Rows L2

/-- a block's own slots forgotten -/
def wipeE (env : En) : List Nat → En
  | [] => env
  | v :: vs => (wipeE env vs).set v none
theorem wipe_at {σ : L2.St} {j : Nat} : ∀ {vs : List Nat}, j ∉ vs → (wipe σ vs)[j]? = σ[j]?
  | [], _ => rfl
  | v :: vs, h => by
    unfold wipe
    rw [List.getElem?_set_ne (fun z => h (by rw [z]; exact List.mem_cons_self)), wipe_at fun z => h (List.mem_cons_of_mem _ z)]
theorem wipe_in {σ : L2.St} {j : Nat} : ∀ {vs : List Nat}, j ∈ vs → j < σ.length → (wipe σ vs)[j]? = some none
  | v :: vs, h, hl => by
    unfold wipe
    by_cases e : v = j
    · subst e
      rw [List.getElem?_set_self (by rw [wipe_length]; exact hl)]
    · rw [List.getElem?_set_ne e]
      rcases List.mem_cons.mp h with z | z
      · exact absurd z.symm e
      · exact wipe_in z hl
theorem wipe_eq {σ σ' : L2.St} {vs : List Nat} (hl : σ'.length = σ.length) (h : ∀ j, j ∉ vs → σ'[j]? = σ[j]?) : wipe σ' vs = wipe σ vs := by
  refine List.ext_getElem? fun j => ?_
  by_cases m : j ∈ vs
  · by_cases l : j < σ.length
    · rw [wipe_in m l, wipe_in m (by rw [hl]; exact l)]
    · rw [List.getElem?_eq_none (by rw [wipe_length, hl]; omega), List.getElem?_eq_none (by rw [wipe_length]; omega)]
  · rw [wipe_at m, wipe_at m, h j m]
section
variable {K : PySem.W.Frag} {OW : Nat → Bool} {H0 H : Hp} {P : List (Option Addr)} {env : En} {σ : L2.St} {L : Pe}
theorem Rel.notPl_of (R1 : Rel K OW H0 P env σ H L) {i : Nat} (h : OW i = false) : notPl env[i]? = true := by
  cases e : env[i]? with
  | none => rfl
  | some o =>
    cases o with
    | none => rfl
    | some r =>
      cases r with
      | pl xs => rw [R1.ow i _ e rfl] at h; cases h
      | _ => rfl
theorem Rel.noVr (R1 : Rel K OW H0 P env σ H L) {i : Nat} (h : OW i = false) : ∀ p ∈ L, p.2 ≠ .vr i := fun p m z => by
  rw [R1.vo p m i z] at h; cases h
theorem Rel.wipe (R1 : Rel K OW H0 P env σ H L) : ∀ {vs : List Nat}, (∀ i ∈ vs, OW i = false) → Rel K OW H0 P (wipeE env vs) (L2.wipe σ vs) H L
  | [], _ => R1
  | v :: vs, h => by
    have R2 := Rel.wipe R1 (vs := vs) fun i m => h i (List.mem_cons_of_mem _ m)
    have hv := h v List.mem_cons_self
    have R3 := R2.forget (i := v) (R2.notPl_of hv) (R2.noVr hv)
    refine R3.agree (σ' := (L2.wipe σ vs).set v none) (by rw [List.length_set]) fun i r e => ?_
    have ne : i ≠ v := fun z => by
      subst z
      rcases get_set e with ⟨_, y⟩ | ⟨y, _⟩
      · cases y
      · exact y rfl
    rw [List.getElem?_set_ne (Ne.symm ne)]
theorem wipeE_some {i : Nat} {r : R} : ∀ {vs : List Nat}, (wipeE env vs)[i]? = some (some r) → i ∉ vs ∧ env[i]? = some (some r)
  | [], h => ⟨by simp, h⟩
  | v :: vs, h => by
    unfold wipeE at h
    rcases get_set h with ⟨_, y⟩ | ⟨y, z⟩
    · cases y
    · obtain ⟨a, b⟩ := wipeE_some z
      exact ⟨by simp only [List.mem_cons, not_or]; exact ⟨y, a⟩, b⟩
/-- the same slots, in the frame behind the block -/
theorem Rel.unwipe {vs : List Nat} (R1 : Rel K OW H0 P (wipeE env vs) (L2.wipe σ vs) H L) : Rel K OW H0 P (wipeE env vs) σ H L :=
  R1.agree (by rw [wipe_length]) fun i r e => (wipe_at (wipeE_some e).1).symm
end
/-- the tests of a clause -/
abbrev DTs (X : Cx) (W : WX) (OW : Nat → Bool) (ifs : List Expr) (m : MT) : Prop := PTs X ifs (tT (cy X W OW) m)
def mYes : MT := fun e => .ok true e
section
variable {X : Cx} {W : WX} {OW : Nat → Bool} {c : Expr} {m : MT}
theorem dts_nil : DTs X W OW [] mYes := ⟨fun pins s σ H Q I ⟨H0, P, env, L, Rl, S⟩ => pts_nil.run pins s σ H Q I (S H Rl)⟩
theorem dts_one (h : DT X W OW c m) : DTs X W OW [c] m := pts_one h
end
/-- the turns over ds; acc: what has come -/
def lcGo (mt : MQ) (tt : MT) (me : ME) (vs : List Nat) : List D → List D → En → Res (List D)
  | acc, [], e => .ok acc e
  | acc, x :: xs, e => match mt (.d x) e with
    | none => .st
    | some e1 => match tt e1 with
      | .ok true e2 => match me e2 with
        | .ok (.d y) e3 => if acc.length < 16777216 then lcGo mt tt me vs (acc ++ [y]) xs (wipeE e3 vs) else .st
        | _ => .st
      | .ok false e2 => lcGo mt tt me vs acc xs (wipeE e2 vs)
      | _ => .st
def mLc (mi : MI) (mt : MQ) (tt : MT) (me : ME) (vs : List Nat) : ME := fun env => (mi env).bind fun ds e => match lcGo mt tt me vs [] ds (wipeE e vs) with
  | .ok out e2 => .ok (.ol out) e2
  | _ => .st
section
variable {X : Cx} {W : WX} {OW : Nat → Bool} {mi : MI} {mt : MQ} {tt : MT} {me : ME} {sl vs : List Nat}
theorem lc_le {σ : L2.St} {H : Hp} {Q : VK} (hO : ∀ i ∈ vs, OW i = false) (hsub : ∀ i ∈ sl, i ∈ vs) (h : tD (cy X W OW) (mLc mi mt tt me vs) σ H Q) :
    tLc (tI (cy X W OW) mi) (tQ (cy X NoX OW) sl mt) (tT (cy X NoX OW) tt) (tD (cy X NoX OW) me) vs σ H Q := by
  obtain ⟨H0, P, env, L, Rl, S⟩ := h
  refine ⟨H0, P, env, L, Rl, (Sat.bind S).mono fun ds e1 _ S1 H1 J R1 src D hD => ?_⟩
  have R2 : Rel X.K OW H0 P e1 σ (upd H1 D (.lst [])) ((.ref D, .ol []) :: L) := R1.newOwn hD ⟨D, [], rfl, upd_same, .nil⟩
  have k12 : Kp H1 (upd H1 D (.lst [])) := Kp.new hD
  generalize upd H1 D (.lst []) = H2 at R2 k12
  have R4 := (R2.moreBase).wipe hO
  have Gd : ∀ {o : Res (List PyData)}, Sat (cy X W OW) H0 P σ L (match o with | .ok out e2 => .ok (.ol out) e2 | _ => .st) (okE (cy X W OW) H0 P σ L Q) → ∃ out e2, o = .ok out e2 ∧ ∀ H', Rel X.K OW H0 P e2 σ H' ((.ref D, .ol out) :: L) → Q (.ref D) H' := fun {o} s => by
    cases o with
    | st => exact s.elim
    | ex x e => exact s.elim
    | ok out e2 => exact ⟨out, e2, rfl, fun H' r => s _ _ r⟩
  obtain ⟨out, e2, eo, fin⟩ := Gd S1
  refine ⟨fun i k H => k = ds.length - i ∧ i ≤ ds.length ∧ ∃ env' acc, Rel X.K OW (baseOf H0 H2) P (wipeE env' vs) (L2.wipe σ vs) H ((.ref D, .ol acc) :: L) ∧ lcGo mt tt me vs acc (ds.drop i) (wipeE env' vs) = .ok out e2,
    ⟨ds.length, rfl, Nat.zero_le _, e1, [], R4, eo⟩, ?_⟩
  rintro i k H3 ⟨rfl, hi, env', acc, R5, go⟩
  have kp3 : Kp H2 H3 := R5.kpBase R2.parNot
  by_cases hlt : i < ds.length
  · have hd : ds[i]? = some ds[i] := List.getElem?_eq_getElem hlt
    have hdrop : ds.drop i = ds[i] :: ds.drop (i + 1) := List.drop_eq_getElem_cons hlt
    generalize ds[i] = d at hd hdrop
    rw [hdrop] at go
    obtain ⟨g, y⟩ := ((src H3 (k12.trans kp3)) i).1 d hd
    refine .inr ⟨g, fun H' => ∃ env' acc, Rel X.K OW (baseOf H0 H2) P (wipeE env' vs) (L2.wipe σ vs) H' ((.ref D, .ol acc) :: L) ∧ lcGo mt tt me vs acc (ds.drop (i + 1)) (wipeE env' vs) = .ok out e2,
      fun H' ⟨env', acc, R, q⟩ => ⟨ds.length - (i + 1), by omega, rfl, hlt, env', acc, R, q⟩, fun x H' yy => ?_⟩
    obtain ⟨sm, rx⟩ := y x H' yy
    have R6 : Rel X.K OW (baseOf H0 H2) P (wipeE env' vs) (L2.wipe σ vs) H' ((x, .d d) :: (.ref D, .ol acc) :: L) := (R5.grow sm).put (r := .d d) rx rfl
    unfold lcGo at go
    cases hm : mt (.d d) (wipeE env' vs) with
    | none => simp only [hm] at go; cases go
    | some ea =>
      simp only [hm] at go
      refine ⟨_, P, _, (.ref D, .ol acc) :: L, .d d, ea, R6, fun p m j z w => ?_, hm, fun σ2 H4 hl ag R7 => ⟨?_, ?_⟩⟩
      · exact R6.noVr (hO j (hsub j w)) p (List.mem_cons_of_mem _ m) z
      · rw [wipe_eq hl fun j hj => ag j fun z => hj (hsub j z)]
        exact wipe_eq (wipe_length _ _) fun j hj => wipe_at hj
      · have w2 : L2.wipe σ2 vs = L2.wipe σ vs := by
          rw [wipe_eq hl fun j hj => ag j fun z => hj (hsub j z)]
          exact wipe_eq (wipe_length _ _) fun j hj => wipe_at hj
        refine ⟨_, P, ea, _, R7, ?_⟩
        cases ht : tt ea with
        | st => simp only [ht] at go; cases go
        | ex _ _ => simp only [ht] at go; cases go
        | ok b eb =>
          simp only [ht] at go
          intro H5 R8
          cases b with
          | false =>
            rw [if_neg Bool.false_ne_true]
            refine ⟨eb, acc, ?_, go⟩
            have R9 := R8.wipe hO
            rw [w2] at R9
            exact R9
          | true =>
            rw [if_pos rfl]
            refine ⟨_, P, eb, _, R8, ?_⟩
            cases he : me eb with
            | st => simp only [he] at go; cases go
            | ex _ _ => simp only [he] at go; cases go
            | ok r ec =>
              simp only [he] at go
              cases r with
              | d yv =>
                simp only at go
                by_cases hz : acc.length < 16777216
                · rw [if_pos hz] at go
                  intro v H6 R9
                  have rv : RD H6 v yv := R9.pend (v, .d yv) List.mem_cons_self
                  obtain ⟨a, us, ea', eh, ru⟩ : RR X.K H6 (.ref D) (.ol acc) := R9.pend (.ref D, .ol acc) (List.mem_cons_of_mem _ List.mem_cons_self)
                  cases ea'
                  refine ⟨us, eh, by rw [ru.length, sizeLine_eq]; exact hz, ec, acc ++ [yv], ?_, go⟩
                  have R10 : Rel X.K OW (baseOf H0 H2) P ec σ2 (upd H6 D (.lst (us ++ [v]))) ((.ref D, .ol (acc ++ [yv])) :: L) :=
                    R9.drop.changeP (r' := .ol (acc ++ [yv])) rfl ⟨D, _, rfl, upd_same, (ru.append (.cons rv .nil)).kp (Kp.write eh trivial)⟩
                  have R11 := R10.wipe hO
                  rw [w2] at R11
                  exact R11
                · rw [if_neg hz] at go; cases go
              | _ => cases go
  · have e : i = ds.length := by omega
    subst e
    rw [List.drop_length] at go
    unfold lcGo at go
    cases go
    exact .inl ⟨((src H3 (k12.trans kp3)) _).2 (Nat.le_refl _), fin H3 (R2.backBase R5.unwipe)⟩
variable {elt tg iter : Expr} {ifs : List Expr} {scope : Scope} {own : List (Str × Nat)} {pos : Pos}
theorem de_lc (hc : X.calm = true) (hN : X.N.Nodup) (hi : DI X W OW tg iter mi) (ok : BlkOk X.N X.env.scope scope own)
    (hg : ∀ (s : Shared) (H : Hp) (C : Addr) (cl : List (Str × Addr)) (fp : List Addr), DQ (X.blk s H scope (compEnvC scope cl C X.env) fp) OW tg sl mt)
    (ht : ∀ (s : Shared) (H : Hp) (C : Addr) (cl : List (Str × Addr)) (fp : List Addr), DTs (X.blk s H scope (compEnvC scope cl C X.env) fp) NoX OW ifs tt)
    (he : ∀ (s : Shared) (H : Hp) (C : Addr) (cl : List (Str × Addr)) (fp : List Addr), DE (X.blk s H scope (compEnvC scope cl C X.env) fp) NoX OW elt me)
    (hO : ∀ i ∈ own.map (·.2), OW i = false) (hsub : ∀ i ∈ sl, i ∈ own.map (·.2)) (hs : ∀ x, foldedSetIterable iter X.env x = pure x := by intro _; rfl) :
    DE X W OW (.ListComp elt [⟨tg, iter, ifs, 0⟩] scope pos) (mLc mi mt tt me (own.map (·.2))) := pe_le (pe_lc hc hN hi ok hg ht he hs) fun _ _ _ h => lc_le hO hsub h
end
end Pw

set_option Elab.async false
set_option linter.all false
set_option maxRecDepth 100000
set_option maxHeartbeats 2000000
/-! Pw: methods that change own things; statements. -/
namespace Pw
open PySem PySem.Spec PyProof.Rows L2

/-! ### o.m(..), o a slot's own thing -/
def mMeth (g : R → List D → Option (D × R)) (mo : ME) (ma : MA) : ME := fun env => (mo env).bind fun r e1 => match r with
  | .vr j => (ma e1).bind fun rs e2 => match allD rs, e2[j]? with
    | some ds, some (some t) => match g t ds with
      | some (x, t') => .ok (.d x) (e2.set j (some t'))
      | none => .st
    | _, _ => .st
  | _ => .st
/-- what a method does, by the thing's content -/
def MtOk (K : PySem.W.Frag) (T : String) (r : V → List V → Hp → VK → Prop) (g : R → List D → Option (D × R)) : Prop := ∀ (H : Hp) (o : V) (t t' : R) (vs : List V) (ds : List D) (x : D) (Q : VK), RR K H o t → RDs H vs ds → g t ds = some (x, t') →
  tyV K T o H ∧ t.like t' = true ∧ ∃ a, o = .ref a ∧ ((∀ v u, RD (upd H a u) v x → RR K (upd H a u) (.ref a) t' → Q v (upd H a u)) → r o vs H Q)
section
variable {X : Cx} {W : WX} {OW : Nat → Bool} {o e : Expr} {es : List Expr} {mo : ME} {ma : MA} {name : Str} {apos cpos : Pos} {T id : String} {r : V → List V → Hp → VK → Prop} {g : R → List D → Option (D × R)}
/-- the type is asked ahead of the arguments: what's own keeps its type -/
theorem own_ty {K : PySem.W.Frag} {H : Hp} {v : V} {t : R} (h : RR K H v t) : (∃ xs, t = .ol xs ∨ t = .pl xs) → tyV K "list" v H := by
  rintro ⟨xs, rfl | rfl⟩
  · obtain ⟨a, vs, rfl, e, _⟩ := h
    exact .inl ⟨rfl, vs, .inl (.inl e)⟩
  · obtain ⟨a, vs, rfl, e, _⟩ := h
    exact .inl ⟨rfl, vs, .inl (.inl e)⟩
def isLst : Option (Option R) → Bool
  | some (some (.ol _)) => true
  | some (some (.pl _)) => true
  | _ => false
/-- a list's methods -/
def mMtL (g : R → List D → Option (D × R)) (mo : ME) (ma : MA) : ME := fun env => (mo env).bind fun r e1 => match r with
  | .vr j => if isLst e1[j]? = true then (ma e1).bind fun rs e2 => match allD rs, e2[j]? with
    | some ds, some (some t) => match g t ds with
      | some (x, t') => .ok (.d x) (e2.set j (some t'))
      | none => .st
    | _, _ => .st
    else .st
  | _ => .st
theorem isLst_some {env : En} {j : Nat} (h : isLst env[j]? = true) : ∃ t, env[j]? = some (some t) ∧ ∃ xs, t = .ol xs ∨ t = .pl xs := by
  cases e : env[j]? with
  | none => rw [e] at h; cases h
  | some o =>
    cases o with
    | none => rw [e] at h; cases h
    | some t =>
      rw [e] at h
      cases t with
      | ol xs => exact ⟨_, rfl, xs, .inl rfl⟩
      | pl xs => exact ⟨_, rfl, xs, .inr rfl⟩
      | _ => cases h
def MtL (K : PySem.W.Frag) (r : V → List V → Hp → VK → Prop) (g : R → List D → Option (D × R)) : Prop := ∀ (H : Hp) (o : V) (t t' : R) (vs : List V) (ds : List D) (x : D) (Q : VK), RR K H o t → RDs H vs ds → g t ds = some (x, t') →
  t.like t' = true ∧ ((∀ v a u, o = .ref a → RD (upd H a u) v x → RR K (upd H a u) (.ref a) t' → Q v (upd H a u)) → r o vs H Q)
theorem mtl_le (hg : MtL X.K r g) {σ : L2.St} {H : Hp} {Q : VK} (h : tD (cy X W OW) (mMtL g mo ma) σ H Q) : tBM X.K "list" r (tD (cy X W OW) mo) (tA (cy X W OW) ma) σ H Q := by
  obtain ⟨H0, P, env, L, Rl, S⟩ := h
  refine ⟨H0, P, env, L, Rl, (Sat.bind S).mono fun r1 e1 _ S1 v H1 R1 => ?_⟩
  cases r1 with
  | vr j =>
    dsimp only at S1
    by_cases c : isLst e1[j]? = true
    · rw [if_pos c] at S1
      obtain ⟨t, ht, hl⟩ := isLst_some c
      obtain ⟨hv, _⟩ : σ[j]? = some (some v) ∧ ∃ r, e1[j]? = some (some r) := R1.pend (v, .vr j) List.mem_cons_self
      obtain ⟨w, hw, rr⟩ := R1.slot j t ht
      rw [hv] at hw; cases hw
      refine ⟨own_ty rr hl, H0, P, e1, (v, .vr j) :: L, R1, ((Sat.bind S1).wait fun _ _ q => q.drop).mono fun rs e2 _ S2 vs H2 hlen R2 => ?_⟩
      cases h1 : allD rs with
      | none => simp only [h1] at S2; exact S2.elim
      | some ds =>
        cases h2 : e2[j]? with
        | none => simp only [h1, h2] at S2; exact S2.elim
        | some ot =>
          cases ot with
          | none => simp only [h1, h2] at S2; exact S2.elim
          | some t2 =>
            simp only [h1, h2] at S2
            cases h3 : g t2 ds with
            | none => simp only [h3] at S2; exact S2.elim
            | some p =>
              obtain ⟨x, t'⟩ := p
              simp only [h3] at S2
              have rd := R2.allD hlen (fun p m => List.mem_append_left _ m) h1
              have R3 : Rel X.K OW H0 P e2 σ H2 L := R2.dropZ.drop
              obtain ⟨w2, hw2, rr2⟩ := R3.slot j t2 h2
              rw [hv] at hw2; cases hw2
              obtain ⟨lk, go⟩ := hg H2 v t2 t' vs ds x Q rr2 rd h3
              refine go fun u a ho ea rx rt => ?_
              subst ea
              exact S2 u _ ((R3.change h2 hv lk rt).put (RP.of (r := .d x) rx) rfl)
    · rw [if_neg c] at S1; exact S1.elim
  | _ => exact S1.elim
theorem de_mtl {id : String} (slot : Slot "list" name id) (hty : typeOf (.builtin id) = pure (.type "method_descriptor")) (hm : MtR X id r) (hg : MtL X.K r g) (ho : DE X W OW o mo) (ha : DA X W OW (e :: es) ma)
    (hbase : attributeBase o name X.env (eval o X.env) = eval o X.env := by rfl)
    (hfew : ((backTo cpos (starEach (e :: es) X.env)).all (fun x => !x.1) && (backToKw cpos (keywordEach [] X.env)).all (fun x => x.1.isSome)
      && decide ((e :: es).length + ([] : List Keyword).length + (if ([] : List Keyword).isEmpty then 0 else 1) < 30)) = true := by rfl)
    (hline : (apos.endLine == cpos.line) = true := by rfl) (hs : starEach (e :: es) X.env = (false, eval e X.env) :: starEach es X.env := by rfl) (hplain : (backTo cpos (starEach es X.env)).any (·.1) = false := by rfl) :
    DE X W OW (.Call (.Attribute o name apos) (e :: es) [] cpos) (mMtL g mo ma) := pe_le (pe_bm F.plainAttrs_list slot hty hm ho ha hbase hfew hline hs hplain) fun _ _ _ h => mtl_le hg h
end
/-- append, extend, pop -/
def gApp : R → List D → Option (D × R)
  | .ol xs, [x] => if xs.length < 16777216 then some (.none, .ol (xs ++ [x])) else none
  | .pl xs, [x] => if xs.length < 16777216 then some (.none, .pl (xs ++ [x])) else none
  | _, _ => none
def gExt : R → List D → Option (D × R)
  | .ol xs, [.list ys] => if xs.length + ys.length ≤ 16777216 then some (.none, .ol (xs ++ ys)) else none
  | _, _ => none
def gPop : R → List D → Option (D × R)
  | .ol xs, [.int i] => if decide (-9223372036854775808 ≤ i) && decide (i < 9223372036854775808) then match seqIndex? i xs.length with
      | some k => match xs[k]? with
        | some y => some (y, .ol (xs.eraseIdx k))
        | none => none
      | none => none
    else none
  | _, _ => none
theorem g_app {K : PySem.W.Frag} : MtL K rAppend gApp := by
  intro H o t t' vs ds x Q rr rd hg
  unfold gApp at hg
  split at hg
  · rename_i xs y
    obtain ⟨a, us, rfl, e, ru⟩ := rr
    by_cases c : xs.length < 16777216
    · rw [if_pos c] at hg
      cases hg
      cases rd with
      | cons rv t =>
        cases t
        refine ⟨rfl, fun q => ⟨a, us, _, rfl, rfl, e, by rw [ru.length, sizeLine_eq]; exact c, q _ a _ rfl .non ⟨a, _, rfl, upd_same, (ru.append (.cons rv .nil)).kp (Kp.write e trivial)⟩⟩⟩
    · rw [if_neg c] at hg; cases hg
  · rename_i xs y
    obtain ⟨a, us, rfl, e, ru⟩ := rr
    by_cases c : xs.length < 16777216
    · rw [if_pos c] at hg
      cases hg
      cases rd with
      | cons rv t =>
        cases t
        refine ⟨rfl, fun q => ⟨a, us, _, rfl, rfl, e, by rw [ru.length, sizeLine_eq]; exact c, q _ a _ rfl .non ⟨a, _, rfl, upd_same, (ru.append (.cons rv .nil)).kp (Kp.write e trivial)⟩⟩⟩
    · rw [if_neg c] at hg; cases hg
  · cases hg
theorem g_pop {K : PySem.W.Frag} : MtL K rPopAt gPop := by
  intro H o t t' vs ds x Q rr rd hg
  unfold gPop at hg
  split at hg
  · rename_i xs i
    obtain ⟨a, us, rfl, e, ru⟩ := rr
    by_cases c : (decide (-9223372036854775808 ≤ i) && decide (i < 9223372036854775808)) = true
    · rw [if_pos c] at hg
      simp only [Bool.and_eq_true, decide_eq_true_eq] at c
      cases h1 : seqIndex? i xs.length with
      | none => simp only [h1] at hg; cases hg
      | some k =>
        cases h2 : xs[k]? with
        | none => simp only [h1, h2] at hg; cases hg
        | some y =>
          simp only [h1, h2] at hg
          cases hg
          cases rd with
          | cons rv t =>
            cases t
            cases rv
            obtain ⟨v, hv, rx⟩ := ru.get h2
            exact ⟨rfl, fun q => ⟨a, us, i, k, v, rfl, rfl, e, by omega, by omega, by rw [ru.length]; exact h1, hv, q v a _ rfl (rx.kp (Kp.write e trivial)) ⟨a, _, rfl, upd_same, (ru.eraseIdx k).kp (Kp.write e trivial)⟩⟩⟩
    · rw [if_neg c] at hg; cases hg
  · cases hg
/-- extend by a frozen list -/
def rExtF : V → List V → Hp → VK → Prop := fun x vs H Q => ∃ l b o xs zs, x = .ref l ∧ vs = [.ref b] ∧ H l = some (.lst xs) ∧ H b = some (.frz o (.lst zs)) ∧ xs.length + zs.length ≤ sizeLine ∧ Q .non (upd H l (.lst (xs ++ zs)))
theorem mt_extF {X : Cx} : MtR X "list.extend" rExtF := by
  intro pins s σ H x vs v us Q I rx rv h
  obtain ⟨l, b, o, xs, zs, rfl, rfl, hH, hB, hz, q⟩ := h
  cases rx
  obtain ⟨u, rfl, ru⟩ := rv.one
  cases ru
  obtain ⟨z, its, n, r, hl, e⟩ := I.lstM hH
  obtain ⟨_, z2, its2, n2, r2, e2⟩ := I.hok b _ hB
  have hl2 := r2.length
  have hsz : its.toArray.size + its2.toArray.size ≤ sizeLine := by rw [List.size_toArray, List.size_toArray]; omega
  have hlong : ¬ (!its.toArray.isEmpty && Builtin.List.listTooLong (its.toArray.size + its2.toArray.size)) = true := by
    rw [notLongL hsz, Bool.and_false]
    exact Bool.false_ne_true
  refine call_meets F.slot_list_extend ⟨_, e, rfl⟩ F.entry_list_extend (F.args_list_extend_2 _ _)
    (AutoSeq1.list_extend_list_list_0 l its.toArray n b its2.toArray n2 hlong (by rw [List.size_toArray]; omega) (by omega)) ⟨e, e2, ?_⟩
  refine ⟨.non, _, I.lset (its' := its ++ its2) hH e (by simp) (r.append r2) ?_, rfl, q⟩
  rw [List.length_append]
  omega
theorem g_ext {K : PySem.W.Frag} : MtL K rExtF gExt := by
  intro H o t t' vs ds x Q rr rd hg
  unfold gExt at hg
  split at hg
  · rename_i xs ys
    obtain ⟨a, us, rfl, e, ru⟩ := rr
    by_cases c : xs.length + ys.length ≤ 16777216
    · rw [if_pos c] at hg
      cases hg
      cases rd with
      | cons rv t =>
        cases t
        cases rv with
        | lst eb rb =>
          exact ⟨rfl, fun q => ⟨a, _, _, us, _, rfl, rfl, e, eb, by rw [ru.length, rb.length, sizeLine_eq]; exact c, q _ a _ rfl .non ⟨a, _, rfl, upd_same, (ru.append rb).kp (Kp.write e trivial)⟩⟩⟩
    · rw [if_neg c] at hg; cases hg
  · cases hg
end Pw

set_option Elab.async false
set_option linter.all false
set_option maxRecDepth 100000
set_option maxHeartbeats 2000000
/-! Pw: statements. -/
namespace Pw
open PySem PySem.Spec PyProof.Rows L2

inductive RS where
  | st
  | nx (e : En)
  | rt (r : R) (e : En)
  | bk (e : En)
  | ct (e : En)
  | ex (x : Ex) (e : En)
abbrev MS := En → RS
def SatS (C : Cy) (H0 : Hp) (P : List (Option Addr)) (o : RS) (D : Ends) : Prop := match o with
  | .st => False
  | .nx e => ∀ σ' H', Rel C.K C.OW H0 P e σ' H' [] → D.nx σ' H'
  | .rt r e => ∀ σ' H' v, Rel C.K C.OW H0 P e σ' H' [(v, r)] → D.rt v H'
  | .bk e => ∀ σ' H', Rel C.K C.OW H0 P e σ' H' [] → D.bk σ' H'
  | .ct e => ∀ σ' H', Rel C.K C.OW H0 P e σ' H' [] → D.ct σ' H'
  | .ex x e => ∀ c d σ' H', Rel C.K C.OW H0 P e σ' H' [] → RX C.mg H' x c d → C.W c d σ' H'
def tSt (C : Cy) (m : MS) : TS := fun D σ H => ∃ H0 P env, Rel C.K C.OW H0 P env σ H [] ∧ SatS C H0 P (m env) D
abbrev DS (X : Cx) (W : WX) (OW : Nat → Bool) (s : Stmt) (m : MS) : Prop := PS X s (tSt (cy X W OW) m)
abbrev DSs (X : Cx) (W : WX) (OW : Nat → Bool) (s : List Stmt) (m : MS) : Prop := PSs X s (tSt (cy X W OW) m)
section
variable {X : Cx} {W : WX} {OW : Nat → Bool} {s : Stmt} {ss : List Stmt} {m : MS} {t : TS}
theorem ps_le (h : PS X s t) (k : ∀ D σ H, tSt (cy X W OW) m D σ H → t D σ H) : DS X W OW s m := ⟨fun pins sh σ H D I q => h.run pins sh σ H D I (k D σ H q)⟩
theorem pss_le (h : PSs X ss t) (k : ∀ D σ H, tSt (cy X W OW) m D σ H → t D σ H) : DSs X W OW ss m := ⟨fun pins sh σ H D I q => h.run pins sh σ H D I (k D σ H q)⟩
end
/-- an expression, then what is done with its value; an exception goes out -/
def mThen (m : ME) (f : R → En → RS) : MS := fun env => match m env with
  | .st => .st
  | .ok r e => f r e
  | .ex x e => .ex x e
def mThenT (m : MT) (f : Bool → En → RS) : MS := fun env => match m env with
  | .st => .st
  | .ok r e => f r e
  | .ex x e => .ex x e
section
variable {C : Cy} {H0 : Hp} {P : List (Option Addr)} {σ : L2.St} {D : Ends} {env : En}
theorem SatS.then {m : ME} {f : R → En → RS} (h : SatS C H0 P (mThen m f env) D) : Sat C H0 P σ [] (m env) fun r e => SatS C H0 P (f r e) D := by
  unfold mThen at h
  cases e : m env with
  | st => rw [e] at h; exact h
  | ok r e1 => rw [e] at h; exact h
  | ex x e1 => rw [e] at h; exact fun c d H' R1 rx => h c d σ H' R1 rx
theorem SatS.thenT {m : MT} {f : Bool → En → RS} (h : SatS C H0 P (mThenT m f env) D) : Sat C H0 P σ [] (m env) fun r e => SatS C H0 P (f r e) D := by
  unfold mThenT at h
  cases e : m env with
  | st => rw [e] at h; exact h
  | ok r e1 => rw [e] at h; exact h
  | ex x e1 => rw [e] at h; exact fun c d H' R1 rx => h c d σ H' R1 rx
end
def mNext : MS := fun e => .nx e
def mSeq (a b : MS) : MS := fun env => match a env with
  | .nx e => b e
  | r => r
def mStop : MS := fun _ => .st
def mBrk : MS := fun e => .bk e
def mCnt : MS := fun e => .ct e
def stOf : Option En → RS
  | some e => .nx e
  | none => .st
/-- target = value -/
def mSet (q : MQ) (m : ME) : MS := mThen m fun r e => stOf (q r e)
def mDrp (m : ME) : MS := mThen m fun _ e => .nx e
/-- own local things go out whole -/
def mRet (m : ME) : MS := mThen m fun r e => match r with
  | .vr i => match e[i]? with
    | some (some t) => if (t.own && notPl e[i]?) = true then .rt t (e.set i none) else .st
    | _ => .st
  | .pl _ => .st
  | r => .rt r e
def mRetN : MS := fun e => .rt (.d .none) e
def mIfS (c : MT) (a b : MS) : MS := mThenT c fun k e => if k = true then a e else b e
def mPar (i j : Nat) (bi bj : Bool) (ma : MA) : MS := fun env => match ma env with
  | .st => .st
  | .ex x e => .ex x e
  | .ok [r1, r2] e => match qN i bi r1 e with
    | some e1 => stOf (qN j bj r2 e1)
    | none => .st
  | _ => .st
def forGo (q : MQ) (b : MS) : List D → En → RS
  | [], e => .nx e
  | x :: xs, e => match q (.d x) e with
    | none => .st
    | some e1 => match b e1 with
      | .nx e2 => forGo q b xs e2
      | .ct e2 => forGo q b xs e2
      | .bk e2 => .nx e2
      | .rt r e2 => .rt r e2
      | .ex x e2 => .ex x e2
      | .st => .st
def mFor (mi : MI) (q : MQ) (b : MS) : MS := fun env => match mi env with
  | .st => .st
  | .ex x e => .ex x e
  | .ok ds e => forGo q b ds e
def whGo (c : MT) (b : MS) : Nat → En → RS
  | 0, _ => .st
  | n + 1, e => match c e with
    | .st => .st
    | .ex x e => .ex x e
    | .ok k e1 => if k = true then match b e1 with
        | .nx e2 => whGo c b n e2
        | .ct e2 => whGo c b n e2
        | .bk e2 => .nx e2
        | .rt r e2 => .rt r e2
        | .ex x e2 => .ex x e2
        | .st => .st
      else .nx e1
def mWh (n : Nat) (c : MT) (b : MS) : MS := fun env => whGo c b n env
section
variable {X : Cx} {W : WX} {OW : Nat → Bool} {s : Stmt} {ss : List Stmt} {m : MS} {me : ME} {mt : MT} {a b : MS} {e c : Expr} {q : MQ} {sl : List Nat} {tg iter : Expr} {pos : Pos} {mi : MI} {ma : MA}
theorem dss_nil : DSs X W OW [] mNext := pss_le pss_nil fun D σ H ⟨H0, P, env, Rl, S⟩ => S σ H Rl
theorem seq_le {D : Ends} {σ : L2.St} {H : Hp} (h : tSt (cy X W OW) (mSeq a b) D σ H) : tSeq (tSt (cy X W OW) a) (tSt (cy X W OW) b) D σ H := by
  obtain ⟨H0, P, env, Rl, S⟩ := h
  refine ⟨H0, P, env, Rl, ?_⟩
  unfold mSeq at S
  cases e : a env with
  | nx e1 => rw [e] at S; exact fun σ' H' R1 => ⟨H0, P, e1, R1, S⟩
  | st => rw [e] at S; exact S
  | rt r e1 => rw [e] at S; exact S
  | bk e1 => rw [e] at S; exact S
  | ct e1 => rw [e] at S; exact S
  | ex x e1 => rw [e] at S; exact S
theorem dss_cons (h : DS X W OW s a) (h2 : DSs X W OW ss b) : DSs X W OW (s :: ss) (mSeq a b) := pss_le (pss_cons h h2) fun D σ H q => seq_le q
theorem dss_one (h : DS X W OW s a) : DSs X W OW [s] a := pss_one h
theorem ds_pass : DS X W OW (.Pass pos) mNext := ps_le ps_pass fun D σ H ⟨H0, P, env, Rl, S⟩ => S σ H Rl
theorem ds_brk : DS X W OW (.Break pos) mBrk := ps_le ps_break fun D σ H ⟨H0, P, env, Rl, S⟩ => S σ H Rl
theorem ds_cnt : DS X W OW (.Continue pos) mCnt := ps_le ps_continue fun D σ H ⟨H0, P, env, Rl, S⟩ => S σ H Rl
/-- a statement that isn't reached -/
theorem ds_stop : DS X W OW s mStop := ps_le ps_never fun D σ H ⟨H0, P, env, Rl, S⟩ => S
theorem ds_set (he : DE X W OW e me) (hg : DQ X OW tg sl q) (hs : swapsWithSole [tg] e pos.line X.env = pure false := by rfl) (hw : swappedStores [tg] e X.env = pure none := by rfl)
    (h1 : (assignEach [tg] X.env).map (·.2) = [assign tg X.env] := by rfl) : DS X W OW (.Assign [tg] e pos) (mSet q me) := by
  refine ps_le (ps_asg he hg hs hw h1) fun D σ H ⟨H0, P, env, Rl, S⟩ => ⟨H0, P, env, [], Rl, (SatS.then S).mono fun r e1 _ S1 v H1 R1 => ?_⟩
  cases hq : q r e1 with
  | none => rw [hq] at S1; exact S1.elim
  | some e2 =>
    rw [hq] at S1
    exact ⟨H0, P, e1, [], r, e2, R1, fun p m => absurd m List.not_mem_nil, hq, fun σ' H' _ _ R2 => S1 σ' H' R2⟩
/-- name = [..] -/
theorem ds_setLc {i : Nat} {y : Str} {py : Pos} {elt : Expr} {ifs : List Expr} {scope : Scope} {own : List (Str × Nat)} {spos : Pos} {tt : MT} {mel : ME} {bi : Bool} (hc : X.calm = true) (hN : X.N.Nodup) (hb : bi = true → OW i = true) (hy : X.N[i]? = some y) (hyl : X.env.scope.names.lookup y = some .local)
    (hsw : swapsWith (.ListComp elt [⟨tg, iter, ifs, 0⟩] scope pos) (some (.Name y py)) spos.line X.env = pure true) (hi : DI X W OW tg iter mi) (ok : BlkOk X.N X.env.scope scope own)
    (hg : ∀ (s : Shared) (H : Hp) (C : Addr) (cl : List (Str × Addr)) (fp : List Addr), DQ (X.blk s H scope (compEnvC scope cl C X.env) fp) OW tg sl q)
    (ht : ∀ (s : Shared) (H : Hp) (C : Addr) (cl : List (Str × Addr)) (fp : List Addr), DTs (X.blk s H scope (compEnvC scope cl C X.env) fp) NoX OW ifs tt)
    (he : ∀ (s : Shared) (H : Hp) (C : Addr) (cl : List (Str × Addr)) (fp : List Addr), DE (X.blk s H scope (compEnvC scope cl C X.env) fp) NoX OW elt mel)
    (hO : ∀ i ∈ own.map (·.2), OW i = false) (hsub : ∀ i ∈ sl, i ∈ own.map (·.2)) (hs : ∀ x, foldedSetIterable iter X.env x = pure x := by intro _; rfl) :
    DS X W OW (.Assign [.Name y py] (.ListComp elt [⟨tg, iter, ifs, 0⟩] scope pos) spos) (mSet (qN i bi) (mLc mi q tt mel (own.map (·.2)))) := by
  refine ps_le (ps_setLc (wi := tI (cy X W OW) mi) (g := tQ (cy X NoX OW) sl q) (tt := tT (cy X NoX OW) tt) (te := tD (cy X NoX OW) mel) hc hN hy hyl hsw hi ok hg ht he hs) fun D σ H ⟨H0, P, env, Rl, S⟩ => ?_
  refine lc_le (W := W) hO hsub (Q := fun x H1 => gName i x σ H1 D.nx) ⟨H0, P, env, [], Rl, (SatS.then S).mono fun r e1 _ S1 v H1 R1 => ?_⟩
  unfold qN at S1
  by_cases c : (decide (i < e1.length) && notPl e1[i]? && okSt bi r) = true
  · rw [if_pos c] at S1
    simp only [Bool.and_eq_true, decide_eq_true_eq] at c
    obtain ⟨⟨c1, c2⟩, c3⟩ := c
    obtain ⟨o1, o2, o3⟩ := okSt_ok c3
    exact S1 _ _ (R1.store c1 c2 o1 o2 (fun p m => absurd m List.not_mem_nil) fun o => hb (o3 o))
  · rw [if_neg c] at S1; exact S1.elim
theorem ds_expr (he : DE X W OW e me) (hs : swapsWith e none pos.line X.env = pure false := by rfl) : DS X W OW (.Expr e pos) (mDrp me) :=
  ps_le (ps_expr he hs) fun D σ H ⟨H0, P, env, Rl, S⟩ => ⟨H0, P, env, [], Rl, (SatS.then S).mono fun r e1 _ S1 v H1 R1 => S1 σ H1 R1.drop⟩
theorem ds_doc {x j pos'} : DS X W OW (.Expr (.Constant (.str x) j pos) pos') mNext := ps_le ps_doc fun D σ H ⟨H0, P, env, Rl, S⟩ => S σ H Rl
theorem ds_ret (he : DE X W OW e me) : DS X W OW (.Return (some e) pos) (mRet me) := by
  refine ps_le (ps_ret he) fun D σ H ⟨H0, P, env, Rl, S⟩ => ⟨H0, P, env, [], Rl, (SatS.then S).mono fun r e1 _ S1 v H1 R1 => ?_⟩
  cases r with
  | vr i =>
    dsimp only at S1
    cases h1 : e1[i]? with
    | none => rw [h1] at S1; exact S1.elim
    | some o =>
      cases o with
      | none => rw [h1] at S1; exact S1.elim
      | some t =>
        simp only [h1] at S1
        by_cases c : (t.own && notPl (some (some t))) = true
        · rw [if_pos c] at S1
          simp only [Bool.and_eq_true] at c
          obtain ⟨hv, _⟩ : σ[i]? = some (some v) ∧ ∃ r, e1[i]? = some (some r) := R1.pend (v, .vr i) List.mem_cons_self
          exact S1 σ H1 v (R1.drop.takeOut h1 c.1 hv (by rw [h1]; exact c.2) fun p m => absurd m List.not_mem_nil)
        · rw [if_neg c] at S1; exact S1.elim
  | pl x => exact S1.elim
  | d x => exact S1 σ H1 v R1
  | ol x => exact S1 σ H1 v R1
  | oK x => exact S1 σ H1 v R1
  | oT x => exact S1 σ H1 v R1
  | kl x => exact S1 σ H1 v R1
theorem ds_retN : DS X W OW (.Return none pos) mRetN := ps_le ps_retN fun D σ H ⟨H0, P, env, Rl, S⟩ => S σ H .non (Rl.put (RP.of (r := .d .none) .non) rfl)
theorem ds_if {p q : List Stmt} (hc : DT X W OW c mt) (ha : DSs X W OW p a) (hb : DSs X W OW q b) : DS X W OW (.If c p q pos) (mIfS mt a b) := by
  refine ps_le (ps_if hc ha hb) fun D σ H ⟨H0, P, env, Rl, S⟩ => ⟨H0, P, env, [], Rl, (SatS.thenT S).mono fun k e1 _ S1 H1 R1 => ?_⟩
  cases k with
  | true => exact ⟨H0, P, e1, R1, S1⟩
  | false => exact ⟨H0, P, e1, R1, S1⟩
theorem ds_par {i j : Nat} {x y : Str} {bi bj : Bool} {e1 e2 : Expr} {px py pt : Pos} {kt k2 pt2} (hc : X.calm = true) (hN : X.N.Nodup) (hbi : bi = true → OW i = true) (hbj : bj = true → OW j = true) (ha : DA X W OW [e1, e2] ma) (hij : i ≠ j := by decide) (hi : X.N[i]? = some x := by rfl) (hj : X.N[j]? = some y := by rfl)
    (hx : X.env.scope.names.lookup x = some .local := by rfl) (hy : X.env.scope.names.lookup y = some .local := by rfl)
    (hw : swappedStores [.Tuple [.Name x px, .Name y py] kt pt] (.Tuple [e1, e2] k2 pt2) X.env = pure (some [x, y]) := by rfl)
    (hs : swapsWithSole [.Tuple [.Name x px, .Name y py] kt pt] (.Tuple [e1, e2] k2 pt2) pos.line X.env = pure false := by rfl) :
    DS X W OW (.Assign [.Tuple [.Name x px, .Name y py] kt pt] (.Tuple [e1, e2] k2 pt2) pos) (mPar i j bi bj ma) := by
  refine ps_le (ps_par hc hN hi hj hij hx hy ha hw hs) fun D σ H ⟨H0, P, env, Rl, S⟩ => ⟨H0, P, env, [], Rl, ?_⟩
  unfold mPar at S
  cases h1 : ma env with
  | st => rw [h1] at S; exact S
  | ex x e => rw [h1] at S; exact fun c d H' R1 rx => S c d σ H' R1 rx
  | ok rs ea =>
    rw [h1] at S
    intro vs H1 hl R1
    match rs, S, hl, R1 with
    | [r1, r2], S, hl, R1 =>
      match vs, hl, R1 with
      | [v, w], _, R1 =>
        refine ⟨v, w, rfl, ?_⟩
        simp only at S
        unfold qN at S
        by_cases c : (decide (i < ea.length) && notPl ea[i]? && okSt bi r1) = true
        · rw [if_pos c] at S
          dsimp only at S
          simp only [Bool.and_eq_true, decide_eq_true_eq] at c
          obtain ⟨⟨c1, c2⟩, c3⟩ := c
          obtain ⟨o1, o2, o3⟩ := okSt_ok c3
          by_cases d : (decide (j < (ea.set i (some r1)).length) && notPl (ea.set i (some r1))[j]? && okSt bj r2) = true
          · rw [if_pos d] at S
            simp only [Bool.and_eq_true, decide_eq_true_eq] at d
            obtain ⟨⟨d1, d2⟩, d3⟩ := d
            obtain ⟨p1, p2, p3⟩ := okSt_ok d3
            have R2 := R1.store c1 c2 o1 o2 (fun p m z => by
              have m' : p = (w, r2) := by simpa using m
              rw [m'] at z
              exact p1 _ z) fun o => hbi (o3 o)
            exact S _ _ (R2.store d1 d2 p1 p2 (fun p m => absurd m List.not_mem_nil) fun o => hbj (p3 o))
          · rw [if_neg d] at S; exact S.elim
        · rw [if_neg c] at S; exact S.elim
theorem for_le {D : Ends} {σ : L2.St} {H : Hp} (h : tSt (cy X W OW) (mFor mi q b) D σ H) : tFor (tI (cy X W OW) mi) (tQ (cy X NoX OW) sl q) (tSt (cy X W OW) b) D σ H := by
  obtain ⟨H0, P, env, Rl, S⟩ := h
  refine ⟨H0, P, env, [], Rl, ?_⟩
  unfold mFor at S
  cases h1 : mi env with
  | st => rw [h1] at S; exact S
  | ex x e => rw [h1] at S; exact fun c d H' R1 rx => S c d σ H' R1 rx
  | ok ds e1 =>
    rw [h1] at S
    intro H1 J R1 src
    refine ⟨fun i k σ H => k = ds.length - i ∧ i ≤ ds.length ∧ ∃ env', Rel X.K OW (baseOf H0 H1) P env' σ H [] ∧ SatS (cy X W OW) H0 P (forGo q b (ds.drop i) env') D, ⟨ds.length, rfl, Nat.zero_le _, e1, R1.moreBase, S⟩, ?_⟩
    rintro i k σ3 H3 ⟨rfl, hi, env', R5, go⟩
    have kp3 : Kp H1 H3 := R5.kpBase R1.parNot
    have bk : ∀ {e : En} {σ' : L2.St} {H' : Hp} {L : Pe}, Rel X.K OW (baseOf H0 H1) P e σ' H' L → Rel X.K OW H0 P e σ' H' L := fun r => R1.backBase r
    by_cases hlt : i < ds.length
    · have hd : ds[i]? = some ds[i] := List.getElem?_eq_getElem hlt
      have hdrop : ds.drop i = ds[i] :: ds.drop (i + 1) := List.drop_eq_getElem_cons hlt
      generalize ds[i] = d at hd hdrop
      rw [hdrop] at go
      obtain ⟨g, y⟩ := ((src H3 kp3) i).1 d hd
      refine .inr ⟨g, fun σ' H' => ∃ env', Rel X.K OW (baseOf H0 H1) P env' σ' H' [] ∧ SatS (cy X W OW) H0 P (forGo q b (ds.drop (i + 1)) env') D,
        fun σ' H' ⟨env', R, z⟩ => ⟨ds.length - (i + 1), by omega, rfl, hlt, env', R, z⟩, fun x H' yy => ?_⟩
      obtain ⟨sm, rx⟩ := y x H' yy
      unfold forGo at go
      cases hm : q (.d d) env' with
      | none => simp only [hm] at go; exact go.elim
      | some ea =>
        simp only [hm] at go
        refine ⟨_, P, env', [], .d d, ea, (R5.grow sm).put (r := .d d) rx rfl, fun p m => absurd m List.not_mem_nil, hm, fun σ4 H4 _ _ R7 => ⟨_, P, ea, R7, ?_⟩⟩
        cases hb : b ea with
        | st => simp only [hb] at go; exact go.elim
        | nx e2 => simp only [hb] at go; exact fun σ' H' R8 => ⟨e2, R8, go⟩
        | ct e2 => simp only [hb] at go; exact fun σ' H' R8 => ⟨e2, R8, go⟩
        | bk e2 => simp only [hb] at go; exact fun σ' H' R8 => go σ' H' (bk R8)
        | rt r e2 => simp only [hb] at go; exact fun σ' H' v R8 => go σ' H' v (bk R8)
        | ex x e2 => simp only [hb] at go; exact fun c d σ' H' R8 rx => go c d σ' H' (bk R8) rx
    · have e : i = ds.length := by omega
      subst e
      rw [List.drop_length] at go
      exact .inl ⟨((src H3 kp3) _).2 (Nat.le_refl _), go σ3 H3 (bk R5)⟩
theorem ds_for {body : List Stmt} (hp : PassesOwn (model X.prog X.w) X.A X.env X.xe) (hc : X.calm = true) (hi : DI X W OW tg iter mi) (hg : DQ X OW tg sl q) (hb : DSs X W OW body b) (hs : ∀ x, foldedSetIterable iter X.env x = pure x := by intro _; rfl) :
    DS X W OW (.For tg iter body [] pos) (mFor mi q b) := ps_le (ps_for hp hc hi hg hb hs) fun _ _ _ h => for_le h
theorem wh_le {n : Nat} {D : Ends} {σ : L2.St} {H : Hp} (h : tSt (cy X W OW) (mWh n mt b) D σ H) : tWhile (tT (cy X W OW) mt) (tSt (cy X W OW) b) D σ H := by
  obtain ⟨H0, P, env, Rl, S⟩ := h
  refine ⟨fun k σ H => ∃ env', Rel X.K OW H0 P env' σ H [] ∧ SatS (cy X W OW) H0 P (whGo mt b k env') D, ⟨n, env, Rl, S⟩, ?_⟩
  rintro k σ1 H1 ⟨env', R1, go⟩
  cases k with
  | zero => exact go.elim
  | succ k =>
    unfold whGo at go
    refine ⟨H0, P, env', [], R1, ?_⟩
    cases hc : mt env' with
    | st => simp only [hc] at go; exact go
    | ex x e => simp only [hc] at go; exact fun c d H' R2 rx => go c d σ1 H' R2 rx
    | ok t ea =>
      simp only [hc] at go
      intro H2 R2
      cases t with
      | false =>
        rw [if_neg Bool.false_ne_true] at go ⊢
        exact go σ1 H2 R2
      | true =>
        rw [if_pos rfl] at go ⊢
        refine ⟨fun σ' H' => ∃ env', Rel X.K OW H0 P env' σ' H' [] ∧ SatS (cy X W OW) H0 P (whGo mt b k env') D, fun σ' H' z => ⟨k, Nat.lt_succ_self k, z⟩, H0, P, ea, R2, ?_⟩
        cases hb : b ea with
        | st => simp only [hb] at go; exact go.elim
        | nx e2 => simp only [hb] at go; exact fun σ' H' R8 => ⟨e2, R8, go⟩
        | ct e2 => simp only [hb] at go; exact fun σ' H' R8 => ⟨e2, R8, go⟩
        | bk e2 => simp only [hb] at go; exact go
        | rt r e2 => simp only [hb] at go; exact go
        | ex x e2 => simp only [hb] at go; exact go
theorem ds_while {body : List Stmt} (n : Nat) (hp : PassesOwn (model X.prog X.w) X.A X.env X.xe) (hc : DT X W OW c mt) (hb : DSs X W OW body b) : DS X W OW (.While c body [] pos) (mWh n mt b) := ps_le (ps_while hp hc hb) fun _ _ _ h => wh_le h
end
end Pw

set_option Elab.async false
set_option linter.all false
set_option maxRecDepth 100000
set_option maxHeartbeats 2000000
/-! Pw: defs as programs over slots; calls. -/
namespace Pw
open PySem PySem.Spec PyProof.Rows L2

abbrev SpG := List V → Hp → VK → Prop
/-- a def's promise where no repr goes on (no exception leaves) -/
structure FnG (P : Program) (w : World) (K : PySem.W.Frag) (mg : Str → Option Value) (base : Heap) (k : Nat) (f : Addr) (fd : FuncData) (ps : List Str) (sp : SpG) : Prop where
  len : ∀ vs H Q, sp vs H Q → vs.length = ps.length
  run : ∀ (A : Around) (outer : List Env) (s : Shared) (H : Hp) (args : Args) (us : List Value) (vs : List V) (Q : VK), Room k A → A.guards = some [] → Env0 P w K mg base A outer s H → BindsTo s fd args (ps.zip us) → Vals vs us → sp vs H Q →
    codeAny (model P w) A (.call (.ref f) args) (CR CX0 outer P w H s Q E0) s
section
variable {P : Program} {w : World} {K : PySem.W.Frag} {mg : Str → Option Value} {base : Heap}
theorem FnG.mono {j k : Nat} {f : Addr} {fd : FuncData} {ps : List Str} {sp : SpG} (F : FnG P w K mg base j f fd ps sp) (h : j ≤ k) : FnG P w K mg base k f fd ps sp :=
  ⟨F.len, fun A outer s H args us vs Q hr => F.run A outer s H args us vs Q (hr.mono h)⟩
/-- a def by its body -/
theorem fng_of {x qual : Str} {st : Stmt} {f : Addr} {fd : FuncData} {N ps : List Str} {k : Nat} {sp : SpG} (F : Fun K x qual st f fd) (S : FnScope N ps (defScope st)) (len : ∀ vs H Q, sp vs H Q → vs.length = ps.length)
    (hbody : ∀ (cdv : Value) (A : Around) (outer : List Env) (s : Shared) (H : Hp) (vs : List V) (Q : VK), Room k (A.deeper (envOfC qual (defScope st) s.heap.objs.size f cdv)) → A.guards = some [] → sp vs H Q →
      ∃ t, PSs (cxOf CX0 P w K mg base N qual (defScope st) f cdv A outer s H E0).nox (defBody st) t ∧ t { nx := fun _ H' => Q .non H', rt := Q } (L2.start N vs) H) : FnG P w K mg base (k + 1) f fd ps sp := by
  obtain ⟨oc, od, kV, doc, pm, an, cdv, ct, osl, rfl, lk, hcd⟩ := F.ex
  refine ⟨len, fun A outer s H args us vs Q hr gd e0 hb rv q0 => ?_⟩
  have hl := len _ _ _ q0
  have kin : K.In s.heap := e0.mod.kin.keeps fun b o e => (e0.bs b o e).1
  have nolim : s.heap.NoLimit := e0.mod.nolimit.keeps fun b o e => (e0.bs b o e).1
  have kinds : ∀ y ∈ ps.zip us, (defScope st).names.lookup y.1 = some .local ∨ ((defScope st).names.lookup y.1 = some .cell ∧ ((cellsFrom (s.heap.objs.size + 1) (defScope st).names []).lookup y.1).isSome = true) := fun ⟨n, v⟩ hy =>
    (S.par n (List.of_mem_zip hy).1).imp id fun z => ⟨z, PySem.W.cellsFrom_some _ _ _ (.inl z)⟩
  refine codeAny_call_function hr.depth (kin _ _ lk) rfl S.co S.gen rfl (PySem.W.codeRec_of kin hcd) (hb _ _ _ _ (wpAny_newFunctionEnv_cells S.kind kinds fun env he s1 x1 => ?_))
  subst he
  refine ⟨nolim.keeps x1.toInCall.keep, codeAny_func ?_⟩
  obtain ⟨t, ht, q1⟩ := hbody cdv A outer s H vs Q (hr.deeper _) gd q0
  have I : Inv (cxOf CX0 P w K mg base N qual (defScope st) f cdv A outer s H E0) [] (L2.start N vs) H s1 := inv_start S hr.hd e0 hl rv x1
  refine wpAny_mono (ht.nox.run [] s1 (L2.start N vs) H _ I q1) (fun fl s2 h2 => ?_) fun _ _ z => z
  cases fl with
  | ret u =>
    obtain ⟨v, σ', H', J, r, z⟩ := h2
    exact ⟨v, H', J.os, J.bare, J.base, J.hok, r, z⟩
  | next =>
    obtain ⟨σ', H', J, z⟩ := h2
    exact ⟨V.non, H', J.os, J.bare, J.base, J.hok, rfl, z⟩
  | brk =>
    obtain ⟨_, _, _, z⟩ := h2
    exact z.elim
  | cont =>
    obtain ⟨_, _, _, z⟩ := h2
    exact z.elim
end

/-! ### the promise: a program over slots -/
def env0 (n : Nat) (rs : List R) : En := rs.map some ++ List.replicate (n - rs.length) none
def okRet : R → Bool
  | .vr _ => false
  | .pl _ => false
  | _ => true
def fRun (m : MS) (env : En) : Option (R × En) := match m env with
  | .rt r e => if okRet r = true then some (r, e) else none
  | .nx e => some (.d .none, e)
  | _ => none
def parOf (vs : List V) (rs : List R) : List (Option Addr) := List.zipWith (fun v r => match v, r with
  | .ref a, .pl _ => some a
  | _, _ => none) vs rs
def isDK : R → Bool
  | .d _ => true
  | .kl _ => true
  | _ => false
def argOk : List R → Bool
  | .pl _ :: rs => rs.all isDK
  | rs => rs.all isDK
def RRs (K : PySem.W.Frag) (H : Hp) : List V → List R → Prop := Paired (RR K H)
def fspec (K : PySem.W.Frag) (OW : Nat → Bool) (np n : Nat) (m : MS) : SpG := fun vs H Q => ∃ rs r e', rs.length = np ∧ RRs K H vs rs ∧ argOk rs = true ∧ fRun m (env0 n rs) = some (r, e') ∧ ∀ v H' σ', Rel K OW H (parOf vs rs) e' σ' H' [(v, r)] → Q v H'
section
variable {K : PySem.W.Frag} {OW : Nat → Bool} {H H' : Hp} {vs : List V} {rs : List R}
theorem prd_get {α β : Type} {F : α → β → Prop} : ∀ {l : List α} {m : List β} {i : Nat} {y : β}, Paired F l m → m[i]? = some y → ∃ x, l[i]? = some x ∧ F x y
  | _, _, _, _, .nil, h => by simp at h
  | _, _, 0, _, .cons r t, h => by cases h; exact ⟨_, rfl, r⟩
  | _, _, i + 1, _, .cons r t, h => by
    rw [List.getElem?_cons_succ] at h
    obtain ⟨x, h1, h2⟩ := prd_get t h
    exact ⟨x, by rw [List.getElem?_cons_succ]; exact h1, h2⟩
theorem isDK_own {r : R} (h : isDK r = true) : r.own = false := by cases r <;> first | rfl | cases h
theorem argOk_own : ∀ {rs : List R} {i : Nat} {r : R}, argOk rs = true → rs[i]? = some r → r.own = true → i = 0 ∧ ∃ xs, r = .pl xs := by
  intro rs i r h e o
  have dk : ∀ {l : List R} {j : Nat}, l.all isDK = true → l[j]? = some r → False := fun {l j} a b => by
    have q := List.all_eq_true.mp a r (List.mem_of_getElem? b)
    rw [isDK_own q] at o; cases o
  match rs, h, e with
  | [], _, e => simp at e
  | x :: l, h, e =>
    cases x with
    | pl xs =>
      cases i with
      | zero => cases e; exact ⟨rfl, xs, rfl⟩
      | succ i => exact (dk (show l.all isDK = true from h) e).elim
    | _ => exact (dk h e).elim
theorem env0_get {n : Nat} {rs : List R} {i : Nat} {r : R} (h : (env0 n rs)[i]? = some (some r)) : rs[i]? = some r := by
  unfold env0 at h
  by_cases hi : i < rs.length
  · rw [List.getElem?_append_left (by simpa using hi), List.getElem?_map] at h
    obtain ⟨x, h1, h2⟩ := Option.map_eq_some_iff.mp h
    cases h2
    exact h1
  · rw [List.getElem?_append_right (by simpa using hi), List.getElem?_replicate] at h
    split at h <;> cases h
theorem start_get {N : List Str} {i : Nat} {v : V} (h : vs[i]? = some v) : (L2.start N vs)[i]? = some (some v) := by
  unfold L2.start
  have hi := (List.getElem?_eq_some_iff.mp h).1
  rw [List.getElem?_append_left (by simpa using hi), List.getElem?_map, h] <;> rfl
theorem parOf_get {i : Nat} {a : Addr} (h : (parOf vs rs)[i]? = some (some a)) : vs[i]? = some (.ref a) ∧ ∃ xs, rs[i]? = some (.pl xs) := by
  unfold parOf at h
  rw [List.getElem?_zipWith] at h
  cases h1 : vs[i]? with
  | none => rw [h1] at h; cases h
  | some v =>
    cases h2 : rs[i]? with
    | none => rw [h1, h2] at h; cases h
    | some r =>
      rw [h1, h2] at h
      cases v <;> cases r <;> simp at h
      subst h
      exact ⟨rfl, _, rfl⟩
theorem Rel.begin {N : List Str} (hr : RRs K H vs rs) (ok : argOk rs = true) (ho : ∀ r, rs[0]? = some r → r.own = true → OW 0 = true) (hn : rs.length ≤ N.length) : Rel K OW H (parOf vs rs) (env0 N.length rs) (L2.start N vs) H [] := by
  have hl : vs.length = rs.length := prd_len hr
  refine ⟨by unfold env0 L2.start; simp only [List.length_append, List.length_map, List.length_replicate]; omega, fun i r e => ?_, fun p m => absurd m List.not_mem_nil, fun i j r r' v a b c d e f => ?_, fun i r v p a b c d => absurd d List.not_mem_nil, List.Pairwise.nil, fun a o e _ => e, fun i r a e o f => ?_, fun p m => absurd m List.not_mem_nil, fun i a e => ?_, fun i r e o => ?_, fun p m => absurd m List.not_mem_nil⟩
  · obtain ⟨v, h1, h2⟩ := prd_get hr (env0_get e)
    exact ⟨v, start_get h1, h2⟩
  · rw [(argOk_own ok (env0_get a) c).1, (argOk_own ok (env0_get b) d).1]
  · obtain ⟨v, h1, h2⟩ := prd_get hr (env0_get e)
    rw [start_get h1] at f; cases f
    obtain ⟨z, xs, ex⟩ := argOk_own ok (env0_get e) o
    subst ex
    refine .inr ?_
    unfold parOf
    rw [List.getElem?_zipWith, h1, env0_get e] <;> rfl
  · obtain ⟨h1, xs, h2⟩ := parOf_get e
    refine ⟨start_get h1, xs, ?_⟩
    unfold env0
    have hi := (List.getElem?_eq_some_iff.mp h2).1
    rw [List.getElem?_append_left (by simpa using hi), List.getElem?_map, h2] <;> rfl
  · obtain ⟨z, _⟩ := argOk_own ok (env0_get e) o
    subst z
    exact ho r (env0_get e) o
end
section
variable {P : Program} {w : World} {K : PySem.W.Frag} {mg : Str → Option Value} {base : Heap}
/-- the context of a def's body -/
abbrev bx (P : Program) (w : World) (K : PySem.W.Frag) (mg : Str → Option Value) (base : Heap) (N : List Str) (qual : Str) (st : Stmt) (f : Addr) (cdv : Value) (A : Around) (outer : List Env) (s : Shared) (H : Hp) : Cx :=
  (cxOf CX0 P w K mg base N qual (defScope st) f cdv A outer s H E0).nox
theorem fng_d {x qual : Str} {st : Stmt} {f : Addr} {fd : FuncData} {N ps : List Str} {k n : Nat} {m : MS} {OW : Nat → Bool} (F : Fun K x qual st f fd) (S : FnScope N ps (defScope st)) (hn : N.length = n) (h0 : OW 0 = true)
    (hbody : ∀ (cdv : Value) (A : Around) (outer : List Env) (s : Shared) (H : Hp), Room k (A.deeper (envOfC qual (defScope st) s.heap.objs.size f cdv)) → (A.deeper (envOfC qual (defScope st) s.heap.objs.size f cdv)).guards = some [] →
      DSs (bx P w K mg base N qual st f cdv A outer s H) NoX OW (defBody st) m) : FnG P w K mg base (k + 1) f fd ps (fspec K OW ps.length n m) := by
  have hpn : ps.length ≤ N.length := by have := congrArg List.length S.pre; rw [List.length_take] at this; omega
  refine fng_of F S (fun vs H Q ⟨rs, r, e', h1, h2, _⟩ => by rw [prd_len h2, h1]) fun cdv A outer s H vs Q hr gd ⟨rs, r, e', h1, h2, h3, h4, q⟩ => ⟨_, hbody cdv A outer s H hr gd, H, parOf vs rs, env0 n rs, ?_, ?_⟩
  · subst hn
    exact Rel.begin h2 h3 (fun _ _ _ => h0) (by omega)
  · unfold fRun at h4
    cases e : m (env0 n rs) with
    | rt r1 e1 =>
      rw [e] at h4
      simp only at h4
      by_cases c : okRet r1 = true
      · rw [if_pos c] at h4
        cases h4
        exact fun σ' H' v R1 => q v H' σ' R1
      · rw [if_neg c] at h4; cases h4
    | nx e1 =>
      rw [e] at h4
      cases h4
      exact fun σ' H' R1 => q .non H' σ' (R1.put (RP.of (r := .d .none) .non) rfl)
    | _ => rw [e] at h4; cases h4
end
/-! ### calls -/
def mCall (n : Nat) (mc : MS) (ma : MA) : ME := fun env => (ma env).bind fun rs e1 => if rs.all isDK = true then match fRun mc (env0 n rs) with
  | some (r, _) => .ok r e1
  | none => .st
  else .st
def potL : R → Option (List D)
  | .ol xs => some xs
  | .pl xs => some xs
  | _ => none
def reP (ys : List D) : R → R
  | .pl _ => .pl ys
  | _ => .ol ys
def potE (e : En) : Option (List D) := match (e[0]? : Option (Option R)) with
  | some (some (R.pl ys)) => some ys
  | _ => none
/-- the first argument is a list that the def may write -/
def mCallP (n : Nat) (mc : MS) (ma : MA) : ME := fun env => (ma env).bind fun rs e1 => match rs with
  | .vr j :: rest => if rest.all isDK = true then match e1[j]? with
    | some (some t) => match potL t with
      | some xs => match fRun mc (env0 n (.pl xs :: rest)) with
        | some (r, e') => match potE e' with
          | some ys => .ok r (e1.set j (some (reP ys t)))
          | none => .st
        | none => .st
      | none => .st
    | _ => .st
    else .st
  | .ol xs :: rest => if rest.all isDK = true then match fRun mc (env0 n (.pl xs :: rest)) with
    | some (r, _) => .ok r e1
    | none => .st
    else .st
  | _ => .st
section
variable {K : PySem.W.Frag} {OW OC : Nat → Bool} {H0 H1 H' : Hp} {P0 : List (Option Addr)} {e1 e' : En} {σ σ' : L2.St} {L : Pe} {vs : List V} {rs : List R} {v : V} {r : R} {mc : MS} {env : En}
theorem fRun_ok (h : fRun mc env = some (r, e')) : okRet r = true := by
  unfold fRun at h
  split at h
  · split at h
    · cases h; assumption
    · cases h
  · cases h; rfl
  · cases h
theorem okRet_no (h : okRet r = true) : (∀ i, r ≠ .vr i) ∧ ∀ ds, r ≠ .pl ds := ⟨fun i z => (by subst z; cases h), fun i z => (by subst z; cases h)⟩
theorem dk_par {rs : List R} (h : rs.all isDK = true) (a : Addr) : some a ∉ parOf vs rs := fun m => by
  obtain ⟨i, e⟩ := List.mem_iff_getElem?.mp m
  obtain ⟨_, xs, q⟩ := parOf_get e
  have := List.all_eq_true.mp h _ (List.mem_of_getElem? q)
  cases this
theorem dk_rrs (R1 : Rel K OW H0 P0 e1 σ H1 L) : ∀ {vs : List V} {rs : List R}, vs.length = rs.length → (∀ p ∈ vs.zip rs, p ∈ L) → rs.all isDK = true → RRs K H1 vs rs
  | [], [], _, _, _ => .nil
  | v :: vs, r :: rs, hl, hm, h => by
    rw [List.all_cons, Bool.and_eq_true] at h
    refine .cons ?_ (dk_rrs R1 (by simpa using hl) (fun p q => hm p (List.mem_cons_of_mem _ q)) h.2)
    exact (R1.pend _ (hm _ List.mem_cons_self)).rr fun i z => by
      have z' : r = .vr i := z
      rw [z'] at h; cases h.1
  | [], _ :: _, hl, _, _ => by cases hl
  | _ :: _, [], hl, _, _ => by cases hl
theorem argOk_dk {rs : List R} (h : rs.all isDK = true) : argOk rs = true := by
  unfold argOk
  split
  · rw [List.all_cons, Bool.and_eq_true] at h; cases h.1
  · exact h
/-- behind a call that writes nothing of the caller's -/
theorem post_call (hdk : rs.all isDK = true) (ok : okRet r = true) (Rc : Rel K OC H1 (parOf vs rs) e' σ' H' [(v, r)]) : Post K H1 H' v r := by
  obtain ⟨n1, n2⟩ := okRet_no ok
  refine ⟨fun a o e => Rc.keep a o e (dk_par hdk a), (Rc.pend _ List.mem_cons_self).rr n1, fun o => ?_, n2⟩
  obtain ⟨a, u, ea, _⟩ := (Rc.pend _ List.mem_cons_self).ownAt o
  exact ⟨a, ea, (Rc.newL _ List.mem_cons_self o a ea).1⟩
/-- behind a call that may have written the list at a -/
theorem pot_call {a : Addr} {us : List V} {xs ys : List D} {rest : List R} {vrest : List V} (ha : H1 a = some (.lst us)) (hdk : rest.all isDK = true) (ok : okRet r = true) (Rc : Rel K OC H1 (parOf (.ref a :: vrest) (.pl xs :: rest)) e' σ' H' [(v, r)]) (hp : potE e' = some ys) :
    ∃ us', Post K H1 (upd H' a (.lst us)) v r ∧ H' a = some (.lst us') ∧ RDs H' us' ys ∧ upd (upd H' a (.lst us)) a (.lst us') = H' := by
  obtain ⟨n1, n2⟩ := okRet_no ok
  have hP : parOf (.ref a :: vrest) (.pl xs :: rest) = some a :: parOf vrest rest := rfl
  rw [hP] at Rc
  have nin : ∀ b, b ≠ a → some b ∉ (some a :: parOf vrest rest) := fun b nb m => by
    rcases List.mem_cons.mp m with z | z
    · exact nb (Option.some.inj z)
    · exact dk_par hdk b z
  obtain ⟨q1, ds, q2⟩ := Rc.par 0 a rfl
  unfold potE at hp
  rw [q2] at hp
  cases hp
  obtain ⟨w, e1, b, us', e2, e3, e4⟩ := Rc.slot 0 _ q2
  rw [q1] at e1; cases e1
  cases e2
  refine ⟨us', ⟨fun b o e => ?_, ?_, fun o => ?_, n2⟩, e3, e4, ?_⟩
  · by_cases hb : b = a
    · subst hb
      rw [ha] at e; cases e
      exact upd_same
    · rw [upd_ne hb]
      exact Rc.keep b o e (nin b hb)
  · refine ((Rc.pend _ List.mem_cons_self).rr n1).keep (Kp.write e3 trivial) fun o b u eb hb => ?_
    have nb : b ≠ a := fun z => by
      subst z
      have := (Rc.newL _ List.mem_cons_self o b eb).1
      rw [ha] at this; cases this
    rw [upd_ne nb]; exact hb
  · obtain ⟨b, u, eb, _⟩ := (Rc.pend _ List.mem_cons_self).ownAt o
    exact ⟨b, eb, (Rc.newL _ List.mem_cons_self o b eb).1⟩
  · funext b
    by_cases hb : b = a
    · subst hb; rw [upd_same, e3]
    · rw [upd_ne hb, upd_ne hb]
end
section
variable {X : Cx} {W : WX} {OW OC : Nat → Bool} {k np n : Nat} {f : Addr} {fd : FuncData} {ps ks : List Str} {x : Str} {p pos : Pos} {e : Expr} {es : List Expr} {ma : MA} {mc : MS} {kws : List Keyword}
theorem run_g {sp : SpG} {pins : List (Addr × Obj)} {σ : L2.St} {H : Hp} {s : Shared} {Q : VK} {us : List Value} {vs : List V} {kw : List (Str × Value)} {vals : List Value} (F : FnG X.prog X.w X.K X.mg X.base k f fd ps sp) (hr : Room k X.A) (gd : X.A.guards = some []) (hb : BindsTo s fd ⟨us, kw⟩ (ps.zip vals))
    (I : Inv X pins σ H s) (r : Vals vs vals) (h : sp vs H Q) : wpAny (model X.prog X.w) X.A (call (.ref f) us kw) (EP X pins σ Q) X.xe s := by
  refine wpAny_call (codeAny_mono (F.run X.A X.stack s H ⟨us, kw⟩ vals vs Q hr gd I.env0 hb r h) fun res s' hq => ?_)
  cases res with
  | error e => exact False.elim hq
  | ok fl =>
    cases fl with
    | ret u => exact I.after hq
    | next => exact False.elim hq
    | brk => exact False.elim hq
    | cont => exact False.elim hq
def tGo (sp : SpG) (t : TA) : TE := fun σ H Q => t σ H fun vs H1 => sp vs H1 Q
theorem pe_go {sp : SpG} {t : TA} (F : FnG X.prog X.w X.K X.mg X.base k f fd ps sp) (hr : Room k X.A) (gd : X.A.guards = some []) (hg : Gl X x) (hm : X.mg x = some (.ref f)) (hk : PySem.W.keepIn X.K (.ref f) = true) (hb : Binds X.K fd ps [])
    (ha : PA X (e :: es) t) (hdb : (x == ("__debug__" : Str)) = false) (he : starEach (e :: es) X.env = (false, eval e X.env) :: starEach es X.env) (hpl : (backTo pos (starEach es X.env)).any (·.1) = false) : PE X (.Call (.Name x p) (e :: es) [] pos) (tGo sp t) := by
  refine ⟨fun pins s σ H Q I h => wpAny_Call_Name_kw (ld_glob I hg hm ?_ hdb)⟩
  refine PySem.W.callWith_K (h₀ := X.base) I.ok.mod.kin hk (thn (ha.run pos pins s σ H _ I h) fun us s1 ⟨vs, H1, I1, r, q⟩ => ⟨I1.kIn, ?_⟩) he hpl
  have bb := hb s1 us I1.kIn (by rw [List.append_nil, ← r.length]; exact F.len _ _ _ q)
  rw [List.append_nil] at bb
  exact run_g F hr gd bb I1 r q
theorem call_le {σ : L2.St} {H : Hp} {Q : VK} (h : tD (cy X W OW) (mCall n mc ma) σ H Q) (hnp : ∀ env rs e', ma env = .ok rs e' → rs.length = np) : tGo (fspec X.K OC np n mc) (tA (cy X W OW) ma) σ H Q := by
  obtain ⟨H0, P, env, L, Rl, S⟩ := h
  refine ⟨H0, P, env, L, Rl, (Sat.bind S).mono fun rs e1 em S1 vs H1 hl R1 => ?_⟩
  by_cases c : rs.all isDK = true
  · rw [if_pos c] at S1
    cases hf : fRun mc (env0 n rs) with
    | none => simp only [hf] at S1; exact S1.elim
    | some p =>
      obtain ⟨r, e'⟩ := p
      simp only [hf] at S1
      exact ⟨rs, r, e', hnp _ _ _ em, dk_rrs R1 hl (fun p m => List.mem_append_left _ m) c, argOk_dk c, hf, fun v H' σ' Rc => S1 v H' (R1.dropZ.post (post_call c (fRun_ok hf) Rc))⟩
  · rw [if_neg c] at S1; exact S1.elim
theorem callP_le {σ : L2.St} {H : Hp} {Q : VK} (h : tD (cy X W OW) (mCallP n mc ma) σ H Q) (hnp : ∀ env rs e', ma env = .ok rs e' → rs.length = np) : tGo (fspec X.K OC np n mc) (tA (cy X W OW) ma) σ H Q := by
  obtain ⟨H0, P, env, L, Rl, S⟩ := h
  refine ⟨H0, P, env, L, Rl, (Sat.bind S).mono fun rs e1 em S1 vs H1 hl R1 => ?_⟩
  have hlen := hnp _ _ _ em
  match rs, S1, hl, R1, hlen with
  | .vr j :: rest, S1, hl, R1, hlen =>
    match vs, hl, R1 with
    | va :: vrest, hl, R1 =>
      dsimp only at S1
      by_cases c : rest.all isDK = true
      · rw [if_pos c] at S1
        cases h1 : e1[j]? with
        | none => simp only [h1] at S1; exact S1.elim
        | some o =>
          cases o with
          | none => simp only [h1] at S1; exact S1.elim
          | some t =>
            simp only [h1] at S1
            cases h2 : potL t with
            | none => simp only [h2] at S1; exact S1.elim
            | some xs =>
              simp only [h2] at S1
              cases hf : fRun mc (env0 n (.pl xs :: rest)) with
              | none => simp only [hf] at S1; exact S1.elim
              | some p =>
                obtain ⟨r, e'⟩ := p
                simp only [hf] at S1
                cases hp : potE e' with
                | none => simp only [hp] at S1; exact S1.elim
                | some ys =>
                  simp only [hp] at S1
                  obtain ⟨hv, _⟩ : σ[j]? = some (some va) ∧ ∃ r, e1[j]? = some (some r) := R1.pend (va, .vr j) List.mem_cons_self
                  obtain ⟨w, hw, rr⟩ := R1.slot j t h1
                  rw [hv] at hw; cases hw
                  have ex : ∃ a us, va = .ref a ∧ H1 a = some (.lst us) ∧ RDs H1 us xs ∧ t.like (reP ys t) = true := by
                    cases t with
                    | ol zs => cases h2; obtain ⟨a, us, x1, x2, x3⟩ := rr; exact ⟨a, us, x1, x2, x3, rfl⟩
                    | pl zs => cases h2; obtain ⟨a, us, x1, x2, x3⟩ := rr; exact ⟨a, us, x1, x2, x3, rfl⟩
                    | _ => cases h2
                  obtain ⟨a, us, ea, eh, rd, lk⟩ := ex
                  subst ea
                  have hd : (vrest.zip rest).length ≤ (vrest.zip rest).length := Nat.le_refl _
                  refine ⟨.pl xs :: rest, r, e', by simpa using hlen, .cons ⟨a, us, rfl, eh, rd⟩ (dk_rrs R1 (by simpa using hl) (fun p m => List.mem_cons_of_mem _ (List.mem_append_left _ m)) c), c, hf, fun v H' σ' Rc => ?_⟩
                  obtain ⟨us', po, q1, q2, q3⟩ := pot_call eh c (fRun_ok hf) Rc hp
                  have R2 : Rel X.K OW H0 P e1 σ H1 L := R1.drop.dropZ
                  have R3 := R2.post po
                  have R4 := R3.change (u := .lst us') h1 hv lk (by
                    rw [q3]
                    cases t with
                    | ol zs => exact ⟨a, us', rfl, q1, q2⟩
                    | pl zs => exact ⟨a, us', rfl, q1, q2⟩
                    | _ => cases h2)
                  rw [q3] at R4
                  exact S1 v H' R4
      · rw [if_neg c] at S1; exact S1.elim
  | .ol xs :: rest, S1, hl, R1, hlen =>
    match vs, hl, R1 with
    | va :: vrest, hl, R1 =>
      dsimp only at S1
      by_cases c : rest.all isDK = true
      · rw [if_pos c] at S1
        cases hf : fRun mc (env0 n (.pl xs :: rest)) with
        | none => simp only [hf] at S1; exact S1.elim
        | some p =>
          obtain ⟨r, e'⟩ := p
          simp only [hf] at S1
          have rr : RR X.K H1 va (.ol xs) := R1.pend (va, .ol xs) List.mem_cons_self
          obtain ⟨a, us, ea, eh, rd⟩ := rr
          subst ea
          refine ⟨.pl xs :: rest, r, e', by simpa using hlen, .cons ⟨a, us, rfl, eh, rd⟩ (dk_rrs R1 (by simpa using hl) (fun p m => List.mem_cons_of_mem _ (List.mem_append_left _ m)) c), c, hf, fun v H' σ' Rc => ?_⟩
          have hpe : ∃ ys, potE e' = some ys := by
            obtain ⟨q1, ds, q2⟩ := Rc.par 0 a rfl
            exact ⟨ds, by unfold potE; rw [q2]⟩
          obtain ⟨ys, hp⟩ := hpe
          obtain ⟨us', po, q1, q2, q3⟩ := pot_call eh c (fRun_ok hf) Rc hp
          have R2 : Rel X.K OW H0 P e1 σ H1 ((.ref a, .ol xs) :: L) := R1.sub (List.Sublist.cons_cons _ (List.sublist_append_right _ _))
          have R3 := (R2.post po).perm (List.Perm.swap (v, r) (V.ref a, Pw.R.ol xs) L)
          have R4 := R3.changeP (u := .lst us') (r' := .ol ys) rfl (by rw [q3]; exact ⟨a, us', rfl, q1, q2⟩)
          rw [q3] at R4
          exact S1 v H' R4.drop
      · rw [if_neg c] at S1; exact S1.elim
  | [], S1, _, _, _ => exact S1.elim
  | .d _ :: _, S1, _, _, _ => exact S1.elim
  | .kl _ :: _, S1, _, _, _ => exact S1.elim
  | .pl _ :: _, S1, _, _, _ => exact S1.elim
  | .oK _ :: _, S1, _, _, _ => exact S1.elim
  | .oT _ :: _, S1, _, _, _ => exact S1.elim
theorem de_call (F : FnG X.prog X.w X.K X.mg X.base k f fd ps (fspec X.K OC np n mc)) (hr : Room k X.A) (gd : X.A.guards = some []) (hm : X.mg x = some (.ref f)) (hk : PySem.W.keepIn X.K (.ref f) = true) (hb : Binds X.K fd ps [])
    (ha : DA X W OW (e :: es) ma) (hnp : ∀ env rs e', ma env = .ok rs e' → rs.length = np) (hg : Gl X x := by rfl) (hdb : (x == ("__debug__" : Str)) = false := by decide) (he : starEach (e :: es) X.env = (false, eval e X.env) :: starEach es X.env := by rfl) (hpl : (backTo pos (starEach es X.env)).any (·.1) = false := by rfl) :
    DE X W OW (.Call (.Name x p) (e :: es) [] pos) (mCall n mc ma) := pe_le (pe_go F hr gd hg hm hk hb ha hdb he hpl) fun _ _ _ h => call_le h hnp
theorem de_callP (F : FnG X.prog X.w X.K X.mg X.base k f fd ps (fspec X.K OC np n mc)) (hr : Room k X.A) (gd : X.A.guards = some []) (hm : X.mg x = some (.ref f)) (hk : PySem.W.keepIn X.K (.ref f) = true) (hb : Binds X.K fd ps [])
    (ha : DA X W OW (e :: es) ma) (hnp : ∀ env rs e', ma env = .ok rs e' → rs.length = np) (hg : Gl X x := by rfl) (hdb : (x == ("__debug__" : Str)) = false := by decide) (he : starEach (e :: es) X.env = (false, eval e X.env) :: starEach es X.env := by rfl) (hpl : (backTo pos (starEach es X.env)).any (·.1) = false := by rfl) :
    DE X W OW (.Call (.Name x p) (e :: es) [] pos) (mCallP n mc ma) := pe_le (pe_go F hr gd hg hm hk hb ha hdb he hpl) fun _ _ _ h => callP_le h hnp
/-- the length of an argument list -/
def ALen (n : Nat) (ma : MA) : Prop := ∀ env rs e', ma env = .ok rs e' → rs.length = n
theorem alen_nil : ALen 0 mANil := fun env rs e' h => by cases h; rfl
theorem alen_cons {m : ME} (h : ALen n ma) : ALen (n + 1) (mACons m ma) := fun env rs e' q => by
  unfold mACons at q
  cases h1 : m env with
  | st => rw [h1] at q; cases q
  | ex _ _ => rw [h1] at q; cases q
  | ok r e1 =>
    rw [h1] at q
    have q' : ((ma e1).bind fun rs e2 => .ok (r :: rs) e2) = Res.ok rs e' := q
    cases h2 : ma e1 with
    | st => rw [h2] at q'; cases q'
    | ex _ _ => rw [h2] at q'; cases q'
    | ok rs2 e2 =>
      rw [h2] at q'
      cases q'
      rw [List.length_cons, h e1 _ _ h2]
end
end Pw

set_option Elab.async false
set_option linter.all false
set_option maxRecDepth 100000
set_option maxHeartbeats 2000000
/-! Pw: calls by names; the law's own end. -/
namespace Pw
open PySem PySem.Spec PyProof.Rows L2

def pick {α : Type} (perm : List Nat) (l : List α) : List α := perm.filterMap fun i => l[i]?
theorem prd_none {α β : Type} {F : α → β → Prop} : ∀ {l : List α} {m : List β} {i : Nat}, Paired F l m → m[i]? = none → l[i]? = none
  | _, _, _, .nil, _ => by simp
  | _, _, 0, .cons r t, h => by simp at h
  | _, _, i + 1, .cons r t, h => by
    rw [List.getElem?_cons_succ] at h ⊢
    exact prd_none t h
theorem prd_pick {α β : Type} {F : α → β → Prop} {l : List α} {m : List β} (h : Paired F l m) : ∀ perm : List Nat, Paired F (pick perm l) (pick perm m)
  | [] => .nil
  | i :: perm => by
    have ih := prd_pick h perm
    unfold pick at ih ⊢
    rw [List.filterMap_cons, List.filterMap_cons]
    cases e : m[i]? with
    | none =>
      rw [prd_none h e]
      exact ih
    | some y =>
      obtain ⟨x, h1, h2⟩ := prd_get h e
      rw [h1]
      exact .cons h2 ih
theorem vals_pick {vs : List V} {us : List Value} (h : Vals vs us) (perm : List Nat) : Vals (pick perm vs) (pick perm us) := by
  have q : Paired RelV vs us := by
    induction h with
    | nil => exact .nil
    | cons r t ih => exact .cons r ih
  have z := prd_pick q perm
  generalize pick perm vs = a at z
  generalize pick perm us = b at z
  induction z with
  | nil => exact .nil
  | cons r t ih => exact .cons r ih
theorem dk_pick {rs : List R} (h : rs.all isDK = true) (perm : List Nat) : (pick perm rs).all isDK = true := by
  refine List.all_eq_true.mpr fun r m => ?_
  obtain ⟨i, _, e⟩ := List.mem_filterMap.mp m
  exact List.all_eq_true.mp h r (List.mem_of_getElem? e)
abbrev DK (X : Cx) (W : WX) (OW : Nat → Bool) (ks : List Keyword) (m : MA) : Prop := PK X ks (tA (cy X W OW) m)
def mCallK (perm : List Nat) (n : Nat) (mc : MS) (ma : MA) : ME := fun env => (ma env).bind fun rs e1 => if rs.all isDK = true then match fRun mc (env0 n (pick perm rs)) with
  | some (r, _) => .ok r e1
  | none => .st
  else .st
section
variable {X : Cx} {W : WX} {OW OC : Nat → Bool} {k np n : Nat} {f : Addr} {fd : FuncData} {ps ks : List Str} {x : Str} {p pos kpos : Pos} {e : Expr} {m : ME} {ma : MA} {mc : MS} {kws : List Keyword} {nm : Option Str} {perm : List Nat}
theorem dk_nil : DK X W OW [] mANil := ⟨fun pos pins s σ H Q I ⟨H0, P, env, L, Rl, S⟩ => pk_nil.run pos pins s σ H Q I (S [] H rfl Rl)⟩
theorem dk_cons (h : DE X W OW e m) (ha : DK X W OW kws ma) : DK X W OW (⟨nm, e, kpos⟩ :: kws) (mACons m ma) := by
  refine ⟨fun pos pins s σ H Q I ⟨H0, P, env, L, Rl, S⟩ => (pk_cons h ha).run pos pins s σ H Q I ?_⟩
  refine ⟨H0, P, env, L, Rl, (Sat.bind S).mono fun r e1 _ S1 v H1 R1 => ⟨H0, P, e1, (v, r) :: L, R1, ?_⟩⟩
  refine ((Sat.bind S1).wait fun _ _ q => q.drop).mono fun rs e2 _ S2 vs H2 hl R2 => ?_
  refine S2 (v :: vs) H2 (by rw [List.length_cons, List.length_cons, hl]) (R2.perm ?_)
  show (v, r) :: (vs.zip rs ++ L) |>.Perm (vs.zip rs ++ (v, r) :: L)
  exact List.perm_middle.symm
/-- f(a = .., b = ..) -/
theorem de_callK (F : FnG X.prog X.w X.K X.mg X.base k f fd ps (fspec X.K OC np n mc)) (hr : Room k X.A) (gd : X.A.guards = some []) (hm : X.mg x = some (.ref f)) (hk : PySem.W.keepIn X.K (.ref f) = true)
    (hb : ∀ (s : Shared) (ws : List Value), ws.length = ks.length → BindsTo s fd ⟨[], ks.zip ws⟩ (ps.zip (pick perm ws))) (ha : DK X W OW kws ma) (hlen : ∀ env rs e', ma env = .ok rs e' → rs.length = ks.length) (hnp : ∀ rs : List R, rs.length = ks.length → (pick perm rs).length = np) (hg : Gl X x := by rfl)
    (hall : (backToKw pos (keywordEach kws X.env)).all (·.1.isSome) = true := by rfl) (hks : (backToKw pos (keywordEach kws X.env)).filterMap (·.1) = ks := by rfl) (hdb : (x == ("__debug__" : Str)) = false := by decide)
    (hpl : ((backTo pos (starEach [] X.env)).any (·.1) || (backToKw pos (keywordEach kws X.env)).any (·.1.isNone)) = false := by rfl) : DE X W OW (.Call (.Name x p) [] kws pos) (mCallK perm n mc ma) := by
  refine ⟨fun pins s σ H Q I ⟨H0, P, env, L, Rl, S⟩ => wpAny_Call_Name_kw (ld_glob I hg hm ?_ hdb)⟩
  refine PySem.W.callWith_KW0 (h₀ := X.base) I.ok.mod.kin hk hall (thn (ha.run pos pins s σ H (fun vs H1 => fspec X.K OC np n mc (pick perm vs) H1 Q ∧ vs.length = ks.length) I ⟨H0, P, env, L, Rl, (Sat.bind S).mono fun rs e1 em S1 vs H1 hl R1 => ?_⟩) fun ws s2 ⟨zs, H2, I2, rz, q2, q3⟩ => ⟨I2.kIn, ?_⟩) hpl
  · by_cases c : rs.all isDK = true
    · rw [if_pos c] at S1
      cases hf : fRun mc (env0 n (pick perm rs)) with
      | none => simp only [hf] at S1; exact S1.elim
      | some p =>
        obtain ⟨r, e'⟩ := p
        simp only [hf] at S1
        have c2 := dk_pick c perm
        exact ⟨⟨pick perm rs, r, e', hnp rs (hlen _ _ _ em), prd_pick (dk_rrs R1 hl (fun p m => List.mem_append_left _ m) c) perm, argOk_dk c2, hf, fun v H' σ' Rc => S1 v H' (R1.dropZ.post (post_call c2 (fRun_ok hf) Rc))⟩, by rw [hl, hlen _ _ _ em]⟩
    · rw [if_neg c] at S1; exact S1.elim
  · rw [hks]
    exact run_g (us := []) F hr gd (hb s2 ws (by rw [← rz.length]; exact q3)) I2 (vals_pick rz perm) q2
end
section
variable {P : Program} {w : World} {K : PySem.W.Frag} {mg : Str → Option Value} {base : Heap}
theorem fun_bindsK {x qual : Str} {st : Stmt} {f : Addr} {fd : FuncData} {ps ks : List Str} {perm : List Nat} (F : Fun K x qual st f fd)
    (h : ∀ (kV doc pm : Value) (an : Option Addr) (cdv ct : Value) (ws : List Value), ws.length = ks.length → bindArgs (PySem.W.fnOf x qual (defArgs st) (defBody st) (defScope st) .none kV doc pm an cdv ct) ⟨[], ks.zip ws⟩ = pure (ps.zip (pick perm ws))) :
    ∀ (s : Shared) (ws : List Value), ws.length = ks.length → BindsTo s fd ⟨[], ks.zip ws⟩ (ps.zip (pick perm ws)) := by
  obtain ⟨oc, od, kV, doc, pm, an, cdv, ct, osl, rfl, lk, hcd⟩ := F.ex
  exact fun s ws hl => .of_eq (h kV doc pm an cdv ct ws hl)
end
/-! ### the law -/
/-- the script as it stands: a list of ints that is read alone -/
theorem script_rr {K : PySem.W.Frag} {H : Hp} {a : Addr} {ns : List Int} (hO : Only H) (h : SqL K H a (ns.map V.int)) : RR K H (.ref a) (.kl (ns.map PyData.int)) := by
  refine ⟨a, ns.map V.int, rfl, ?_, RDs.of_ints ns⟩
  rcases h with (h | ⟨o, h⟩) | h
  · rcases hO a with z | ⟨o, xs, z⟩ <;> (rw [h] at z; cases z)
  · exact .inl ⟨o, h⟩
  · exact .inr h
theorem law_go {P : Program} {w : World} {K : PySem.W.Frag} {mg mb : Str → Option Value} {k : Nat} {fa a : Addr} {fd : FuncData} {x : Str} {sp : SpG} {s₁ : Shared} {vs : List Value} {ns : List Int}
    (KX : K.In s₁.heap) (hns : s₁.heap.Ns mainGlobals mg) (hb : s₁.heap.Ns builtinsNs mb) (hbb : ∀ x : Str, x ≠ "__name__" → mb x = bootBuiltins x) (hlim : s₁.heap.NoLimit) (hg : s₁.gens = #[])
    (ha : s₁.heap.get? a = some { cls := .type "list", data := .seq vs.toArray }) (hi : IntsAre vs ns) (hl : ns.length ≤ sizeLine) (hr : Room k callerA)
    (F : ∀ base : Heap, K.In base → base.Ns mainGlobals mg → FnG P w K mg base k fa fd [x] sp) (hbind : ∀ (s : Shared) (u : Value), BindsTo s fd ⟨[u], []⟩ [(x, u)])
    (hsp : ∀ H : Hp, Only H → SqL K H a (ns.map V.int) → sp [.ref a] H (fun v _ => v = .bl true)) :
    codeAny (model P w) callerA (.call (.ref fa) ⟨[.ref a], []⟩) (fun r s' => r = .ok (.ret (.bool true)) ∧ OldK s₁.heap s'.heap ∧ s'.os = s₁.os ∧ AllBare s'.gens) s₁ := by
  have rv := vals_ints hi
  have hlv := hi.length
  have main : ∀ H : Hp, Only H → SqL K H a (ns.map V.int) → HOk P w H s₁.heap → (∀ b, H b ≠ none → b = a ∧ K.lookup a = none) →
      codeAny (model P w) callerA (.call (.ref fa) ⟨[.ref a], []⟩) (fun r s' => r = .ok (.ret (.bool true)) ∧ OldK s₁.heap s'.heap ∧ s'.os = s₁.os ∧ AllBare s'.gens) s₁ := by
    intro H hO hS hok only
    have free_dict : ∀ {b : Addr} {o : Obj} {es : Array DictEntry} {ep : Nat}, s₁.heap.get? b = some o → o.data = .dict es ep → H b = none := fun {b o es ep} e d => by
      cases q : H b with
      | none => rfl
      | some u =>
        obtain ⟨z, _⟩ := only b (by rw [q]; simp)
        rw [z, ha] at e; cases e
        exact absurd (show Data.seq vs.toArray _ = Data.dict es ep from d) (by simp)
    have ns_hid : ∀ {b : Addr} {m : Str → Option Value}, s₁.heap.Ns b m → (hidT s₁.heap H).Ns b m := fun {b m} ⟨o, es, ep, e, d, r⟩ => ⟨o, es, ep, hidT_get e (free_dict e d), d, r⟩
    have k_hid : K.In (hidT s₁.heap H) := fun b o e => by
      refine hidT_get (KX b o e) ?_
      cases q : H b with
      | none => rfl
      | some u =>
        obtain ⟨z, z2⟩ := only b (by rw [q]; simp)
        rw [z, z2] at e; cases e
    have md : Mod K mg (hidT s₁.heap H) := ⟨k_hid, ns_hid hns, ⟨mb, ns_hid hb, hbb⟩, let ⟨mc, h1, h2⟩ := hlim; ⟨mc, ns_hid h1, h2⟩⟩
    have e0 : Env0 P w K mg (hidT s₁.heap H) callerA [] s₁ H := ⟨rfl, md, fun b o e => of_hidT e, Nat.le_of_eq (hidT_size _ _), trivial, fun b hb => absurd (show b ∈ ([] : List Addr) from hb) (by simp), hok, .of_eq hg⟩
    refine codeAny_mono ((F _ k_hid (ns_hid hns)).run callerA [] s₁ H ⟨[.ref a], []⟩ [.ref a] [.ref a] _ hr rfl e0 (hbind s₁ (.ref a)) (.cons rfl .nil) (hsp H hO hS)) fun r s2 h2 => ?_
    cases r with
    | error e => exact False.elim h2
    | ok fl =>
      cases fl with
      | ret u =>
        obtain ⟨v, H', os, bare, un, hok', r', q⟩ := h2
        have q' : v = .bl true := q
        rw [q'] at r'
        obtain rfl : u = Value.bool true := r'
        refine ⟨rfl, OldK.of_keep fun b o e => ?_, os, bare⟩
        cases q : H b with
        | none => exact un.keep b o e q (fun z => absurd (show b ∈ ([] : List Addr) from z) (by simp)) (by simp)
        | some u =>
          rcases hO b with z | ⟨ob, xs, z⟩
          · rw [q] at z; cases z
          · obtain ⟨e1, _⟩ := hok b _ z
            obtain ⟨e2, _⟩ := hok' b _ (un.frzs b ob _ z)
            rw [e] at e1; cases e1
            exact e2
      | next => exact False.elim h2
      | brk => exact False.elim h2
      | cont => exact False.elim h2
  cases hk : K.lookup a with
  | some o =>
    have e := KX a o hk
    rw [ha] at e
    cases e
    exact main (fun _ => none) (fun _ => .inl rfl) (.inr ⟨_, vs.toArray, _, hk, rfl, rfl, rfl, by rw [List.size_toArray, hlv]; exact hl, by simpa using rv⟩) (fun b u z => by cases (show (none : Option HO) = some u from z)) fun b z => absurd rfl z
  | none =>
    have at_a : ∀ {b : Addr} {u : HO}, (if b = a then some (HO.frz { cls := .type "list", data := .seq vs.toArray } (.lst (ns.map V.int))) else none) = some u → b = a ∧ u = .frz { cls := .type "list", data := .seq vs.toArray } (.lst (ns.map V.int)) := fun {b u} z => by
      by_cases hb : b = a
      · rw [if_pos hb] at z; cases z; exact ⟨hb, rfl⟩
      · rw [if_neg hb] at z; cases z
    refine main (fun b => if b = a then some (.frz { cls := .type "list", data := .seq vs.toArray } (.lst (ns.map V.int))) else none) (fun b => ?_) (.inl (.inr ⟨{ cls := .type "list", data := .seq vs.toArray }, if_pos rfl⟩)) (fun b u z => ?_) fun b z => ?_
    · by_cases hb : b = a
      · exact .inr ⟨_, _, if_pos hb⟩
      · exact .inl (if_neg hb)
    · obtain ⟨z1, z2⟩ := at_a z
      subst z1 z2
      exact ⟨ha, by rw [List.length_map]; exact hl, vs, _, rv, ha⟩
    · by_cases hb : b = a
      · exact ⟨hb, hk⟩
      · exact absurd (if_neg hb) z
theorem walk_d {l : PySem.W.OpenLaw} {n k nN : Nat} {q : Program} {loose : List Str} {XP : (Str → Option Value) → Heap → Prop} {YP : World → Heap → Prop} {d : DefRec} {K : Params → PySem.W.Frag} {x : Str} {OW : Nat → Bool} {m : MS}
    (hn : l.most = some n) (hn2 : n ≤ sizeLine) (hdf : d.params.defaults = []) (hr : Room k callerA) (hY : ∀ (w : World) (h : Heap), YP w h → (K w.params).In h)
    (F : ∀ (w : World) (mg : Str → Option Value) (fa : Addr) (h : Heap), (K w.params).In h → h.Ns mainGlobals mg → mg d.name = some (.ref fa) →
      ∃ fd : FuncData, (∀ (s : Shared) (u : Value), BindsTo s fd ⟨[u], []⟩ [(x, u)]) ∧ ∀ base : Heap, (K w.params).In base → base.Ns mainGlobals mg → FnG l.prog w (K w.params) mg base k fa fd [x] (fspec (K w.params) OW 1 nN m))
    (hm : ∀ ns : List Int, ns.length ≤ n → (∀ z ∈ ns, Builtin.Int.intBits z ≤ 1048576) → ∃ e', fRun m (env0 nN [.kl (ns.map PyData.int)]) = some (.d (.bool true), e')) :
    PySem.W.WalkO q loose XP YP l.row.toRowW d [] (fun f vs => PySem.call f vs) := by
  refine Att.attach_callB hn hdf fun w s₀ s₁ mg mb fa o pm cd doc a vs ns G Y ho hd hcd hmg hobj hints hlen hbits hg => ?_
  obtain ⟨fd, hb, hF⟩ := F w mg fa _ (hY w _ Y) G.T.g hmg
  obtain ⟨e', hrun⟩ := hm ns hlen hbits
  refine law_go (hY w _ Y) G.T.g G.T.b G.T.builtins G.T.nolimit hg hobj hints (Nat.le_trans hlen hn2) hr hF hb fun H hO hS => ⟨[.kl (ns.map PyData.int)], .d (.bool true), e', rfl, .cons (script_rr hO hS) .nil, rfl, hrun, fun v H' σ' Rc => ?_⟩
  have rv : RD H' v (.bool true) := Rc.pend (v, .d (.bool true)) List.mem_cons_self
  cases rv
  rfl
end Pw

set_option Elab.async false
set_option linter.all false
set_option maxRecDepth 100000
set_option maxHeartbeats 2000000
/-! Pw: how many different ints; texts of any data. -/
namespace Pw
open PySem PySem.Spec PyProof.Rows L2

/-- each once -/
def dd : List Int → List Int
  | [] => []
  | x :: r => if x ∈ r then dd r else x :: dd r
theorem mem_dd {y : Int} : ∀ {l : List Int}, y ∈ dd l ↔ y ∈ l
  | [] => by simp [dd]
  | x :: r => by
    unfold dd
    split
    · rename_i h
      rw [mem_dd (l := r), List.mem_cons]
      constructor
      · exact .inr
      · rintro (e | e)
        · rw [e]; exact h
        · exact e
    · rw [List.mem_cons, List.mem_cons, mem_dd (l := r)]
theorem dd_nodup : ∀ l : List Int, (dd l).Nodup
  | [] => List.nodup_nil
  | x :: r => by
    unfold dd
    split
    · exact dd_nodup r
    · rename_i h
      exact List.nodup_cons.mpr ⟨fun m => h (mem_dd.mp m), dd_nodup r⟩
theorem dd_len {l k : List Int} (nd : k.Nodup) (h : ∀ y, y ∈ k ↔ y ∈ l) : k.length = (dd l).length :=
  ((List.perm_ext_iff_of_nodup nd (dd_nodup l)).mpr fun y => (h y).trans mem_dd.symm).length_eq
theorem dd_self {l : List Int} (nd : l.Nodup) : dd l = l := by
  induction l with
  | nil => rfl
  | cons x r ih =>
    obtain ⟨h1, h2⟩ := List.nodup_cons.mp nd
    unfold dd
    rw [if_neg h1, ih h2]
theorem step_nodup {σ : List Int} {k : Int} (nd : σ.Nodup) : (step_dedup σ k).Nodup := by
  unfold step_dedup
  split
  · exact nd
  · rename_i h
    refine List.nodup_append.mpr ⟨nd, by simp, fun a ha b hb e => h ?_⟩
    rw [List.mem_singleton] at hb
    subst hb
    subst e
    exact List.any_eq_true.mpr ⟨a, ha, by simp⟩
theorem first_nodup (val : Nat → Int) : ∀ i, (firstMet val i).Nodup
  | 0 => List.nodup_nil
  | i + 1 => by rw [firstMet_succ]; exact step_nodup (first_nodup val i)
theorem getD_range : ∀ ns : List Int, (List.range ns.length).map (fun i => ns.getD i 0) = ns := fun ns => by
  refine List.ext_getElem? fun i => ?_
  rw [List.getElem?_map]
  by_cases h : i < ns.length
  · rw [List.getElem?_range h, List.getElem?_eq_getElem h]
    simp [List.getD_eq_getElem?_getD, h]
  · rw [List.getElem?_eq_none (by simpa using h), List.getElem?_eq_none (by simpa using h)] <;> rfl
def lenSet (x : D) : Option R := match x with
  | .list xs => match asInts xs with
    | some ns => if ns.length < 1000 then some (.d (.int ((dd ns).length : Nat))) else none
    | none => none
  | .tuple xs => match asInts xs with
    | some ns => if ns.length < 1000 then some (.d (.int ((dd ns).length : Nat))) else none
    | none => none
  | _ => none
section
variable {X : Cx} {W : WX} {OW : Nat → Bool} {a : Expr} {m : ME} {p p2 q pos : Pos}
theorem pe_lenSet {ta : TE} (hc : X.calm = true) (hg : Gl X "len") (hm : X.mg "len" = none) (hg2 : Gl X "set") (hm2 : X.mg "set" = none) (ha : PE X a ta) (na : starEach [a] X.env = (false, eval a X.env) :: starEach [] X.env) :
    PE X (.Call (.Name "len" p) [.Call (.Name "set" p2) [a] [] q] [] pos) (fun σ H Q => ta σ H fun x H1 => ∃ (l : Addr) (ns : List Int), x = V.ref l ∧ (SqL X.K H1 l (ns.map V.int) ∨ SqT X.K H1 l (ns.map V.int)) ∧ ns.length < 1000 ∧ Q (.int ((dd ns).length : Nat)) H1) := by
  refine ⟨fun pins s σ H Q I h => ?_⟩
  refine Call_ (ld_blt I hg hm PySem.boot_len (PyProof.Rows.callWith_builtin1 (PyProof.Rows.args_cons ?_ rfl) rfl rfl))
  refine Call_ (ld_blt I hg2 hm2 PyProof.Rows.boot_set (PyProof.Rows.callWith_type1 (PyProof.Rows.args_cons (thn (ha.run pins s σ H _ I h) fun v s1 ⟨x, H1, I1, r1, q1⟩ => PyProof.Rows.args_nil ?_) na) na rfl))
  obtain ⟨l, ns, rfl, hq, h1, q1⟩ := q1
  cases r1
  refine (?_ : wpAny (model X.prog X.w) X.A (call (.type "set") [.ref l]) _ X.xe s1)
  rcases hq with hq | hq
  · obtain ⟨its, r, pl, hz⟩ := I1.list hq
    have hl : its.toArray.size = ns.length := by rw [List.size_toArray, ← r.length, List.length_map]
    refine call_set_list (I1.ok.hd hc) pl.isList (ns := ns) (by simpa using r.ints) (by unfold scanBound; omega) fun h' tk hS hk => PyProof.Rows.args_nil ?_
    rw [hl] at hS
    obtain ⟨o, es, ep, t, ho, hex, hd, _, _, _, hf, hn⟩ := hS
    have I2 : Inv X pins σ H1 { s1 with heap := h', toks := tk } := I1.kept fun b o e => hk b o (Heap.lt_size e) e
    have hc2 : (firstMet (fun i => ns.getD i 0) ns.length).length = (dd ns).length := dd_len (first_nodup _ _) fun y => by
      have z := firstMet_any (fun i => ns.getD i 0) ns.length y
      rw [getD_range] at z
      rw [Bool.eq_iff_iff, List.any_eq_true, List.any_eq_true] at z
      constructor
      · intro hy
        obtain ⟨u, hu, e⟩ := z.mp ⟨y, hy, by simp⟩
        rw [← (beq_iff_eq.mp e)]; exact hu
      · intro hy
        obtain ⟨u, hu, e⟩ := z.mpr ⟨y, hy, by simp⟩
        rw [← (beq_iff_eq.mp e)]; exact hu
    have hle := firstMet_length_le (fun i => ns.getD i 0) ns.length
    exact call_len_set ho hex hd hf (by rw [hn]; omega) ⟨.int ((dd ns).length : Nat), H1, I2.tok _, ⟨_, by rw [hn, hc2]⟩, q1⟩
  · obtain ⟨its, r, pt, hz⟩ := I1.tuple hq
    have hi : IntsAre its.toArray.toList ns := by simpa using r.ints
    refine call_set_tupI ns (I1.ok.hd hc) (show s1.heap.IsTuple l its.toArray from pt) hi (by unfold scanBound; omega) fun h' tk c R1 hcn k => PyProof.Rows.args_nil ?_
    obtain ⟨o, es, ep, t, ho, hex, hdt, g, nd, hm3, hb, hf, hn, hr, hl2⟩ := R1
    have I2 : Inv X pins σ H1 { s1 with heap := h', toks := tk } := I1.kept k
    have hc2 : c = (dd ns).length := by
      have z := dd_len (l := ns) nd fun y => by rw [← hm3 y, decide_eq_true_eq]
      rw [List.length_map, Array.length_toList, hn] at z
      exact z
    exact call_len_set ho hex hdt hf (by rw [hn]; omega) ⟨.int ((dd ns).length : Nat), H1, I2.tok _, ⟨_, by rw [hn, hc2]⟩, q1⟩
theorem de_lenSet (hc : X.calm = true) (hm : X.mg "len" = none) (hm2 : X.mg "set" = none) (ha : DE X W OW a m) (hg : Gl X "len" := by rfl) (hg2 : Gl X "set" := by rfl) (na : starEach [a] X.env = (false, eval a X.env) :: starEach [] X.env := by rfl) :
    DE X W OW (.Call (.Name "len" p) [.Call (.Name "set" p2) [a] [] q] [] pos) (m1 true lenSet m) := by
  refine pe_le (pe_lenSet hc hg hm hg2 hm2 ha na) fun σ H Q ⟨H0, P, env, L, Rl, S⟩ => ⟨H0, P, env, L, Rl, (Sat.bind S).mono fun r e1 _ S1 v H1 R1 => ?_⟩
  cases hd : r.dat true e1 with
  | none => simp only [hd] at S1; exact S1.elim
  | some x =>
    simp only [hd] at S1
    have dv := R1.dv List.mem_cons_self hd
    unfold lenSet at S1
    cases x with
    | list xs =>
      simp only at S1
      cases ha : asInts xs with
      | none => simp only [ha] at S1; exact S1.elim
      | some ns =>
        simp only [ha] at S1
        by_cases c : ns.length < 1000
        · rw [if_pos c] at S1
          obtain ⟨l, vs, rfl, sq, rd⟩ := dv.sq
          rw [asInts_map ha] at rd
          rw [rd.ints] at sq
          exact ⟨l, ns, rfl, .inl sq, c, S1 _ _ (R1.drop.post (Post.dat (.int _)))⟩
        · rw [if_neg c] at S1; exact S1.elim
    | tuple xs =>
      simp only at S1
      cases ha : asInts xs with
      | none => simp only [ha] at S1; exact S1.elim
      | some ns =>
        simp only [ha] at S1
        by_cases c : ns.length < 1000
        · rw [if_pos c] at S1
          obtain ⟨l, vs, rfl, sq, rd⟩ := dv
          rw [asInts_map ha] at rd
          rw [rd.ints] at sq
          exact ⟨l, ns, rfl, .inr (.inl (.inl sq)), c, S1 _ _ (R1.drop.post (Post.dat (.int _)))⟩
        · rw [if_neg c] at S1; exact S1.elim
    | _ => exact S1.elim
end
/-! ### repr of any data without dicts -/
def showAll (d : D) : Bool := okD 40 d && d.showable && decide (d.shown.length ≤ 16777216)
def pShow : List D → Option R
  | [d] => if showAll d = true then some (.d (.str d.shown)) else none
  | _ => none
def rShowD (K : PySem.W.Frag) : List V → Hp → VK → Prop := fun xs H Q => ∃ v d, xs = [v] ∧ DV K false H v d ∧ showAll d = true ∧ Q (.str d.shown) H
section
variable {X : Cx}
theorem o_show (hg : X.A.guards = some []) (hu : X.A.units + 64 < cLine) : CallR X (.builtin "repr") (rShowD X.K) := by
  intro pins s σ H xs us Q I r h
  obtain ⟨v, d, rfl, hv, ok, q⟩ := h
  by_cases sq : isSq d = true
  · refine o_repr hg hu pins s σ H [v] us Q I r ⟨v, d, rfl, hv, ?_, q⟩
    unfold showAll at ok
    unfold showOk
    rw [sq, Bool.true_and]
    exact ok
  · unfold showAll at ok
    simp only [Bool.and_eq_true, decide_eq_true_eq] at ok
    obtain ⟨⟨okd, sh⟩, ln⟩ := ok
    obtain ⟨u, rfl, ru⟩ := vals1 r
    cases d with
    | none =>
      cases hv
      cases ru
      simp only [PyData.shown] at q
      exact P.repr_of_none ⟨.str _, H, I.tok _, ⟨_, rfl⟩, q⟩
    | bool b =>
      cases hv
      cases ru
      simp only [PyData.shown] at q
      exact P.repr_of_bool ⟨.str _, H, I.tok _, ⟨_, rfl⟩, q⟩
    | int i =>
      cases hv
      obtain ⟨t, rfl⟩ := ru
      simp only [PyData.shown] at q
      exact P.repr_of_int (by simpa [PyData.showable] using sh) ⟨.str _, H, I.tok _, ⟨_, rfl⟩, q⟩
    | str x =>
      cases hv
      obtain ⟨t, rfl⟩ := ru
      simp only [PyData.shown] at q ln
      exact P.repr_of_str ⟨.str _, H, I.tok _, ⟨_, rfl⟩, q⟩ (by rw [sizeLine_eq]; exact ln)
    | list xs => exact absurd rfl sq
    | tuple xs => exact absurd rfl sq
    | dict kvs => simp [okD] at okd
theorem g_show {K : PySem.W.Frag} : OpN K false (rShowD K) pShow := by
  intro H vs xs res Q h e q
  match xs, e with
  | [d], e =>
    have e' : (if showAll d = true then some (R.d (.str d.shown)) else none) = some res := e
    by_cases c : showAll d = true
    · rw [if_pos c] at e'
      cases e'
      obtain ⟨v, rfl, hv⟩ := h.one
      exact ⟨v, d, rfl, hv, c, q _ _ (Post.dat (.str _))⟩
    · rw [if_neg c] at e'; cases e'
end
end Pw

set_option Elab.async false
set_option linter.all false
set_option maxRecDepth 100000
set_option maxHeartbeats 2000000
/-! Pw: texts of displays; defs that aren't run. -/
namespace Pw
open PySem PySem.Spec PyProof.Rows L2

/-- repr([..]): the items may be looked at where they stand -/
def mShowL (ma : MA) : ME := fun env => (ma env).bind fun rs e => match datL false e rs with
  | some ds => if (showAll (.list ds) && decide (ds.length ≤ 16777216)) = true then .ok (.d (.str (PyData.list ds).shown)) e else .st
  | none => .st
theorem dvs_dp {K : PySem.W.Frag} {H : Hp} {n : Nat} : ∀ {vs : List V} {ds : List D}, DVs K false H vs ds → okDs n ds = true → DpAll K H vs ds
  | _, _, .nil, _ => .nil
  | _, d :: ds, .cons r t, e => by
    have e' : okD n d = true ∧ okDs n ds = true := by simpa [okDs] using e
    exact .cons (r.dp e'.1) (dvs_dp t e'.2)
def rShowP (K : PySem.W.Frag) : List V → Hp → VK → Prop := fun xs H Q => ∃ a ds, xs = [.ref a] ∧ Dp K H (.ref a) (.list ds) ∧ showAll (.list ds) = true ∧ Q (.str (PyData.list ds).shown) H
section
variable {X : Cx} {W : WX} {OW : Nat → Bool} {es : List Expr} {ma : MA} {p pos lp : Pos}
theorem o_showP (hg : X.A.guards = some []) (hu : X.A.units + 64 < cLine) : CallR X (.builtin "repr") (rShowP X.K) := by
  intro pins s σ H xs us Q I r h
  obtain ⟨a, ds, rfl, hv, ok, q⟩ := h
  unfold showAll at ok
  simp only [Bool.and_eq_true, decide_eq_true_eq] at ok
  obtain ⟨⟨okd, sh⟩, ln⟩ := ok
  obtain ⟨u, rfl, ru⟩ := vals1 r
  obtain ⟨as, rd⟩ := Dp.reads I (.list ds) (.ref a) u hv ru
  obtain ⟨lay, dep⟩ := okD_lay 40 _ okd
  cases ru
  exact repr_of_reads' rd sh (PyData.noDict_hsm (PyData.hasDict_of_canLay _ lay)) hg (by omega) (fun _ _ e => e) (fun h' t tk hk => ⟨.str (PyData.list ds).shown, H, I.kept hk, ⟨t, rfl⟩, q⟩) (by rw [sizeLine_eq]; exact ln)
theorem de_showL (gd : X.A.guards = some []) (hu : X.A.units + 64 < cLine) (hm : X.mg "repr" = none) (ha : DA X W OW es ma) (hg : Gl X "repr" := by rfl) : DE X W OW (.Call (.Name "repr" p) [.List es lp] [] pos) (mShowL ma) := by
  refine pe_le (pe_callB (o_showP gd hu) hg hm (by decide +kernel) (pa_cons (pe_lst ha) pa_nil rfl) (by decide) (by decide) rfl rfl) fun σ H Q ⟨H0, P, env, L, Rl, S⟩ => ⟨H0, P, env, L, Rl, (Sat.bind S).mono fun rs e1 _ S1 vs H1 hl R1 => ?_⟩
  cases hd : datL false e1 rs with
  | none => simp only [hd] at S1; exact S1.elim
  | some ds =>
    simp only [hd] at S1
    by_cases c : (showAll (.list ds) && decide (ds.length ≤ 16777216)) = true
    · rw [if_pos c] at S1
      simp only [Bool.and_eq_true, decide_eq_true_eq] at c
      have dv0 := R1.datL hl (fun p m => List.mem_append_left _ m) hd
      have hlen : vs.length = ds.length := prd_len dv0
      refine ⟨by rw [hlen, sizeLine_eq]; exact c.2, fun a na => ?_⟩
      have R2 := R1.grow (same_new (u := .lst vs) na)
      have dv := R2.datL hl (fun p m => List.mem_append_left _ m) hd
      have ok : okDs 39 ds = true := by
        have z := c.1
        unfold showAll at z
        simp only [Bool.and_eq_true] at z
        simpa [okD] using z.1.1
      exact ⟨a, ds, rfl, .lst (.inl (.inl upd_same)) (dvs_dp dv ok), c.1, S1 _ _ (R2.dropZ.post (Post.dat (.str _)))⟩
    · rw [if_neg c] at S1; exact S1.elim
end
/-- a def that isn't run -/
theorem fng_stop {P : Program} {w : World} {K : PySem.W.Frag} {mg : Str → Option Value} {base : Heap} {x qual : Str} {st : Stmt} {f : Addr} {fd : FuncData} {N ps : List Str} {k np n : Nat} {OW : Nat → Bool} (_ : Fun K x qual st f fd) (_ : FnScope N ps (defScope st)) : FnG P w K mg base k f fd ps (fspec K OW np n mStop) :=
  ⟨fun vs H Q ⟨rs, r, e', _, _, _, h, _⟩ => (by cases h), fun A outer s H args us vs Q _ _ _ _ _ ⟨rs, r, e', _, _, _, h, _⟩ => (by cases h)⟩
end Pw

set_option Elab.async false
set_option linter.all false
set_option maxRecDepth 100000
set_option maxHeartbeats 2000000
/-! Pw: three names at once. -/
namespace Pw
open PySem PySem.Spec PyProof.Rows L2

/-- ==, != of texts, of data -/
def pEqT (x y : D) : Option R := match x, y with
  | .str a, .str b => some (bR (decide (a = b)))
  | x, y => pEq x y
def pNeT (x y : D) : Option R := match x, y with
  | .str a, .str b => some (bR (!decide (a = b)))
  | x, y => pNe x y
section
variable {X : Cx} {K : PySem.W.Frag} {kl : Bool}
theorem o_eqT (hu : X.A.units + 64 < cLine) : OpR X (compareOp .Eq) (fun x y H Q => rEq x y H Q ∨ rDat X.K pEq x y H Q) := OpR.or op_eq (o_eq hu)
theorem o_neT (hu : X.A.units + 64 < cLine) : OpR X (compareOp .NotEq) (fun x y H Q => rNe x y H Q ∨ rDat X.K pNe x y H Q) := OpR.or op_ne (o_ne hu)
theorem str_dec (a b : Str) : decide (V.str a = V.str b) = decide (a = b) := by
  rw [Bool.eq_iff_iff]
  simp
theorem g_eqT : Op2 K kl (fun x y H Q => rEq x y H Q ∨ rDat K pEq x y H Q) pEqT := by
  intro H v1 v2 x y res Q h1 h2 e q
  unfold pEqT at e
  split at e
  · cases h1; cases h2; cases e
    exact .inl ⟨rfl, by rw [str_dec]; exact q _ _ (Post.dat (.bl _))⟩
  · exact .inr (g_eq (kl := kl) H v1 v2 _ _ res Q h1 h2 e q)
theorem g_neT : Op2 K kl (fun x y H Q => rNe x y H Q ∨ rDat K pNe x y H Q) pNeT := by
  intro H v1 v2 x y res Q h1 h2 e q
  unfold pNeT at e
  split at e
  · cases h1; cases h2; cases e
    exact .inl ⟨rfl, by rw [str_dec]; exact q _ _ (Post.dat (.bl _))⟩
  · exact .inr (g_ne (kl := kl) H v1 v2 _ _ res Q h1 h2 e q)
end
def mPar3 (i j l : Nat) (bi bj bl : Bool) (ma : MA) : MS := fun env => match ma env with
  | .st => .st
  | .ex x e => .ex x e
  | .ok [r1, r2, r3] e => match qN i bi r1 e with
    | some e1 => match qN j bj r2 e1 with
      | some e2 => if okSt bl r3 = true then stOf (qN l bl r3 e2) else .st
      | none => .st
    | none => .st
  | _ => .st
theorem qN_some {i : Nat} {b : Bool} {r : R} {e e' : En} (h : qN i b r e = some e') : i < e.length ∧ notPl e[i]? = true ∧ okSt b r = true ∧ e' = e.set i (some r) := by
  unfold qN at h
  by_cases c : (decide (i < e.length) && notPl e[i]? && okSt b r) = true
  · rw [if_pos c] at h
    cases h
    simp only [Bool.and_eq_true, decide_eq_true_eq] at c
    exact ⟨c.1.1, c.1.2, c.2, rfl⟩
  · rw [if_neg c] at h; cases h
section
variable {X : Cx} {W : WX} {OW : Nat → Bool} {pos : Pos} {ma : MA}
theorem ds_par3 {i j l : Nat} {x y z : Str} {bi bj bl : Bool} {e1 e2 e3 : Expr} {px py pz pt : Pos} {kt k2 pt2} (hc : X.calm = true) (hN : X.N.Nodup) (hbi : bi = true → OW i = true) (hbj : bj = true → OW j = true) (hbl : bl = true → OW l = true) (ha : DA X W OW [e1, e2, e3] ma) (hij : i ≠ j := by decide) (hil : i ≠ l := by decide) (hjl : j ≠ l := by decide)
    (hi : X.N[i]? = some x := by rfl) (hj : X.N[j]? = some y := by rfl) (hl : X.N[l]? = some z := by rfl) (hx : X.env.scope.names.lookup x = some .local := by rfl) (hy : X.env.scope.names.lookup y = some .local := by rfl) (hz : X.env.scope.names.lookup z = some .local := by rfl)
    (hw : swappedStores [.Tuple [.Name x px, .Name y py, .Name z pz] kt pt] (.Tuple [e1, e2, e3] k2 pt2) X.env = pure (some [x, y, z]) := by rfl)
    (hs : swapsWithSole [.Tuple [.Name x px, .Name y py, .Name z pz] kt pt] (.Tuple [e1, e2, e3] k2 pt2) pos.line X.env = pure false := by rfl) :
    DS X W OW (.Assign [.Tuple [.Name x px, .Name y py, .Name z pz] kt pt] (.Tuple [e1, e2, e3] k2 pt2) pos) (mPar3 i j l bi bj bl ma) := by
  refine ps_le (ps_par3 hc hN hi hj hl hij hil hjl hx hy hz ha hw hs) fun D σ H ⟨H0, P, env, Rl, S⟩ => ⟨H0, P, env, [], Rl, ?_⟩
  unfold mPar3 at S
  cases h1 : ma env with
  | st => rw [h1] at S; exact S
  | ex x e => rw [h1] at S; exact fun c d H' R1 rx => S c d σ H' R1 rx
  | ok rs ea =>
    rw [h1] at S
    intro vs H1 hlen R1
    match rs, S, hlen, R1 with
    | [r1, r2, r3], S, hlen, R1 =>
      match vs, hlen, R1 with
      | [v1, v2, v3], _, R1 =>
        refine ⟨v1, v2, v3, rfl, ?_⟩
        simp only at S
        cases q1 : qN i bi r1 ea with
        | none => simp only [q1] at S; exact S.elim
        | some eb =>
          simp only [q1] at S
          cases q2 : qN j bj r2 eb with
          | none => simp only [q2] at S; exact S.elim
          | some ec =>
            simp only [q2] at S
            by_cases ok3 : okSt bl r3 = true
            · rw [if_pos ok3] at S
              cases q3 : qN l bl r3 ec with
              | none => rw [q3] at S; exact S.elim
              | some ed =>
                rw [q3] at S
                obtain ⟨a1, a2, a3, a4⟩ := qN_some q1
                obtain ⟨b1, b2, b3, b4⟩ := qN_some q2
                obtain ⟨c1, c2, c3, c4⟩ := qN_some q3
                obtain ⟨o1, o2, o3⟩ := okSt_ok a3
                obtain ⟨p1, p2, p3⟩ := okSt_ok b3
                obtain ⟨t1, t2, t3⟩ := okSt_ok c3
                subst a4 b4 c4
                have R2 := R1.store a1 a2 o1 o2 (fun p m w => by
                  have m' : p = (v2, r2) ∨ p = (v3, r3) := by simpa using m
                  rcases m' with m' | m'
                  · rw [m'] at w; exact p1 _ w
                  · rw [m'] at w; exact t1 _ w) fun o => hbi (o3 o)
                have R3 := R2.store b1 b2 p1 p2 (fun p m w => by
                  have m' : p = (v3, r3) := by simpa using m
                  rw [m'] at w; exact t1 _ w) fun o => hbj (p3 o)
                exact S _ _ (R3.store c1 c2 t1 t2 (fun p m => absurd m List.not_mem_nil) fun o => hbl (t3 o))
            · rw [if_neg ok3] at S; exact S.elim
end
end Pw

set_option Elab.async false
set_option linter.all false
set_option maxRecDepth 100000
set_option maxHeartbeats 2000000
/-! Pw: reckoning with programs over slots. -/
namespace Pw
open PySem PySem.Spec PyProof.Rows L2

/-! ### values that are data: a program that gives d and leaves the slots -/
/-- it gives r, the slots stay -/
def Ev (m : ME) (env : En) (r : R) : Prop := m env = .ok r env
def EvT (m : MT) (env : En) (b : Bool) : Prop := m env = .ok b env
def EvA (m : MA) (env : En) (rs : List R) : Prop := m env = .ok rs env
section
variable {env : En} {m ma mb mc : ME} {ta tb : MT} {as : MA} {r r1 r2 : R} {rs : List R} {x y z : D} {xs : List D} {a b : Bool} {kl kl' : Bool}
theorem ev_var {i : Nat} (h : env[i]? = some (some r) := by rfl) (ho : r.own = false := by rfl) : Ev (mVar i) env r := by
  unfold Ev mVar
  rw [h]
  simp only [ho, Bool.false_eq_true, if_false]
theorem ev_own {i : Nat} (h : env[i]? = some (some r) := by rfl) (ho : r.own = true := by rfl) : Ev (mVar i) env (.vr i) := by
  unfold Ev mVar
  rw [h]
  simp only [ho, if_true]
theorem ev_c : Ev (mC x) env (.d x) := rfl
theorem ev_m1 {g : D → Option R} (h : Ev m env r1) (hg : g x = some r) (hd : r1.dat kl env = some x := by rfl) : Ev (m1 kl g m) env r := by
  unfold Ev m1
  rw [show m env = .ok r1 env from h]
  simp only [Res.bind, hd, hg]
theorem ev_m2 {g : D → D → Option R} (h1 : Ev ma env r1) (h2 : Ev mb env r2) (hg : g x y = some r) (d1 : r1.dat kl env = some x := by rfl) (d2 : r2.dat kl env = some y := by rfl) : Ev (m2 kl g ma mb) env r := by
  unfold Ev m2
  rw [show ma env = .ok r1 env from h1]
  simp only [Res.bind]
  rw [show mb env = .ok r2 env from h2]
  simp only [d1, d2, hg]
theorem ea_nil : EvA mANil env [] := rfl
theorem ea_cons (h : Ev m env r) (ha : EvA as env rs) : EvA (mACons m as) env (r :: rs) := by
  unfold EvA mACons
  rw [show m env = .ok r env from h]
  simp only [Res.bind]
  rw [show as env = .ok rs env from ha]
theorem ev_mN {g : List D → Option R} (h : EvA as env rs) (hg : g xs = some r) (hd : datL kl env rs = some xs := by rfl) : Ev (mN kl g as) env r := by
  unfold Ev mN
  rw [show as env = .ok rs env from h]
  simp only [Res.bind, hd, hg]
theorem et_tst (h : Ev m env (.d (.bool a))) : EvT (mTst m) env a := by
  unfold EvT mTst
  rw [show m env = .ok _ env from h] <;> rfl
theorem et_and (h1 : EvT ta env a) (h2 : a = true → EvT tb env b) : EvT (mAndT ta tb) env (a && b) := by
  unfold EvT mAndT
  rw [show ta env = .ok a env from h1]
  cases a with
  | true => simpa [Res.bind, Ev, EvT] using h2 rfl
  | false => simp [Res.bind]
theorem et_or (h1 : EvT ta env a) (h2 : a = false → EvT tb env b) : EvT (mOrT ta tb) env (a || b) := by
  unfold EvT mOrT
  rw [show ta env = .ok a env from h1]
  cases a with
  | false => simpa [Res.bind, Ev, EvT] using h2 rfl
  | true => simp [Res.bind]
theorem et_not (h1 : EvT ta env a) : EvT (mNotT ta) env (!a) := by
  unfold EvT mNotT
  rw [show ta env = .ok a env from h1] <;> rfl
theorem ev_bv (h1 : EvT ta env a) : Ev (mBV ta) env (.d (.bool a)) := by
  unfold Ev mBV
  rw [show ta env = .ok a env from h1] <;> rfl
theorem ev_andB (h1 : EvT ta env a) (h2 : a = true → Ev mb env (.d (.bool b))) : Ev (mAndV ta mb) env (.d (.bool (a && b))) := by
  unfold Ev mAndV
  rw [show ta env = .ok a env from h1]
  cases a with
  | true => simpa [Res.bind, Ev, EvT] using h2 rfl
  | false => simp [Res.bind]
theorem ev_orB (h1 : EvT ta env a) (h2 : a = false → Ev mb env (.d (.bool b))) : Ev (mOrV ta mb) env (.d (.bool (a || b))) := by
  unfold Ev mOrV
  rw [show ta env = .ok a env from h1]
  cases a with
  | false => simpa [Res.bind, Ev, EvT] using h2 rfl
  | true => simp [Res.bind]
theorem ev_if (h1 : EvT ta env a) (h2 : a = true → Ev ma env r) (h3 : a = false → Ev mb env r) : Ev (mIf ta ma mb) env r := by
  unfold Ev mIf
  rw [show ta env = .ok a env from h1]
  cases a with
  | true => simpa [Res.bind, Ev, EvT] using h2 rfl
  | false => simpa [Res.bind, Ev, EvT] using h3 rfl
theorem ev_ch {g g' : D → D → Option R} {r3 : R} {y' : D} (h1 : Ev ma env r1) (h2 : Ev mb env r2) (h3 : a = true → Ev mc env r3) (hg : g x y = some (.d (.bool a))) (hg' : a = true → g' y' z = some (.d (.bool b)))
    (d1 : r1.dat kl env = some x := by rfl) (d2 : r2.dat kl env = some y := by rfl) (d2' : r2.dat kl' env = some y' := by rfl) (d3 : r3.dat kl' env = some z := by rfl) : Ev (mCh g g' kl kl' ma mb mc) env (.d (.bool (a && b))) := by
  unfold Ev mCh
  rw [show ma env = .ok r1 env from h1]
  simp only [Res.bind]
  rw [show mb env = .ok r2 env from h2]
  simp only [d1, d2, hg]
  cases a with
  | false => simp
  | true =>
    simp only [if_true]
    rw [show mc env = .ok r3 env from h3 rfl]
    simp only [d2', d3, hg' rfl, Bool.true_and]
/-- frozen already, or no own thing -/
theorem ev_frz (h : Ev m env (.d x)) : Ev (mFrz m) env (.d x) := by
  unfold Ev mFrz
  rw [show m env = .ok _ env from h] <;> rfl
theorem ev_frzL (h : Ev m env (.ol xs)) : Ev (mFrz m) env (.d (.list xs)) := by
  unfold Ev mFrz
  rw [show m env = .ok _ env from h] <;> rfl
theorem allD_map : ∀ xs : List D, allD (xs.map R.d) = some xs
  | [] => rfl
  | x :: xs => by
    show (allD (xs.map R.d)).map (fun ds => x :: ds) = _
    rw [allD_map xs] <;> rfl
theorem ev_tup (h : EvA as env rs) (hd : allD rs = some xs := by rfl) (hl : xs.length ≤ 16777216 := by simp) : Ev (mTup as) env (.d (.tuple xs)) := by
  unfold Ev mTup
  rw [show as env = .ok rs env from h]
  simp only [Res.bind, hd, if_pos hl]
theorem ev_lst (h : EvA as env rs) (hd : allD rs = some xs := by rfl) (hl : xs.length ≤ 16777216 := by simp) : Ev (mLst as) env (.ol xs) := by
  unfold Ev mLst
  rw [show as env = .ok rs env from h]
  simp only [Res.bind, hd, if_pos hl]
theorem ev_call {n : Nat} {mc : MS} {e' : En} (h : EvA as env rs) (hr : fRun mc (env0 n rs) = some (r, e')) (hd : rs.all isDK = true := by rfl) : Ev (mCall n mc as) env r := by
  unfold Ev mCall
  rw [show as env = .ok rs env from h]
  simp only [Res.bind, hd, if_true, hr]
theorem ev_callK {perm : List Nat} {n : Nat} {mc : MS} {e' : En} (h : EvA as env rs) (hr : fRun mc (env0 n (pick perm rs)) = some (r, e')) (hd : rs.all isDK = true := by rfl) : Ev (mCallK perm n mc as) env r := by
  unfold Ev mCallK
  rw [show as env = .ok rs env from h]
  simp only [Res.bind, hd, if_true, hr]
/-! ### statements -/
theorem run_ret {e' : En} (h : m env = .ok r e') (hr : (match r with | .vr _ => false | .pl _ => false | _ => true) = true := by rfl) : fRun (mRet m) env = some (r, e') := by
  unfold fRun mRet mThen
  rw [h]
  cases r <;> first | rfl | cases hr
theorem ret_ev {e' : En} (h : m env = .ok r e') (hr : (match r with | .vr _ => false | .pl _ => false | _ => true) = true := by rfl) : mRet m env = .rt r e' := by
  unfold mRet mThen
  rw [h]
  cases r <;> first | rfl | cases hr
theorem run_rt {ms : MS} {e' : En} (h : ms env = .rt r e') (hr : okRet r = true := by rfl) : fRun ms env = some (r, e') := by
  unfold fRun
  rw [h]
  simp only [hr, if_true]
theorem run_nx {ms : MS} {e' : En} (h : ms env = .nx e') : fRun ms env = some (.d .none, e') := by
  unfold fRun
  rw [h]
theorem seq_nx {p q : MS} {e' : En} {o : RS} (h : p env = .nx e') (h2 : q e' = o) : mSeq p q env = o := by
  unfold mSeq
  rw [h]
  exact h2
theorem seq_rt {p q : MS} {e' : En} (h : p env = .rt r e') : mSeq p q env = .rt r e' := by
  unfold mSeq
  rw [h]
theorem if_t {p q : MS} {e' : En} {o : RS} (h : ta env = .ok true e') (h2 : p e' = o) : mIfS ta p q env = o := by
  unfold mIfS mThenT
  rw [h]
  simpa using h2
theorem if_f {p q : MS} {e' : En} {o : RS} (h : ta env = .ok false e') (h2 : q e' = o) : mIfS ta p q env = o := by
  unfold mIfS mThenT
  rw [h]
  simpa using h2
theorem set_ev {q : MQ} {e' e2 : En} (h : m env = .ok r e') (hq : q r e' = some e2 := by rfl) : mSet q m env = .nx e2 := by
  unfold mSet mThen
  rw [h]
  show stOf (q r e') = _
  rw [hq] <;> rfl
theorem drp_ev {e' : En} (h : m env = .ok r e') : mDrp m env = .nx e' := by
  unfold mDrp mThen
  rw [h]
/-! ### comparisons of ints, of data -/
end
theorem okD_int (n : Nat) (i : Int) : okD n (.int i) = true := by cases n <;> simp [okD]
theorem okD_bool (n : Nat) (i : Bool) : okD n (.bool i) = true := by cases n <;> simp [okD]
theorem okD_none (n : Nat) : okD n .none = true := by cases n <;> simp [okD]
theorem pLe_int (i j : Int) : pLe (.int i) (.int j) = some (.d (.bool (decide (i ≤ j)))) := by
  unfold pLe pCmp
  rw [okD_int, okD_int]
  have e : (!ltD (.int j) (.int i)) = decide (i ≤ j) := by
    show (!decide (j < i)) = _
    by_cases h : i ≤ j
    · rw [decide_eq_true h, decide_eq_false (by omega)] <;> rfl
    · rw [decide_eq_false h, decide_eq_true (by omega)] <;> rfl
  dsimp only
  rw [e]
  simp [PySem.W.alike, notNone, bR]
theorem pLt_int (i j : Int) : pLt (.int i) (.int j) = some (.d (.bool (decide (i < j)))) := by
  unfold pLt pCmp
  rw [okD_int, okD_int]
  simp [PySem.W.alike, notNone, bR, ltD]
theorem pGt_int (i j : Int) : pGt (.int i) (.int j) = some (.d (.bool (decide (j < i)))) := by
  unfold pGt pCmp
  rw [okD_int, okD_int]
  simp [PySem.W.alike, notNone, bR, ltD]
theorem pGe_int (i j : Int) : pGe (.int i) (.int j) = some (.d (.bool (decide (j ≤ i)))) := by
  unfold pGe pCmp
  rw [okD_int, okD_int]
  have e : (!ltD (.int i) (.int j)) = decide (j ≤ i) := by
    show (!decide (i < j)) = _
    by_cases h : j ≤ i
    · rw [decide_eq_true h, decide_eq_false (by omega)] <;> rfl
    · rw [decide_eq_false h, decide_eq_true (by omega)] <;> rfl
  dsimp only
  rw [e]
  simp [PySem.W.alike, notNone, bR]
theorem pEq_int (i j : Int) : pEq (.int i) (.int j) = some (.d (.bool (decide (i = j)))) := by
  unfold pEq
  rw [okD_int, okD_int]
  simp only [Bool.and_self, if_true, bR, PyData.eqv, Bool.beq_eq_decide_eq]
theorem pNe_int (i j : Int) : pNe (.int i) (.int j) = some (.d (.bool (!decide (i = j)))) := by
  unfold pNe
  rw [okD_int, okD_int]
  simp only [Bool.and_self, if_true, bR, PyData.eqv, Bool.beq_eq_decide_eq]
/-! ### the kinds -/
theorem kit1 : kitB "NoneType" "int" = some false ∧ kitB "bool" "int" = some true ∧ kitB "int" "int" = some true ∧ kitB "str" "int" = some false ∧ kitB "list" "int" = some false ∧ kitB "tuple" "int" = some false := by decide +kernel
theorem kit2 : kitB "NoneType" "bool" = some false ∧ kitB "bool" "bool" = some true ∧ kitB "int" "bool" = some false ∧ kitB "str" "bool" = some false ∧ kitB "list" "bool" = some false ∧ kitB "tuple" "bool" = some false := by decide +kernel
theorem kit3 : kitB "NoneType" "str" = some false ∧ kitB "bool" "str" = some false ∧ kitB "int" "str" = some false ∧ kitB "str" "str" = some true ∧ kitB "list" "str" = some false ∧ kitB "tuple" "str" = some false := by decide +kernel
theorem kit4 : kitB "NoneType" "tuple" = some false ∧ kitB "bool" "tuple" = some false ∧ kitB "int" "tuple" = some false ∧ kitB "str" "tuple" = some false ∧ kitB "list" "tuple" = some false ∧ kitB "tuple" "tuple" = some true := by decide +kernel
theorem kit5 : kitB "NoneType" "list" = some false ∧ kitB "bool" "list" = some false ∧ kitB "int" "list" = some false ∧ kitB "str" "list" = some false ∧ kitB "list" "list" = some true ∧ kitB "tuple" "list" = some false := by decide +kernel
def isBl : D → Bool | .bool _ => true | _ => false
def isIn : D → Bool | .int _ => true | _ => false
def isSt : D → Bool | .str _ => true | _ => false
def isTu : D → Bool | .tuple _ => true | _ => false
def isLi : D → Bool | .list _ => true | _ => false
theorem isi_int {x : D} (h : noDict x = true) : isiD "int" x = some (.d (.bool (isBl x || isIn x))) := by
  obtain ⟨h1, h2, h3, h4, h5, h6⟩ := kit1
  cases x <;> first | (cases h; done) | simp only [isiD, noDict, if_true, tyD, h1, h2, h3, h4, h5, h6, Option.map_some, bR, isBl, isIn, Bool.or_true, Bool.true_or, Bool.or_false]
theorem isi_bool {x : D} (h : noDict x = true) : isiD "bool" x = some (.d (.bool (isBl x))) := by
  obtain ⟨h1, h2, h3, h4, h5, h6⟩ := kit2
  cases x <;> first | (cases h; done) | simp only [isiD, noDict, if_true, tyD, h1, h2, h3, h4, h5, h6, Option.map_some, bR, isBl]
theorem isi_str {x : D} (h : noDict x = true) : isiD "str" x = some (.d (.bool (isSt x))) := by
  obtain ⟨h1, h2, h3, h4, h5, h6⟩ := kit3
  cases x <;> first | (cases h; done) | simp only [isiD, noDict, if_true, tyD, h1, h2, h3, h4, h5, h6, Option.map_some, bR, isSt]
theorem isi_tuple {x : D} (h : noDict x = true) : isiD "tuple" x = some (.d (.bool (isTu x))) := by
  obtain ⟨h1, h2, h3, h4, h5, h6⟩ := kit4
  cases x <;> first | (cases h; done) | simp only [isiD, noDict, if_true, tyD, h1, h2, h3, h4, h5, h6, Option.map_some, bR, isTu]
theorem isi_list {x : D} (h : noDict x = true) : isiD "list" x = some (.d (.bool (isLi x))) := by
  obtain ⟨h1, h2, h3, h4, h5, h6⟩ := kit5
  cases x <;> first | (cases h; done) | simp only [isiD, noDict, if_true, tyD, h1, h2, h3, h4, h5, h6, Option.map_some, bR, isLi]
theorem isi2_lt {x : D} (h : noDict x = true) : isi2D "list" "tuple" x = some (.d (.bool (isLi x || isTu x))) := by
  obtain ⟨h1, h2, h3, h4, h5, h6⟩ := kit5
  obtain ⟨g1, g2, g3, g4, g5, g6⟩ := kit4
  cases x <;> first | (cases h; done) | simp only [isi2D, noDict, if_true, tyD, h1, h2, h3, h4, h5, h6, g1, g2, g3, g4, g5, g6, bR, isLi, isTu, Bool.or_true, Bool.true_or, Bool.or_false]
/-! ### comprehensions, loops -/
section
variable {q : MQ} {tt : MT} {me : ME} {vs : List Nat} {env : En}
/-- each item by itself, the slots as they were -/
theorem lc_map {f : D → Bool} {g : D → D} : ∀ {xs acc : List D}, (∀ x ∈ xs, ∃ e1, q (.d x) env = some e1 ∧ tt e1 = .ok (f x) e1 ∧ (f x = true → me e1 = .ok (.d (g x)) e1) ∧ wipeE e1 vs = env) → acc.length + xs.length ≤ 16777216 →
    lcGo q tt me vs acc xs env = .ok (acc ++ (xs.filter f).map g) env
  | [], acc, _, _ => by simp [lcGo]
  | x :: xs, acc, h, hl => by
    obtain ⟨e1, h1, h2, h3, h4⟩ := h x List.mem_cons_self
    have ht := fun y hy => h y (List.mem_cons_of_mem _ hy)
    simp only [List.length_cons] at hl
    unfold lcGo
    simp only [h1, h2]
    cases hf : f x with
    | false =>
      simp only [h4]
      rw [lc_map ht (by omega), List.filter_cons_of_neg (by rw [hf]; decide)]
    | true =>
      simp only [h3 hf]
      rw [if_pos (by omega), h4, lc_map ht (by simp only [List.length_append, List.length_singleton]; omega), List.filter_cons_of_pos hf]
      simp
/-- by a word on the slots -/
theorem lc_inv {Iv : En → Prop} {Y : D → Prop} : ∀ {xs acc : List D} {env : En}, Iv env → (∀ x ∈ xs, ∀ e, Iv e → ∃ e1 e2 y e3, q (.d x) e = some e1 ∧ tt e1 = .ok true e2 ∧ me e2 = .ok (.d y) e3 ∧ Iv (wipeE e3 vs) ∧ Y y) → acc.length + xs.length ≤ 16777216 →
    ∃ ys e', lcGo q tt me vs acc xs env = .ok (acc ++ ys) e' ∧ Iv e' ∧ ys.length = xs.length ∧ ∀ y ∈ ys, Y y
  | [], acc, env, h0, _, _ => ⟨[], env, by simp [lcGo], h0, rfl, fun y m => nomatch m⟩
  | x :: xs, acc, env, h0, h, hl => by
    obtain ⟨e1, e2, y, e3, h1, h2, h3, h4, h5⟩ := h x List.mem_cons_self env h0
    simp only [List.length_cons] at hl
    obtain ⟨ys, e', g1, g2, g3, g4⟩ := lc_inv (acc := acc ++ [y]) h4 (fun z hz => h z (List.mem_cons_of_mem _ hz)) (by simp only [List.length_append, List.length_singleton]; omega)
    refine ⟨y :: ys, e', ?_, g2, by simp [g3], fun z hz => ?_⟩
    · unfold lcGo
      simp only [h1, h2, h3]
      rw [if_pos (by omega), g1]
      simp
    · rcases List.mem_cons.mp hz with e | e
      · rw [e]; exact h5
      · exact g4 z e
theorem for_inv {Iv : Nat → En → Prop} {b : MS} : ∀ {xs : List D} {env : En} (i : Nat), Iv i env → (∀ j x e, xs[j]? = some x → Iv (i + j) e → ∃ e1, q (.d x) e = some e1 ∧ ∃ e2, b e1 = .nx e2 ∧ Iv (i + j + 1) e2) → ∃ e', forGo q b xs env = .nx e' ∧ Iv (i + xs.length) e'
  | [], env, i, h0, _ => ⟨env, rfl, h0⟩
  | x :: xs, env, i, h0, h => by
    obtain ⟨e1, h1, e2, h2, h3⟩ := h 0 x env rfl h0
    obtain ⟨e', g1, g2⟩ := for_inv (xs := xs) (env := e2) (i + 1) (by simpa using h3) fun j y e hy hi => by
      have z := h (j + 1) y e (by simpa using hy) (by rw [show i + (j + 1) = i + 1 + j by omega]; exact hi)
      rw [show i + (j + 1) + 1 = i + 1 + j + 1 by omega] at z
      exact z
    refine ⟨e', ?_, by rw [List.length_cons, show i + (xs.length + 1) = i + 1 + xs.length by omega]; exact g2⟩
    unfold forGo
    simp only [h1, h2]
    exact g1
end
end Pw

set_option Elab.async false
set_option linter.all false
set_option maxRecDepth 100000
set_option maxHeartbeats 2000000
/-! Pw: more reckoning: sources, comprehensions, places; small data. -/
namespace Pw
open PySem PySem.Spec PyProof.Rows L2
section
variable {env : En} {m ma mb : ME} {as : MA} {r r1 r2 : R} {xs ys : List D} {x y : D} {q : MQ} {tt : MT} {me : ME} {mi : MI} {vs : List Nat} {i j : Int}
theorem es_tup (h : Ev m env (.d (.tuple xs))) : mSq m env = .ok xs env := by
  unfold mSq
  rw [show m env = .ok _ env from h] <;> rfl
theorem es_lst (h : Ev m env (.d (.list xs))) : mSq m env = .ok xs env := by
  unfold mSq
  rw [show m env = .ok _ env from h] <;> rfl
theorem eg_1 (h : Ev m env (.d (.int i))) : mG1 m env = .ok (0, i) env := by
  unfold mG1
  rw [show m env = .ok _ env from h] <;> rfl
theorem eg_2 (h : Ev ma env (.d (.int i))) (h2 : Ev mb env (.d (.int j))) : mG2 ma mb env = .ok (i, j) env := by
  unfold mG2
  rw [show ma env = .ok _ env from h]
  simp only [Res.bind]
  rw [show mb env = .ok _ env from h2] <;> rfl
theorem rgOk_small {a b : Int} (h1 : 0 ≤ a) (h2 : a ≤ 1000000) (h3 : -1000000 ≤ b) (h4 : b ≤ 1000000) : rgOk a b = true := by
  unfold rgOk
  simp only [Bool.and_eq_true, decide_eq_true_eq]
  omega
theorem es_rg {g : MG} (h : g env = .ok (i, j) env) (ok : rgOk i j = true) : mRgI g env = .ok (rgD i j) env := by
  unfold mRgI
  rw [h]
  simp only [Res.bind, ok, if_true]
theorem ev_rgT {g : MG} (h : g env = .ok (i, j) env) (ok : rgOk i j = true) : Ev (mRgT g) env (.d (.tuple (rgD i j))) := by
  unfold Ev mRgT
  rw [h]
  simp only [Res.bind, ok, if_true]
theorem es_enum (h : mSq m env = .ok xs env) : mEnum m env = .ok (numD xs) env := by
  unfold mEnum
  rw [h] <;> rfl
theorem es_zipT (h : Ev ma env (.d (.tuple xs))) (h2 : Ev mb env (.d (.tuple ys))) : mZip ma mb env = .ok (zipD xs ys) env := by
  unfold mZip
  rw [show ma env = .ok _ env from h]
  simp only [Res.bind]
  rw [show mb env = .ok _ env from h2] <;> rfl
theorem ev_lc {f : D → Bool} {g : D → D} (hi : mi env = .ok xs env) (h : ∀ x ∈ xs, ∃ e1, q (.d x) env = some e1 ∧ tt e1 = .ok (f x) e1 ∧ (f x = true → me e1 = .ok (.d (g x)) e1) ∧ wipeE e1 vs = env) (hl : xs.length ≤ 16777216) (hw : wipeE env vs = env := by rfl) :
    Ev (mLc mi q tt me vs) env (.ol ((xs.filter f).map g)) := by
  unfold Ev mLc
  rw [hi]
  simp only [Res.bind, hw]
  rw [lc_map h (by simpa using hl)]
  simp
/-- no test -/
theorem ev_lcA {g : D → D} (hi : mi env = .ok xs env) (h : ∀ x ∈ xs, ∃ e1, q (.d x) env = some e1 ∧ me e1 = .ok (.d (g x)) e1 ∧ wipeE e1 vs = env) (hl : xs.length ≤ 16777216) (hw : wipeE env vs = env := by rfl) :
    Ev (mLc mi q mYes me vs) env (.ol (xs.map g)) := by
  have z := ev_lc (tt := mYes) (f := fun _ => true) (g := g) hi (fun x hx => by
    obtain ⟨e1, h1, h2, h3⟩ := h x hx
    exact ⟨e1, h1, rfl, fun _ => h2, h3⟩) hl hw
  rw [List.filter_eq_self.mpr (fun _ _ => rfl)] at z
  exact z
theorem ev_lcI {Iv : En → Prop} {Y : D → Prop} {env1 : En} (hi : mi env = .ok xs env1) (h0 : Iv (wipeE env1 vs)) (h : ∀ x ∈ xs, ∀ e, Iv e → ∃ e1 e2 y e3, q (.d x) e = some e1 ∧ tt e1 = .ok true e2 ∧ me e2 = .ok (.d y) e3 ∧ Iv (wipeE e3 vs) ∧ Y y) (hl : xs.length ≤ 16777216) :
    ∃ ys e', mLc mi q tt me vs env = .ok (.ol ys) e' ∧ Iv e' ∧ ys.length = xs.length ∧ ∀ y ∈ ys, Y y := by
  obtain ⟨ys, e', h1, h2, h3, h4⟩ := lc_inv (acc := []) h0 h (by simpa using hl)
  refine ⟨ys, e', ?_, h2, h3, h4⟩
  unfold mLc
  rw [hi]
  simp only [Res.bind]
  rw [h1]
  simp
end
theorem pAll_map {α : Type} (f : α → Bool) (l : List α) : pAll [.list (l.map fun x => PyData.bool (f x))] = some (.d (.bool (l.all f))) := by
  show (asBls (l.map fun x => PyData.bool (f x))).map (fun ns => bR (ns.all id)) = _
  have e : (l.map fun x => PyData.bool (f x)) = (l.map f).map PyData.bool := by rw [List.map_map]; rfl
  rw [e, asBls_of]
  simp [bR, List.all_map]
theorem pEqT_int (i j : Int) : pEqT (.int i) (.int j) = some (.d (.bool (decide (i = j)))) := pEq_int i j
theorem pNeT_int (i j : Int) : pNeT (.int i) (.int j) = some (.d (.bool (!decide (i = j)))) := pNe_int i j
theorem pEqT_str (a b : Str) : pEqT (.str a) (.str b) = some (.d (.bool (decide (a = b)))) := rfl
theorem pNeT_str (a b : Str) : pNeT (.str a) (.str b) = some (.d (.bool (!decide (a = b)))) := rfl
theorem pIs_none (x : D) : pIs x .none = some (.d (.bool (isN x))) := rfl
theorem pIsNot_none (x : D) : pIsNot x .none = some (.d (.bool (!isN x))) := rfl
theorem pIx_tup {xs : List D} {k : Nat} {y : D} (h : xs[k]? = some y) : pIx (.tuple xs) (.int (k : Nat)) = some (.d y) := by
  show (atI xs ((k : Nat) : Int)).map R.d = _
  rw [atI_nat h] <;> rfl
theorem pIx_lst {xs : List D} {k : Nat} {y : D} (h : xs[k]? = some y) : pIx (.list xs) (.int (k : Nat)) = some (.d y) := by
  show (atI xs ((k : Nat) : Int)).map R.d = _
  rw [atI_nat h] <;> rfl
theorem pIx_0 {x : D} {xs : List D} : pIx (.tuple (x :: xs)) (.int 0) = some (.d x) := pIx_tup (k := 0) rfl
theorem pIx_1 {w x : D} {xs : List D} : pIx (.tuple (w :: x :: xs)) (.int 1) = some (.d x) := pIx_tup (k := 1) rfl
theorem pIx_2 {u w x : D} {xs : List D} : pIx (.tuple (u :: w :: x :: xs)) (.int 2) = some (.d x) := pIx_tup (k := 2) rfl
theorem pIx_3 {t u w x : D} {xs : List D} : pIx (.tuple (t :: u :: w :: x :: xs)) (.int 3) = some (.d x) := pIx_tup (k := 3) rfl
theorem pLen_tup (xs : List D) : pLen [.tuple xs] = some (.d (.int xs.length)) := rfl
theorem pLen_lst (xs : List D) : pLen [.list xs] = some (.d (.int xs.length)) := rfl
theorem pAdd_int (i j : Int) : pAdd (.int i) (.int j) = some (.d (.int (i + j))) := rfl
theorem pSub_int (i j : Int) : pSub (.int i) (.int j) = some (.d (.int (i - j))) := rfl
theorem pMul_int {i j : Int} (h : small64 i = true ∨ small64 j = true) : pMul (.int i) (.int j) = some (.d (.int (i * j))) := by
  show (if (small64 i || small64 j) = true then some (R.d (.int (i * j))) else none) = _
  rw [if_pos]
  rcases h with h | h <;> simp [h]
theorem pMod_int {i j : Int} (h : 0 < j) : pMod (.int i) (.int j) = some (.d (.int (i % j))) := by
  show (if 0 < j then some (R.d (.int (i % j))) else none) = _
  rw [if_pos h]
theorem pDiv_int {i j : Int} (h : 0 < j) (h2 : j < 1073741824) : pDiv (.int i) (.int j) = some (.d (.int (i / j))) := by
  show (if (decide (0 < j) && decide (j < 1073741824)) = true then some (R.d (.int (i / j))) else none) = _
  rw [if_pos (by simp [h, h2])]
theorem small64_of {i : Int} (h : -18446744073709551616 < i) (h2 : i < 18446744073709551616) : small64 i = true := by
  unfold small64
  simp only [Bool.and_eq_true, decide_eq_true_eq]
  exact ⟨h, h2⟩

/-! ### data within bounds: lengths by the level, ints small, words of few -/
def okW (x : Str) : Bool := decide (x ∈ (["up", "down", "off", "run", "bells", "x", "method", "splice"] : List Str))
def bdl : List Nat → D → Bool
  | _, .none => true
  | _, .bool _ => true
  | _, .int i => decide (-1 ≤ i) && decide (i ≤ 99)
  | _, .str x => okW x
  | [], .list _ => false
  | [], .tuple _ => false
  | L :: Ls, .list xs => decide (xs.length ≤ L) && xs.attach.all fun x => bdl Ls x.1
  | L :: Ls, .tuple xs => decide (xs.length ≤ L) && xs.attach.all fun x => bdl Ls x.1
  | _, .dict _ => false
termination_by l _ => l.length
theorem bdl_list {L : Nat} {Ls : List Nat} {xs : List D} : bdl (L :: Ls) (.list xs) = true ↔ xs.length ≤ L ∧ ∀ x ∈ xs, bdl Ls x = true := by
  rw [bdl]
  simp
theorem bdl_tuple {L : Nat} {Ls : List Nat} {xs : List D} : bdl (L :: Ls) (.tuple xs) = true ↔ xs.length ≤ L ∧ ∀ x ∈ xs, bdl Ls x = true := by
  rw [bdl]
  simp
theorem bdl_int {Ls : List Nat} {i : Int} : bdl Ls (.int i) = true ↔ -1 ≤ i ∧ i ≤ 99 := by
  cases Ls <;> (rw [bdl]; simp)
theorem bdl_str {Ls : List Nat} {x : Str} : bdl Ls (.str x) = okW x := by
  cases Ls <;> rw [bdl]
theorem bdl_none {Ls : List Nat} : bdl Ls .none = true := by
  cases Ls <;> rw [bdl]
theorem bdl_bool {Ls : List Nat} {b : Bool} : bdl Ls (.bool b) = true := by
  cases Ls <;> rw [bdl]
theorem bdl_dict {Ls : List Nat} {b : List (D × D)} : bdl Ls (.dict b) = false := by
  cases Ls <;> rw [bdl]
theorem bdl_nolist {xs : List D} : bdl [] (.list xs) = false := by rw [bdl]
theorem bdl_notuple {xs : List D} : bdl [] (.tuple xs) = false := by rw [bdl]
theorem bdl_noDict {Ls : List Nat} {x : D} (h : bdl Ls x = true) : noDict x = true := by
  cases x with
  | dict kvs => rw [bdl_dict] at h; cases h
  | _ => rfl
/-- the weight at most -/
def wl : List Nat → Nat
  | [] => 14
  | L :: Ls => max 14 (L * (wl Ls + 1))
theorem okW_all : ∀ x ∈ (["up", "down", "off", "run", "bells", "x", "method", "splice"] : List Str), PyData.strOk x = true ∧ x.cps.size ≤ 14 := by decide +kernel
theorem wl_ge : ∀ Ls : List Nat, 14 ≤ wl Ls
  | [] => Nat.le_refl _
  | L :: Ls => Nat.le_max_left _ _
theorem int_small : ∀ k : Fin 101, (PyData.shown (.int ((k.1 : Int) - 1))).length ≤ 13 := by decide +kernel
theorem int_show {i : Int} (h1 : -1 ≤ i) (h2 : i ≤ 99) : (PyData.shown (.int i)).length ≤ 13 := by
  have z := int_small ⟨(i + 1).toNat, by omega⟩
  have e : (((i + 1).toNat : Nat) : Int) - 1 = i := by omega
  simp only [e] at z
  exact z
theorem log_small {i : Int} (h1 : -1 ≤ i) (h2 : i ≤ 99) : i.natAbs.log2 ≤ 6 := by
  have h : i.natAbs < 2 ^ 7 := by
    have : i.natAbs ≤ 99 := by omega
    omega
  by_cases h0 : i.natAbs = 0
  · rw [h0]; decide
  · have := (Nat.log2_lt h0).mpr h
    omega
theorem wAll {c : Nat} : ∀ {xs : List D}, (∀ x ∈ xs, PyData.weight x ≤ c) → PyData.weightAll xs ≤ xs.length * (c + 1)
  | [], _ => by simp [PyData.weightAll]
  | x :: xs, h => by
    have h1 := h x List.mem_cons_self
    have h2 := wAll (c := c) fun y hy => h y (List.mem_cons_of_mem _ hy)
    simp only [PyData.weightAll, List.length_cons, Nat.add_mul, Nat.one_mul]
    omega
structure Good (n w : Nat) (d : D) : Prop where
  ok : okD n d = true
  sh : d.showable = true
  is : d.intsShort 13 = true
  we : PyData.weight d ≤ w
theorem bdl_good : ∀ (Ls : List Nat) (d : D), bdl Ls d = true → Good Ls.length (wl Ls) d
  | Ls, .none, _ => ⟨okD_none _, by simp [PyData.showable], by simp [PyData.intsShort], by simp [PyData.weight]⟩
  | Ls, .bool b, _ => ⟨okD_bool _ b, by simp [PyData.showable], by simp [PyData.intsShort], by simp [PyData.weight]⟩
  | Ls, .int i, h => by
    obtain ⟨h1, h2⟩ := bdl_int.mp h
    have hl := log_small h1 h2
    refine ⟨okD_int _ i, by simp [PyData.showable]; omega, by simpa [PyData.intsShort] using int_show h1 h2, ?_⟩
    have := wl_ge Ls
    simp only [PyData.weight]
    split <;> omega
  | Ls, .str x, h => by
    rw [bdl_str] at h
    obtain ⟨h1, h2⟩ := okW_all x (by simpa [okW] using h)
    exact ⟨by cases Ls.length <;> simpa [okD] using h1, by simp [PyData.showable], by simp [PyData.intsShort], by
      have := wl_ge Ls
      simp only [PyData.weight]
      omega⟩
  | [], .list xs, h => by rw [bdl_nolist] at h; cases h
  | [], .tuple xs, h => by rw [bdl_notuple] at h; cases h
  | Ls, .dict kvs, h => by rw [bdl_dict] at h; cases h
  | L :: Ls, .list xs, h => by
    obtain ⟨h1, h2⟩ := bdl_list.mp h
    have g := fun x hx => bdl_good Ls x (h2 x hx)
    refine ⟨?_, ?_, ?_, ?_⟩
    · show okD (Ls.length + 1) (.list xs) = true
      simpa [okD] using okDs_all.mpr fun x hx => (g x hx).ok
    · simp only [PyData.showable]
      clear h h1
      induction xs with
      | nil => simp [PyData.showableAll]
      | cons x xs ih => simp [PyData.showableAll, (g x List.mem_cons_self).sh, ih (fun y hy => h2 y (List.mem_cons_of_mem _ hy)) (fun y hy => g y (List.mem_cons_of_mem _ hy))]
    · simp only [PyData.intsShort]
      clear h h1
      induction xs with
      | nil => simp [PyData.intsShortAll]
      | cons x xs ih => simp [PyData.intsShortAll, (g x List.mem_cons_self).is, ih (fun y hy => h2 y (List.mem_cons_of_mem _ hy)) (fun y hy => g y (List.mem_cons_of_mem _ hy))]
    · have z := wAll fun x hx => (g x hx).we
      have z2 := Nat.mul_le_mul_right (wl Ls + 1) h1
      simp only [PyData.weight, wl]
      omega
  | L :: Ls, .tuple xs, h => by
    obtain ⟨h1, h2⟩ := bdl_tuple.mp h
    have g := fun x hx => bdl_good Ls x (h2 x hx)
    refine ⟨?_, ?_, ?_, ?_⟩
    · show okD (Ls.length + 1) (.tuple xs) = true
      simpa [okD] using okDs_all.mpr fun x hx => (g x hx).ok
    · simp only [PyData.showable]
      clear h h1
      induction xs with
      | nil => simp [PyData.showableAll]
      | cons x xs ih => simp [PyData.showableAll, (g x List.mem_cons_self).sh, ih (fun y hy => h2 y (List.mem_cons_of_mem _ hy)) (fun y hy => g y (List.mem_cons_of_mem _ hy))]
    · simp only [PyData.intsShort]
      clear h h1
      induction xs with
      | nil => simp [PyData.intsShortAll]
      | cons x xs ih => simp [PyData.intsShortAll, (g x List.mem_cons_self).is, ih (fun y hy => h2 y (List.mem_cons_of_mem _ hy)) (fun y hy => g y (List.mem_cons_of_mem _ hy))]
    · have z := wAll fun x hx => (g x hx).we
      have z2 := Nat.mul_le_mul_right (wl Ls + 1) h1
      simp only [PyData.weight, wl]
      omega
theorem bdl_show {Ls : List Nat} {d : D} (h : bdl Ls d = true) (hn : Ls.length ≤ 40) (hw : wl Ls ≤ 1048576) : showAll d = true := by
  obtain ⟨h1, h2, h3, h4⟩ := bdl_good Ls d h
  obtain ⟨l1, l2⟩ := okD_lay _ d h1
  have lay : PyData.layable0 d = true := by
    show (PyData.canLay0 d && decide (PyData.depth d ≤ 64) && decide (PyData.weight d ≤ 2 ^ 20)) = true
    simp only [Bool.and_eq_true, decide_eq_true_eq]
    exact ⟨⟨l1, by omega⟩, by omega⟩
  have z := PyProof.Rows.shown_le13 lay h3
  unfold showAll
  simp only [Bool.and_eq_true, decide_eq_true_eq]
  exact ⟨⟨okD_mono hn h1, h2⟩, by omega⟩
theorem bdl_ok {Ls : List Nat} {d : D} (h : bdl Ls d = true) (hn : Ls.length ≤ 40 := by decide) : okD 40 d = true := okD_mono hn (bdl_good Ls d h).ok
end Pw

set_option Elab.async false
set_option linter.all false
set_option maxRecDepth 100000
set_option maxHeartbeats 2000000
/-! Pw: sorted of any data that can be compared. -/
namespace Pw
open PySem PySem.Spec PyProof.Rows L2 PySem.W PySem.SeqAt

section
variable {prog : Program} {w : World} {A : Around} {E : Value → Shared → Prop} {s : Shared}
theorem tup_lt_call {Q : Value → Shared → Prop} {l b : Addr} {items items2 : Array Value} {e r : Nat → Bool} (hl : s.heap.IsTuple l items) (hb : s.heap.IsTuple b items2)
    (he : ∀ j (h1 : j < items.size) (h2 : j < items2.size), EqAt A.in1 s items[j] items2[j] (e j))
    (hr : ∀ j (h1 : j < items.size) (h2 : j < items2.size), e j = false → RcLt A.in1 s items[j] items2[j] (r j))
    (h : Q (.bool (firstLt e r (decide (items.size < items2.size)) (List.range (min items.size items2.size)))) s) : wpAny (model prog w) A (call (.builtin "tuple.__lt__") [.ref l, .ref b]) Q E s := by
  obtain ⟨⟨c1, d1, u1, z1⟩, p1, q1, n1, t1⟩ := id hl
  obtain ⟨⟨c2, d2, u2, z2⟩, p2, q2, n2, t2⟩ := id hb
  simp only at q1 t1 q2 t2
  subst q1 t1 q2 t2
  exact call_meets F.slot_tuple_lt ⟨_, p1, rfl⟩ F.entry_tuple_lt (F.args_tuple_lt_2 _ _) (tuple_ltAt l b items items2 n1 n2 d1 d2 z1 z2 e r) ⟨p1, p2, he, hr, h⟩
/-- one key against another that is a tuple, too -/
theorem one_tup {f : Bool} {xs ys : List D} {a b : Value} {as bs : List Addr} {Q : Bool → Shared → Prop} (ra : Reads s.heap a (.tuple xs) as) (rb : Reads s.heap b (.tuple ys) bs) (h : alike (PyData.tuple xs) (.tuple ys) = true)
    (hu : A.units + min (PyData.tuple xs).depth (PyData.tuple ys).depth < cLine) (hq : Q (dataLt (.tuple xs) (.tuple ys)) s) : wpAny (model prog w) A (oneLt' f a b) Q E s := by
  cases f with
  | false => exact oneLt_alike (fun z => nomatch z) ra rb h (fun z => nomatch z) hu hq
  | true =>
    have hal : alikeAll xs ys = true := by simpa [alike] using h
    cases ra with
    | @tuple l o vs n _ as₁ h1 h2 h3 h4 =>
      cases rb with
      | @tuple l' o' vs' n' _ bs₁ k1 k2 k3 k4 =>
        have m1 : vs.size = xs.length := by simpa using ReadsAll.length _ _ _ h4
        have m2 : vs'.size = ys.length := by simpa using ReadsAll.length _ _ _ k4
        rw [dataLt_tuple, ← firstLt_toks xs ys hal, ← m1, ← m2] at hq
        rw [oneLt'_eq]
        simp only [if_true]
        refine wpAny_bind (wpAny_cRoomFor (room_here hu) ?_)
        refine wpAny_bind (wpAny_callSpecialIfBound?_slot (T := "tuple") ⟨_, h1, h2⟩ F.slot_tuple_lt (tup_lt_call (e := pairEq xs ys) (r := fun j => dataLt (xs.getD j .none) (ys.getD j .none)) ⟨_, h1, h2, _, h3⟩ ⟨_, k1, k2, _, k3⟩ (fun j j1 j2 => ?_) (fun j j1 j2 hj => ?_) ?_))
        · have := eqAt_alikeAll xs ys A.in1 s vs.toList vs'.toList _ _ h4 k4 hal (room_in hu) j (by simpa using j1) (by simpa using j2)
          simpa using this
        · have := rcLt_alikeAll xs ys A.in1 s vs.toList vs'.toList _ _ h4 k4 hal (room_in hu) j (by simpa using j1) (by simpa using j2) hj
          simpa using this
        · exact wpAny_truthy_bool hq
/-- the first items of tuples, where there are such -/
theorem firsts_tup {M : Model} : ∀ {vs : List Value} {ds : List D} {Q : List (Option Value) → Shared → Prop}, EachIs (fun v d => ∃ as, Reads s.heap v d as) vs ds → (∀ d ∈ ds, ∃ xs, d = .tuple xs) →
    (∀ fs : List (Option Value), fs.length = vs.length → (∀ (i : Nat) (xs : List D), ds[i]? = some (PyData.tuple xs) → ∃ o : Option Value, fs[i]? = some o ∧ o.isSome = !xs.isEmpty) → Q fs s) → wpAny M A (vs.mapM firstOfTuple') Q E s
  | [], _, Q, e, _, h => by
    cases e
    rw [List.mapM_nil]
    exact wpAny_pure (h [] rfl fun i xs z => by simp at z)
  | v :: vs, _, Q, .cons (b := d) (bs := ds) ⟨as, r⟩ t, ht, h => by
    obtain ⟨xs, rfl⟩ := ht _ List.mem_cons_self
    cases r with
    | @tuple a o its n _ _ h1 h2 h3 h4 =>
      rw [List.mapM_cons]
      refine wpAny_bind ?_
      rw [kas_first_eq]
      refine wpAny_bind (Looks.here (show Looks M s.heap (typeOf (.ref a)) o.cls from (Looks.ld h1).andThen .now) ?_)
      rw [h2, if_neg (by first | decide | simp)]
      refine wpAny_bind (listItems_at h1 h3 (wpAny_pure ?_))
      refine wpAny_bind (firsts_tup t (fun d hd => ht d (List.mem_cons_of_mem _ hd)) fun fs hl hf => wpAny_pure (h _ (by rw [List.length_cons, List.length_cons, hl]) fun i ys e => ?_))
      cases i with
      | zero =>
        have e' : PyData.tuple xs = .tuple ys := Option.some.inj e
        injection e' with e'
        subst e'
        refine ⟨_, rfl, ?_⟩
        have hl2 := ReadsAll.length _ _ _ h4
        cases xs with
        | nil =>
          have z : its.size = 0 := by simpa using hl2
          have z2 : its[0]? = none := Array.getElem?_eq_none (by omega)
          rw [z2] <;> rfl
        | cons x xs =>
          have z : its.size = xs.length + 1 := by simpa using hl2
          have z2 : 0 < its.size := by omega
          rw [Array.getElem?_eq_getElem z2] <;> rfl
      | succ i => exact hf i ys (by simpa using e)
theorem all_tuples {d : D} {ds : List D} (hal : AllAlike ds) (hd : d ∈ ds) {xs : List D} (e : d = .tuple xs) : ∀ d' ∈ ds, ∃ ys, d' = .tuple ys := fun d' hd' => by
  have q := hal _ hd _ hd'
  subst e
  cases d' with
  | tuple ys => exact ⟨ys, rfl⟩
  | _ => exact absurd q (by simp [alike])
theorem sorts_any {vs : List Value} {ds : List D} (e : EachIs (fun v d => ∃ as, Reads s.heap v d as) vs ds) (hal : AllAlike ds) (hn : ∀ d ∈ ds, d ≠ .none) (hu : ∀ d, d ∈ ds → A.units + d.depth < cLine) :
    SortsAt prog w A s (dataKind s.heap ds) vs := by
  by_cases hs : Sortable ds
  · exact SortsAt.data e hal hs hu
  have hex : ∃ d ∈ ds, ∃ xs, d = .tuple xs := by
    apply Classical.byContradiction
    intro no
    exact hs (.inr fun d hd => ⟨hn d hd, fun xs z => no ⟨d, hd, xs, z⟩⟩)
  obtain ⟨d₁, hd₁, x₁, e₁⟩ := hex
  have ht := all_tuples hal hd₁ e₁
  have room : ∀ {d d' : D}, d ∈ ds → A.units + min d.depth d'.depth < cLine := fun {d d'} hd => Nat.lt_of_le_of_lt (Nat.add_le_add_left (Nat.min_le_left _ _) _) (hu d hd)
  have lt : ∀ f, PyProof.Rows.H.LtAt prog w A s (dataKind s.heap ds) (if f = true then oneType' else general') := fun f => by
    intro E x y a b Q ha hb hq
    obtain ⟨d, as, hd, ra, rfl⟩ := dataKind_inv ha
    obtain ⟨d', bs, hd', rb, rfl⟩ := dataKind_inv hb
    obtain ⟨xs, rfl⟩ := ht d hd
    obtain ⟨ys, rfl⟩ := ht d' hd'
    have go := one_tup (prog := prog) (w := w) (A := A) (E := E) (f := f) ra rb (hal _ hd _ hd') (room hd) hq
    cases f with
    | true =>
      simp only [if_true]
      rw [keyLt'_oneType]
      exact go
    | false =>
      simp only [Bool.false_eq_true, if_false]
      exact go
  refine ⟨fun v hv => ?_, ?_⟩
  · obtain ⟨d, hd, as, r⟩ := e.left v hv
    exact ⟨_, dataKind_some hal hd r⟩
  cases ds with
  | nil => exact absurd hd₁ (by simp)
  | cons d₀ ds₀ =>
    obtain ⟨x₀, rfl⟩ := ht d₀ List.mem_cons_self
    have bad : ∃ i : Nat, (PyData.tuple x₀ :: ds₀)[i]? = some (.tuple []) := by
      apply Classical.byContradiction
      intro no
      refine hs (.inl fun d hd => ?_)
      obtain ⟨xs, rfl⟩ := ht d hd
      cases xs with
      | nil =>
        obtain ⟨i, hi⟩ := List.mem_iff_getElem?.mp hd
        exact absurd ⟨i, hi⟩ no
      | cons x r => exact ⟨x, r, rfl⟩
    refine ⟨if x₀.isEmpty = true then oneType' else general', lt _, fun h2 E Q hq => ?_⟩
    rw [kat_kind_eq, List.mapM_toArray, map_eq_pure_bind]
    refine wpAny_bind (wpAny_bind (firsts_tup e ht fun fs hl hf => wpAny_pure ?_))
    have hall : ¬ (fs.toArray.all fun x => x.isSome) = true := by
      obtain ⟨i, hi⟩ := bad
      obtain ⟨o, h1, h2⟩ := hf i _ hi
      intro z
      rw [List.all_toArray, List.all_eq_true] at z
      have := z o (List.mem_of_getElem? h1)
      rw [h2] at this
      cases this
    rw [if_neg hall]
    obtain ⟨o, ho, hs2⟩ := hf 0 x₀ rfl
    have hfirst : (fs.toArray[0]?.bind id).isSome = !x₀.isEmpty := by
      rw [List.getElem?_toArray, ho]
      exact hs2
    rw [hfirst]
    cases hx : x₀.isEmpty with
    | false =>
      rw [hx] at hq
      simp only [Bool.not_false, if_true]
      exact wpAny_pure (by simpa using hq)
    | true =>
      rw [hx] at hq
      simp only [Bool.not_true, Bool.false_eq_true, if_false]
      rw [oneTypeOnly'_eq, List.mapM_toArray, map_eq_pure_bind]
      refine wpAny_bind (wpAny_bind (wpAny_bind (kas_mapM (r := Value.type "tuple") _ (fun v hv Q' hq' => ?_) (wpAny_pure ?_))))
      · obtain ⟨d, hd, as, r⟩ := e.left v hv
        obtain ⟨xs, rfl⟩ := ht d hd
        exact (looks_reads r).here hq'
      · obtain ⟨v₀, vr, rfl⟩ : ∃ v₀ vr, vs = v₀ :: vr := by
          cases vs with
          | nil => simp at h2
          | cons a b => exact ⟨a, b, rfl⟩
        have z : ((List.map (fun _ => Value.type "tuple") (v₀ :: vr)).toArray.all fun x => x == Value.type "tuple") = true := by
          simp only [List.all_toArray, List.all_map, List.all_eq_true]
          intro _ _
          rfl
        have z0 : (List.map (fun _ => Value.type "tuple") (v₀ :: vr)).toArray[0]? = some (Value.type "tuple") := by simp
        rw [z0]
        simp only [z, if_true]
        exact wpAny_pure (wpAny_pure (by simpa using hq))
end
end Pw

set_option Elab.async false
set_option linter.all false
set_option maxRecDepth 100000
set_option maxHeartbeats 2000000
/-! Pw: sorted(list of data), sorted(dict with tuple keys), list(dict). -/
namespace Pw
open PySem PySem.Spec PyProof.Rows L2 PySem.W

def leD (a b : D) : Bool := !ltD b a
def sortOk (xs : List D) : Bool := okDs 40 xs && (xs.all fun x => xs.all fun y => alike x y) && xs.all notNone
theorem sortOk_spec {xs : List D} (h : sortOk xs = true) : okDs 40 xs = true ∧ AllAlike xs ∧ ∀ d ∈ xs, d ≠ .none := by
  unfold sortOk at h
  simp only [Bool.and_eq_true] at h
  refine ⟨h.1.1, fun d hd d' hd' => ?_, fun d hd => notNone_ne (List.all_eq_true.mp h.2 d hd)⟩
  exact List.all_eq_true.mp (List.all_eq_true.mp h.1.2 d hd) d' hd'
/-- abstract values with the data that they stand for -/
abbrev VD := List (V × D)
def lePair (p q : V × D) : Bool := leD p.2 q.2
theorem lePair_le : dataLe false (fun p : V × D => p.2) = lePair := by
  funext a b
  show (!dataLt b.2 a.2) = !ltD b.2 a.2
  rw [ltD_eq]
theorem sort_snd (ps : VD) : (ps.mergeSort lePair).map (·.2) = (ps.map (·.2)).mergeSort leD := List.map_mergeSort fun _ _ _ _ => rfl
section
variable {prog : Program} {w : World} {A : Around} {E : Value → Shared → Prop} {s : Shared}
/-- the items read as the data, wherever the heap has grown to -/
theorem sorts_pairs {h' : Heap} {vs : List Value} {ps : VD} (e : EachIs (fun v (p : V × D) => ∃ as, Reads h' v p.2 as) vs ps) (hal : AllAlike (ps.map (·.2))) (hn : ∀ d ∈ ps.map (·.2), d ≠ .none) (hd : okDs 40 (ps.map (·.2)) = true) (hu : A.units + 42 < cLine) :
    SortsAt prog w A { s with heap := h' } (dataKind h' (ps.map (·.2))) vs :=
  sorts_any (s := { s with heap := h' }) (each_map (R := fun v d => ∃ as, Reads h' v d as) (fun p : V × D => p.2) e) hal hn fun d m => by
    have := (okD_lay 40 d (okDs_all.mp hd d m)).2
    omega
theorem sorted_pairs {l : Addr} {vs : List Value} {ps : VD} {Q : Value → Shared → Prop} (hl : s.heap.IsList l vs.toArray) (e : EachIs (fun v (p : V × D) => RelV p.1 v) vs ps) (er : EachIs (fun v (p : V × D) => ∃ as, Reads s.heap v p.2 as) vs ps)
    (hal : AllAlike (ps.map (·.2))) (hn : ∀ d ∈ ps.map (·.2), d ≠ .none) (hd : okDs 40 (ps.map (·.2)) = true) (hL : ps.length ≤ sizeLine) (hu : A.units + 44 < cLine)
    (h : ∀ out, out.length = ps.length → EachIs (fun v (p : V × D) => RelV p.1 v) out (ps.mergeSort lePair) → Q (.ref (s.heap.objs.size + 1)) { s with heap := sortedAll s.heap vs (List.toArray out) }) :
    wpAny (model prog w) A (call (.builtin "sorted") [.ref l]) Q E s := by
  have er' : EachIs (fun v (p : V × D) => ∃ as, Reads (sortingHeap (copyHeap s.heap vs) (s.heap.objs.size + 1) vs) v p.2 as) vs ps := er.mono fun _ _ ⟨as, r⟩ => ⟨as, PyProof.Rows.Reads.keeps (fun _ _ => sorting_copy_old) r⟩
  have fin := sortVals_data (enc := fun p : V × D => p.2) false e er' hal
  rw [lePair_le] at fin
  exact sorted_vals hl (sorts_pairs er' hal hn hd (by show A.units + 2 + 42 < cLine; omega)) (by rw [e.length]; exact hL) (h _ (by rw [sortVals_length false rfl]; exact e.length) fin)
end
theorem each_vals : ∀ {ps : VD} {us : List Value}, Vals (ps.map (·.1)) us → EachIs (fun v (p : V × D) => RelV p.1 v) us ps
  | [], _, h => by cases h; exact .nil
  | p :: ps, _, .cons r t => .cons r (each_vals t)
theorem vals_each : ∀ {ps : VD} {us : List Value}, EachIs (fun v (p : V × D) => RelV p.1 v) us ps → Vals (ps.map (·.1)) us
  | _, _, .nil => .nil
  | _, _, .cons r t => .cons r (vals_each t)
theorem each_reads {X : Cx} {pins : List (Addr × Obj)} {σ : L2.St} {H : Hp} {s : Shared} (I : Inv X pins σ H s) : ∀ {ps : VD} {us : List Value}, Vals (ps.map (·.1)) us → (∀ p ∈ ps, RD H p.1 p.2) → okDs 40 (ps.map (·.2)) = true → EachIs (fun v (p : V × D) => ∃ as, Reads s.heap v p.2 as) us ps
  | [], _, h, _, _ => by cases h; exact .nil
  | p :: ps, _, .cons r t, hr, hd => by
    have hd' : okD 40 p.2 = true ∧ okDs 40 (ps.map (·.2)) = true := by simpa [okDs] using hd
    exact .cons (Dp.reads I p.2 p.1 _ ((hr p List.mem_cons_self).dp 40 hd'.1) r) (each_reads I t (fun q m => hr q (List.mem_cons_of_mem _ m)) hd'.2)
theorem rds_zip {H : Hp} : ∀ {vs : List V} {ds : List D}, RDs H vs ds → (vs.zip ds).map (·.1) = vs ∧ (vs.zip ds).map (·.2) = ds ∧ ∀ p ∈ vs.zip ds, RD H p.1 p.2
  | _, _, .nil => ⟨rfl, rfl, fun p h => nomatch h⟩
  | v :: vs, d :: ds, .cons r t => by
    obtain ⟨a, b, c⟩ := rds_zip t
    refine ⟨by simp [a], by simp [b], fun p m => ?_⟩
    rcases List.mem_cons.mp m with e | e
    · subst e; exact r
    · exact c p e
theorem rds_of : ∀ {H : Hp} {ps : VD}, (∀ p ∈ ps, RD H p.1 p.2) → RDs H (ps.map (·.1)) (ps.map (·.2))
  | _, [], _ => .nil
  | _, p :: ps, h => .cons (h p List.mem_cons_self) (rds_of fun q m => h q (List.mem_cons_of_mem _ m))
def pSorted : List D → Option R
  | [.list xs] => if sortOk xs = true then some (.ol (xs.mergeSort leD)) else none
  | _ => none
def rSortD (K : PySem.W.Frag) : List V → Hp → VK → Prop := fun us H Q => ∃ (a : Addr) (ps : VD), us = [V.ref a] ∧ SqL K H a (ps.map (·.1)) ∧ (∀ p ∈ ps, RD H p.1 p.2) ∧ sortOk (ps.map (·.2)) = true ∧
  ∀ p, H p = none → Q (.ref p) (upd H p (.lst ((ps.mergeSort lePair).map (·.1))))
section
variable {X : Cx} {K : PySem.W.Frag}
theorem o_sorted (hu : X.A.units + 64 < cLine) : CallR X (.builtin "sorted") (rSortD X.K) := by
  intro pins s σ H vs us Q I r h
  obtain ⟨a, ps, rfl, hs, hr, ho, q⟩ := h
  obtain ⟨its, rv, hl, hz⟩ := I.list hs
  obtain ⟨h1, h2, h3⟩ := sortOk_spec ho
  rw [Vals.ref1 r]
  have hz' : ps.length ≤ sizeLine := by simpa using hz
  refine sorted_pairs hl.isList (each_vals rv) (each_reads I rv hr h1) h2 h3 h1 hz' (by omega) fun out hlen he => ?_
  obtain ⟨ep, he'⟩ := PyProof.Rows.sortedAll_at s.heap its out.toArray
  have hlen : ((ps.mergeSort lePair).map (·.1)).length ≤ sizeLine := by
    rw [List.length_map, List.length_mergeSort]; exact hz'
  exact ⟨.ref _, _, I.laid (t' := s.toks) (fun _ _ => PyProof.Rows.sortedAll_old) (Nat.le_succ _) (o := .lst ((ps.mergeSort lePair).map (·.1))) ⟨hlen, out, ep, vals_each he, he'⟩, rfl, q _ (I.hok.fresh (Nat.le_succ _))⟩
theorem g_sorted : OpN K false (rSortD K) pSorted := by
  intro H vs xs res Q hv e q
  unfold pSorted at e
  split at e
  · rename_i ds
    cases hv with
    | cons h0 t =>
      cases t
      by_cases ho : sortOk ds = true
      · rw [if_pos ho] at e
        cases e
        obtain ⟨a, us, rfl, hrd, rd⟩ := DV.rd h0
        obtain ⟨z1, z2, z3⟩ := rds_zip rd
        refine ⟨a, us.zip ds, rfl, by rw [z1]; exact .inl hrd, z3, by rw [z2]; exact ho, fun p hp => q _ _ ?_⟩
        have e2 : ds.mergeSort leD = ((us.zip ds).mergeSort lePair).map (·.2) := by rw [sort_snd, z2]
        rw [e2]
        exact Post.olNew hp (rds_of fun p m => z3 p ((List.mergeSort_perm _ _).mem_iff.mp m))
      · rw [if_neg ho] at e; cases e
  · cases e
end

/-! ### sorted(d), d with tuple keys -/
def keysD (kvs : List (D × D)) : List D := kvs.map (·.1)
def pSortedT : List D → Option R
  | [.dict kvs] => match dTof kvs with
    | some _ => if sortOk (keysD kvs) = true then some (.ol ((keysD kvs).mergeSort leD)) else none
    | none => none
  | _ => none
/-- a dict with tuple keys (or an empty one of the other kind): its entries' keys are these tuples -/
def RdT (H : Hp) (a : Addr) (kvs : List (List Key × V)) : Prop := Rd H a (.dT kvs) ∨ (kvs = [] ∧ Rd H a (.dK []))
def rSortT : List V → Hp → VK → Prop := fun us H Q => ∃ (a : Addr) (kvs : List (List Key × V)), us = [V.ref a] ∧ RdT H a kvs ∧ sortOk (kvs.map fun p => keyD p.1) = true ∧
  ∀ (bs : List Addr) p, IsKeys H kvs bs → H p = none → Q (.ref p) (upd H p (.lst ((((bs.map V.ref).zip (kvs.map fun p => keyD p.1)).mergeSort lePair).map (·.1))))
theorem rd_keys {H : Hp} : ∀ {kvs : List (List Key × V)} {bs : List Addr}, IsKeys H kvs bs → RDs H (bs.map V.ref) (kvs.map fun p => keyD p.1)
  | _, _, .nil => .nil
  | p :: kvs, b :: bs, .cons h t => .cons (.tup h (keysRD p.1)) (rd_keys t)
where
  keysRD : ∀ (ks : List Key), RDs H (ks.map kV) (ks.map kD)
    | [] => .nil
    | k :: ks => .cons (by cases k <;> constructor) (keysRD ks)
section
variable {X : Cx} {K : PySem.W.Frag}
theorem raw_keys {pins : List (Addr × Obj)} {σ : L2.St} {H : Hp} {s : Shared} {d : Addr} {kvs : List (List Key × V)} (I : Inv X pins σ H s) (hd : RdT H d kvs) :
    ∃ (o : Obj) (es : Array DictEntry) (ep : Nat) (bs : List Addr), (d == sysModules) = false ∧ s.heap.get? d = some o ∧ o.ExactDict ∧ o.data = .dict es ep ∧ es.size ≤ sizeLine ∧ es.toList.map (·.key) = bs.map Value.ref ∧ IsKeys H kvs bs := by
  rcases hd with hd | ⟨rfl, hd⟩
  · obtain ⟨z, hs, ks, pr, o, es, ep, hob, hx, hdt, he, hn⟩ := (show ObjOk X.prog X.w H s.heap d (.dT kvs) from hd.ok I.hok)
    have l1 : es.size = ks.length := size_of_entries he
    have l2 : kvs.length = ks.length := Paired.length pr
    refine ⟨o, es, ep, ks.map fun x => x.2.1, hs, hob, hx, hdt, by omega, ?_, isKeys_of pr⟩
    rw [he, List.map_map, List.map_map]
    rfl
  · obtain ⟨_, z, vs, rel, o, es, ep, e1, e2, e3, e4, e5, e6⟩ := dk_rd I.hok hd
    cases rel
    have l : es.toList = [] := List.eq_nil_of_length_eq_zero e5.length
    refine ⟨o, es, ep, [], z, e1, e2, e3, ?_, by rw [l] <;> rfl, .nil⟩
    rw [← Array.length_toList, l]
    exact Nat.zero_le _
theorem o_sortT (hc : X.calm = true) (hu : X.A.units + 64 < cLine) : CallR X (.builtin "sorted") rSortT := by
  intro pins s σ H vs us Q I r h
  obtain ⟨d, kvs, rfl, hd, ho, q⟩ := h
  rw [Vals.ref1 r]
  obtain ⟨o, es, ep, bs, hs, hob, hx, hdt, hz, hk, bk⟩ := raw_keys I hd
  have rk := rd_keys bk
  obtain ⟨z1, z2, z3⟩ := rds_zip rk
  obtain ⟨h1, h2, h3⟩ := sortOk_spec ho
  refine Calls.call_function_entry kind_sorted plain_sorted entry_sorted (args_sorted1 _) ?_
  unfold Builtin.«sorted»
  refine wpAny_bind (m := checkCount "sorted" 1 1 _) (wpAny_pure ?_)
  refine wpAny_bind (kdu_collect (A := X.A.in1) (kdl_raw hs hx hdt) (I.ok.hd hc) hob hz fun h' tk acc hkp it => ?_)
  have hl : acc.toList.length = es.size := by rw [Array.length_toList, it.1]
  have ea : acc.toList = bs.map Value.ref := by
    rw [← hk]
    apply List.ext_getElem?
    intro j
    rw [List.getElem?_map, Array.getElem?_toList, Array.getElem?_toList]
    cases hj : acc[j]? with
    | none =>
      have := Array.getElem?_eq_none_iff.mp hj
      rw [Array.getElem?_eq_none (xs := es) (by have z0 := it.1; omega)]
      all_goals rfl
    | some v =>
      obtain ⟨en, hen, hv⟩ := it.2 j v hj
      rw [hen, hv]
      all_goals rfl
  have I1 : Inv X pins σ H { s with heap := h', toks := tk } := I.kept hkp
  have rv : Vals (((bs.map V.ref).zip (kvs.map fun p => keyD p.1)).map (·.1)) acc.toList := by rw [z1, ea]; exact vals_refs _
  have hlz : acc.toList.length ≤ sizeLine := by omega
  have hlb : bs.length = acc.toList.length := by rw [ea, List.length_map]
  refine wpAny_bind (wpAny_newList ?_ hlz)
  have I2 : Inv X pins σ H { s with heap := h'.push (seqObj "list" acc.toList.toArray 0), toks := tk } := I1.kept (t' := tk) fun b ob e => Heap.get?_push_of_some _ e
  have hoL : (h'.push (seqObj "list" acc.toList.toArray 0)).get? h'.objs.size = some (seqObj "list" acc.toList.toArray 0) := Heap.get?_push_size _ rfl
  show wpAny _ _ _ _ _ { s with heap := h'.push (seqObj "list" acc.toList.toArray 0), toks := tk }
  have er : EachIs (fun v (p : V × D) => ∃ as, Reads (sortingHeap (h'.push (seqObj "list" acc.toList.toArray 0)) h'.objs.size acc.toList) v p.2 as) acc.toList ((bs.map V.ref).zip (kvs.map fun p => keyD p.1)) :=
    (each_reads I1 rv z3 (by rw [z2]; exact h1)).mono fun v p ⟨as, rr⟩ => ⟨as, PyProof.Rows.Reads.keeps (fun b o eb => sortingHeap_old (Nat.ne_of_lt (Heap.lt_size eb)) (Heap.get?_push_of_some _ eb)) rr⟩
  have srt : SortsAt X.prog X.w X.A.in1.in1 { s with heap := sortingHeap (h'.push (seqObj "list" acc.toList.toArray 0)) h'.objs.size acc.toList, toks := tk } (dataKind (sortingHeap (h'.push (seqObj "list" acc.toList.toArray 0)) h'.objs.size acc.toList) (((bs.map V.ref).zip (kvs.map fun p => keyD p.1)).map (·.2))) acc.toList :=
    sorts_pairs (s := { s with toks := tk }) er (by rw [z2]; exact h2) (by rw [z2]; exact h3) (by rw [z2]; exact h1) (by show X.A.units + 2 + 42 < cLine; omega)
  refine wpAny_bind (wpAny_holding (wpAny_call_entry slot_list_sort ⟨_, hoL, rfl⟩ entry_list_sort (list_sort_vals (s := { s with heap := h'.push (seqObj "list" acc.toList.toArray 0), toks := tk }) hoL srt hlz ⟨_, rfl, ?_⟩) (args_list_sort _)))
  have fin := sortVals_data (enc := fun p : V × D => p.2) false (each_vals rv) er (by rw [z2]; exact h2)
  rw [lePair_le] at fin
  obtain ⟨e', he'⟩ := sortedHeap_at (vs := acc.toList) (out := (sortVals (dataKind (sortingHeap (h'.push (seqObj "list" acc.toList.toArray 0)) h'.objs.size acc.toList) (((bs.map V.ref).zip (kvs.map fun p => keyD p.1)).map (·.2))) false acc.toList acc.toList).toArray) hoL
  have hfr : H h'.objs.size = none := I1.hok.fresh (Nat.le_refl _)
  have hlen : ((((bs.map V.ref).zip (kvs.map fun p => keyD p.1)).mergeSort lePair).map (·.1)).length ≤ sizeLine := by
    rw [List.length_map, List.length_mergeSort]
    have z := vals_each fin |>.length
    have zz := congrArg List.length z1
    rw [List.length_map] at zz
    rw [zz, List.length_map]
    omega
  refine wpAny_pure ⟨_, rfl, .ref h'.objs.size, _, I1.laid (t' := tk) (fun b ob e => ?_) (Nat.le_refl _) (o := .lst ((((bs.map V.ref).zip (kvs.map fun p => keyD p.1)).mergeSort lePair).map (·.1))) ⟨hlen, _, e', vals_each fin, he'⟩, rfl, q bs _ bk hfr⟩
  have hb : b ≠ h'.objs.size := Nat.ne_of_lt (Heap.lt_size e)
  rw [sortedHeap_old hb (by rw [PyProof.Rows.size_push']; exact Nat.lt_succ_of_lt (Heap.lt_size e))]
  exact Heap.get?_push_of_some _ e
theorem dT_keys {m : List (List Key × D)} : keysD (m.map fun (p : List Key × D) => (keyD p.1, p.2)) = m.map fun p => keyD p.1 := by
  unfold keysD
  rw [List.map_map]
  rfl
theorem rdt_keys {H : Hp} : ∀ {ws : List (List Key × V)} {m : List (List Key × D)}, RDT H ws m → (ws.map fun p => keyD p.1) = m.map fun p => keyD p.1
  | _, _, .nil => rfl
  | (k, v) :: ws, (k', d) :: m, .cons h t => by
    obtain ⟨e, _⟩ := h
    have e' : k = k' := e
    subst e'
    rw [List.map_cons, List.map_cons, rdt_keys t]
theorem g_sortT : OpN K false rSortT pSortedT := by
  intro H vs xs res Q hv e q
  unfold pSortedT at e
  split at e
  · rename_i kvs
    cases hv with
    | cons h0 t =>
      cases t
      cases hT : dTof kvs with
      | none => rw [hT] at e; cases e
      | some m =>
        rw [hT] at e
        by_cases ho : sortOk (keysD kvs) = true
        · simp only [if_pos ho] at e
          cases e
          obtain ⟨a, rfl, ⟨ws, m', hr, rr, rfl⟩ | ⟨ws, m', hr, rr, rfl⟩⟩ := h0
          · have z := dTof_K hT
            subst z
            cases rr
            refine ⟨a, [], rfl, .inr ⟨rfl, hr⟩, ho, fun bs p bk hp => q _ _ ?_⟩
            cases bk
            have e1 : ((keysD (List.map (fun (p : Key × D) => (kD p.1, p.2)) [])).mergeSort leD) = [] := by simp [keysD]
            have e2 : (List.map (fun (x : V × D) => x.1) (((List.map V.ref []).zip (List.map (fun (p : List Key × V) => keyD p.1) [])).mergeSort lePair)) = [] := by simp
            rw [e1, e2]
            exact Post.olNew hp .nil
          · rw [dT_keys] at ho q
            rw [← rdt_keys rr] at ho q
            refine ⟨a, ws, rfl, .inl hr, ho, fun bs p bk hp => q _ _ ?_⟩
            obtain ⟨z1, z2, z3⟩ := rds_zip (rd_keys bk)
            have e2 : (ws.map fun p => keyD p.1).mergeSort leD = ((((bs.map V.ref).zip (ws.map fun p => keyD p.1)).mergeSort lePair).map (·.2)) := by rw [sort_snd, z2]
            rw [e2]
            exact Post.olNew hp (rds_of fun p m => z3 p ((List.mergeSort_perm _ _).mem_iff.mp m))
        · simp only [if_neg ho] at e
          cases e
  · cases e
end
end Pw

set_option Elab.async false
set_option linter.all false
set_option maxRecDepth 100000
set_option maxHeartbeats 2000000
/-! Pw: dicts walked by their keys, by their items. -/
namespace Pw
open PySem PySem.Spec PyProof.Rows L2 PySem.W

/-- the entries, as the dict's own object holds them -/
def EntE (es : Array DictEntry) (ents : List (V × V)) : Prop := es.size = ents.length ∧ ∀ (i : Nat) (k v : V), ents[i]? = some (k, v) → ∃ en : DictEntry, es[i]? = some en ∧ RelV k en.key ∧ RelV v en.val
def isDict : HO → Prop
  | .dK _ => True
  | .dT _ => True
  | _ => False
theorem frz_raw {X : Cx} {pins : List (Addr × Obj)} {σ : L2.St} {H : Hp} {s : Shared} {d : Addr} {o : Obj} {u : HO} (I : Inv X pins σ H s) (h : H d = some (.frz o u)) (hu : isDict u) :
    (d == sysModules) = false ∧ s.heap.get? d = some o ∧ o.ExactDict ∧ ∃ (es : Array DictEntry) (ep : Nat), o.data = .dict es ep := by
  cases u with
  | dK kvs =>
    obtain ⟨hs, hgd, hx, es, ep, vs, hdt, _⟩ := I.frzK h
    exact ⟨hs, hgd, hx, es, ep, hdt⟩
  | dT kvs =>
    obtain ⟨hs, hgd, hx, es, ep, hdt, _⟩ := I.frzT h
    exact ⟨hs, hgd, hx, es, ep, hdt⟩
  | _ => exact hu.elim
theorem dict_ep' {o : Obj} {es es' : Array DictEntry} {ep ep' : Nat} (h : o.data = .dict es ep) (h' : o.data = .dict es' ep') : es = es' ∧ ep = ep' := by
  rw [h] at h'
  cases h'
  exact ⟨rfl, rfl⟩
theorem rdk_len {H : Hp} : ∀ {l : List (Key × V)} {ds : List (D × D)}, RDk H l ds → l.length = ds.length
  | _, _, .nil => rfl
  | _, _, .cons _ t => by rw [List.length_cons, List.length_cons, rdk_len t]
theorem rdt_len {H : Hp} : ∀ {l : List (List Key × V)} {ds : List (D × D)}, RDt H l ds → l.length = ds.length
  | _, _, .nil => rfl
  | _, _, .cons _ t => by rw [List.length_cons, List.length_cons, rdt_len t]
theorem rdk_get {H : Hp} : ∀ {l : List (Key × V)} {ds : List (D × D)} {i : Nat} {k : Key} {v : V}, RDk H l ds → l[i]? = some (k, v) → ∃ dk dv, ds[i]? = some (dk, dv) ∧ RD H (kV k) dk ∧ RD H v dv
  | _, _, 0, k, v, .cons r _, e => by
    cases e
    refine ⟨_, _, rfl, ?_, r⟩
    cases k with
    | inl i => exact .int i
    | inr x => exact .str x
  | _, _, i + 1, k, v, .cons _ t, e => by
    obtain ⟨a, b, h1, h2⟩ := rdk_get t (by simpa using e)
    exact ⟨a, b, by simpa using h1, h2⟩
  | _, _, _, _, _, .nil, e => by simp at e
theorem rdt_get {H : Hp} : ∀ {l : List (List Key × V)} {ds : List (D × D)} {i : Nat} {k : List Key} {v : V}, RDt H l ds → l[i]? = some (k, v) → ∃ dv, ds[i]? = some (.tuple (k.map kD), dv) ∧ RD H v dv
  | _, _, 0, k, v, .cons r _, e => by
    cases e
    exact ⟨_, rfl, r⟩
  | _, _, i + 1, k, v, .cons _ t, e => by
    obtain ⟨b, h1, h2⟩ := rdt_get t (by simpa using e)
    exact ⟨b, by simpa using h1, h2⟩
  | _, _, _, _, _, .nil, e => by simp at e
/-- the entries, told by the heap: their keys, their values, as data -/
theorem frz_ents {X : Cx} {pins : List (Addr × Obj)} {σ : L2.St} {H : Hp} {s : Shared} {d : Addr} {o : Obj} {u : HO} {es : Array DictEntry} {ep : Nat} {ds : List (D × D)} (I : Inv X pins σ H s) (h : H d = some (.frz o u)) (hod : o.data = .dict es ep)
    (hr : (∃ kvs, u = .dK kvs ∧ RDk H kvs ds) ∨ ∃ kvs, u = .dT kvs ∧ RDt H kvs ds) : ∃ ents, EntE es ents ∧ ents.length = ds.length ∧ ∀ (i : Nat) (k v : V), ents[i]? = some (k, v) → ∃ dk dv, ds[i]? = some (dk, dv) ∧ RD H k dk ∧ RD H v dv := by
  rcases hr with ⟨kvs, rfl, rr⟩ | ⟨kvs, rfl, rr⟩
  · obtain ⟨hs, hgd, hx, es', ep', vs, hdt, hsz, kv, hm⟩ := I.frzK h
    obtain ⟨rfl, rfl⟩ := dict_ep' hod hdt
    refine ⟨kvs.map fun p => (kV p.1, p.2), ⟨by rw [List.length_map]; exact hsz, fun i k v e => ?_⟩, by rw [List.length_map]; exact rdk_len rr, fun i k v e => ?_⟩
    · rw [List.getElem?_map] at e
      obtain ⟨⟨k', v'⟩, e1, e2⟩ := Option.map_eq_some_iff.mp e
      cases e2
      obtain ⟨x, hx1, hx2⟩ := kv_get kv e1
      obtain ⟨o', es', ho', _, hd', hkeys, hvals, _⟩ := id hm
      rw [hgd] at ho'
      cases ho'
      obtain ⟨rfl, _⟩ := dict_ep' hod hd'
      have hlt : i < es.size := by
        have l1 := hvals.length
        have l2 := (List.getElem?_eq_some_iff.mp hx1).1
        rw [Array.length_toList] at l1
        omega
      have hen : es.toList[i]? = some es[i] := by rw [Array.getElem?_toList, Array.getElem?_eq_getElem hlt]
      obtain ⟨q1, q2⟩ := hvals.get? hen hx1
      exact ⟨es[i], Array.getElem?_eq_getElem hlt, relV_key q1, by rw [q2]; exact hx2⟩
    · rw [List.getElem?_map] at e
      obtain ⟨⟨k', v'⟩, e1, e2⟩ := Option.map_eq_some_iff.mp e
      cases e2
      exact rdk_get rr e1
  · obtain ⟨hd, z, hs, xs, pr, o', es', ep', ho, hx, hdt, he, _⟩ := I.hok d _ h
    rw [hd] at ho
    cases ho
    obtain ⟨rfl, rfl⟩ := dict_ep' hod hdt
    have l1 : es.size = xs.length := size_of_entries he
    have l2 : kvs.length = xs.length := Paired.length pr
    have hz : ∀ (i : Nat) (k v : V), (xs.zipWith (fun x (p : List Key × V) => (V.ref x.2.1, p.2)) kvs)[i]? = some (k, v) → ∃ (x : List Key × Addr × Value) (p : List Key × V), xs[i]? = some x ∧ kvs[i]? = some p ∧ k = .ref x.2.1 ∧ v = p.2 := fun i k v e => by
      rw [List.getElem?_zipWith] at e
      cases h1 : xs[i]? with
      | none => rw [h1] at e; cases e
      | some x =>
        cases h2 : kvs[i]? with
        | none => rw [h1, h2] at e; cases e
        | some p =>
          rw [h1, h2] at e
          cases e
          exact ⟨x, p, rfl, rfl, rfl, rfl⟩
    refine ⟨xs.zipWith (fun x p => (V.ref x.2.1, p.2)) kvs, ⟨by rw [List.length_zipWith]; omega, fun i k v e => ?_⟩, by rw [List.length_zipWith, ← rdt_len rr]; omega, fun i k v e => ?_⟩
    · obtain ⟨x, p, h1, h2, rfl, rfl⟩ := hz i k v e
      obtain ⟨b, hb, e1, e2, e3⟩ := paired_get pr (show kvs[i]? = some (p.1, p.2) from h2)
      rw [h1] at hb
      cases hb
      have q := entry_at he i
      rw [h1] at q
      exact ⟨_, q, rfl, e3⟩
    · obtain ⟨x, p, h1, h2, rfl, rfl⟩ := hz i k v e
      obtain ⟨b, hb, e1, e2, e3⟩ := paired_get pr (show kvs[i]? = some (p.1, p.2) from h2)
      rw [h1] at hb
      cases hb
      obtain ⟨dv, q1, q2⟩ := rdt_get rr (show kvs[i]? = some (p.1, p.2) from h2)
      exact ⟨_, dv, q1, .tup e2 (rd_keys.keysRD p.1), q2⟩

/-! ### d.items() -/
def ItE (d : Addr) (o : Obj) (u : HO) (ents : List (V × V)) : It :=
  ⟨fun i H => H d = some (.frz o u) ∧ i < ents.length, fun i H x H' => ∃ T k v, ents[i]? = some (k, v) ∧ x = .ref T ∧ H T = none ∧ H' = upd H T (.tup [k, v]), fun i H => H d = some (.frz o u) ∧ ents.length ≤ i⟩
theorem turn_ents {P : Program} {w : World} {K : PySem.W.Frag} {elts : List Expr} {kk : Nat} {tpos : Pos} {d : Addr} {o : Obj} {u : HO} {es : Array DictEntry} {ep : Nat} {ents : List (V × V)} (it : Addr) (hu : isDict u) (hod : o.data = .dict es ep) (hE : EntE es ents) :
    Turn P w K (.Tuple elts kk tpos) (ItE d o u ents) [it] it (fun i h => ∃ ok ov, IsItemIter h it d i es.size ep ok ov) where
  mem := by simp
  obj := fun i h st b hb => by
    have e : b = it := by simpa using hb
    subst e
    obtain ⟨ok, ov, e⟩ := st
    exact ⟨_, e, fun v z => nomatch z⟩
  keep := fun i h h' st k => let ⟨ok, ov, e⟩ := st; ⟨ok, ov, k it (by simp) _ e⟩
  item := by
    intro X hP hw hK hc i pins s σ H E I hf st hg
    subst hP hw hK
    obtain ⟨hd, hi⟩ := hg
    obtain ⟨hs, hgd, hx, es', ep', hdt⟩ := frz_raw I hd hu
    obtain ⟨rfl, rfl⟩ := dict_ep' hod hdt
    obtain ⟨hsz, hent⟩ := hE
    have hi' : i < es.size := by omega
    obtain ⟨⟨k, v⟩, hkv⟩ : ∃ p, ents[i]? = some p := ⟨ents[i], List.getElem?_eq_getElem hi⟩
    obtain ⟨en, hen, rk, rv⟩ := hent i k v hkv
    have hen' : es[i] = en := by
      rw [Array.getElem?_eq_getElem hi'] at hen
      exact Option.some.inj hen
    obtain ⟨ok, ov, he⟩ := st
    have hlt : it < s.heap.objs.size := Heap.lt_size he
    refine DT.nextI he ⟨o, hgd, hx, hod⟩ hi' fun h' ho hT hz hk => ?_
    refine ⟨_, rfl, wpAny_letOwnedTupleGo_items (s := { s with heap := h' }) ho fun h'' he' sb => ?_⟩
    have hT2 : h''.get? s.heap.objs.size = some { cls := .type "tuple", data := .seq #[es[i].key, es[i].val] } := (sb.2 _ (Nat.ne_of_gt hlt)).trans hT
    have new : ObjOk X.prog X.w (upd H s.heap.objs.size (.tup [k, v])) h'' s.heap.objs.size (.tup [k, v]) :=
      ⟨by show 2 ≤ sizeLine; decide, [es[i].key, es[i].val], .cons (by rw [hen']; exact rk) (.cons (by rw [hen']; exact rv) .nil), ⟨_, hT2, rfl, _, rfl⟩⟩
    have I1 : Inv X pins σ (upd H s.heap.objs.size (.tup [k, v])) { s with heap := h'' } :=
      I.turnedNew (t' := s.toks) (ch := [it]) (fun b ob hb e => (sb.2 b (by simpa using hb)).trans (hk b ob (by simpa using hb) e)) hf (Nat.le_refl _) new
    refine ⟨.ref s.heap.objs.size, _, I1, rfl, ⟨_, k, v, hkv, rfl, I.hok.fresh (Nat.le_refl _), rfl⟩, ⟨_, _, he'⟩, fun b hb => ?_⟩
    have e : b = it := by simpa using hb
    rw [e, upd_ne (Nat.ne_of_lt hlt)]
    exact (hf it (by simp)).1
  done := by
    intro X hP hw hK hc i pins s σ H E I hf st hg
    subst hP hw hK
    obtain ⟨hd, hi⟩ := hg
    obtain ⟨f0, f1, f2, f3, f4, f5⟩ := hf it (by simp)
    obtain ⟨hs, hgd, hx, es', ep', hdt⟩ := frz_raw I hd hu
    obtain ⟨rfl, rfl⟩ := dict_ep' hod hdt
    obtain ⟨ok, ov, he⟩ := st
    exact DT.endI (I.ok.hd hc) he ⟨o, hgd, hx, hod⟩ (by rw [hE.1]; exact hi) fun h' eb => ⟨rfl, I.turned (t' := s.toks) (fun b ob hb e => eb b ob hb e) f0 f1 f3 f4 f5⟩
  self := fun A i s Q E st h => let ⟨_, _, e⟩ := st; PySem.W.kcp_self e h
theorem src_ents {H : Hp} {d : Addr} {o : Obj} {u : HO} {ents : List (V × V)} {ds : List (D × D)} (hd : H d = some (.frz o u)) (hl : ents.length = ds.length) (he : ∀ (i : Nat) (k v : V), ents[i]? = some (k, v) → ∃ dk dv, ds[i]? = some (dk, dv) ∧ RD H k dk ∧ RD H v dv) :
    SrcOk H (ItE d o u ents) (ds.map fun p => .tuple [p.1, p.2]) := src_pair fun H' k i => by
  refine ⟨fun x e => ?_, fun h => ⟨k.2 _ _ _ hd, by rw [hl]; simpa using h⟩⟩
  rw [List.getElem?_map] at e
  obtain ⟨⟨dk, dv⟩, e1, e2⟩ := Option.map_eq_some_iff.mp e
  cases e2
  have hi : i < ents.length := by rw [hl]; exact (List.getElem?_eq_some_iff.mp e1).1
  refine ⟨⟨k.2 _ _ _ hd, hi⟩, fun y H'' yy => ?_⟩
  obtain ⟨T, ka, va, h1, rfl, hT, rfl⟩ := yy
  obtain ⟨dk', dv', h2, r1, r2⟩ := he i ka va h1
  rw [e1] at h2
  cases h2
  exact ⟨T, ka, va, _, _, rfl, hT, rfl, rfl, r1.kp k, r2.kp k⟩
/-- what a dict's walk gives -/
def mItm (m : ME) : MI := fun env => (m env).bind fun r e => match r with
  | .d (.dict kvs) => .ok (kvs.map fun p => .tuple [p.1, p.2]) e
  | _ => .st
def mKy (m : ME) : MI := fun env => (m env).bind fun r e => match r with
  | .d (.dict kvs) => .ok (kvs.map fun p => p.1) e
  | _ => .st
theorem rd_dict {H : Hp} {v : V} {ds : List (D × D)} (h : RD H v (.dict ds)) : ∃ d o u, v = .ref d ∧ H d = some (.frz o u) ∧ isDict u ∧ ((∃ kvs, u = .dK kvs ∧ RDk H kvs ds) ∨ ∃ kvs, u = .dT kvs ∧ RDt H kvs ds) := by
  cases h with
  | dK e r => exact ⟨_, _, _, rfl, e, trivial, .inl ⟨_, rfl, r⟩⟩
  | dT e r => exact ⟨_, _, _, rfl, e, trivial, .inr ⟨_, rfl, r⟩⟩
section
variable {X : Cx} {W : WX} {OW : Nat → Bool} {tg e : Expr} {m : ME} {apos cpos : Pos}
theorem di_items {elts : List Expr} {kk : Nat} {tpos : Pos} (h : DE X W OW e m) (hbase : attributeBase e "items" X.env (eval e X.env) = eval e X.env := by rfl) (hline : (apos.endLine == cpos.line) = true := by rfl) :
    DI X W OW (.Tuple elts kk tpos) (.Call (.Attribute e "items" apos) [] [] cpos) (mItm m) := by
  refine ⟨fun pins s σ H R I ⟨H0, P, env, L, Rl, S⟩ => ?_⟩
  refine wpAny_Call_method (T := "dict") (id := "dict.items") hbase rfl hline F.plainAttrs_dict F.slot_dict_items F.type_dict_items (thn (h.run pins s σ H (fun v H1 => ∃ kvs e1, RD H1 v (.dict kvs) ∧ Rel X.K OW H0 P e1 σ H1 L ∧ ∀ H' J, Rel X.K OW H0 P e1 σ H' L → SrcOk H' J (kvs.map fun p => .tuple [p.1, p.2]) → R J H') I ⟨H0, P, env, L, Rl, (Sat.bind S).mono fun r e1 _ S1 v H1 R1 => ?_⟩) fun u s1 ⟨x, H1, I1, rx, kvs, e1, rd, R1, q⟩ => ?_)
  · cases r with
    | d y =>
      cases y with
      | dict kvs => exact ⟨kvs, e1, R1.pend _ List.mem_cons_self, R1.drop, S1⟩
      | _ => exact S1.elim
    | _ => exact S1.elim
  · obtain ⟨d, o, hu, rfl, hd, isd, hr⟩ := rd_dict rd
    obtain rfl : u = Value.ref d := rx
    obtain ⟨hs, hgd, hx, es, ep, hdt⟩ := frz_raw I1 hd isd
    obtain ⟨ents, hE, hl, he⟩ := frz_ents I1 hd hdt hr
    have raw : DT.Raw s1.heap d es ep := ⟨o, hgd, hx, hdt⟩
    refine ⟨raw.typeIs, (fun a z => by cases z; exact ⟨o, hgd, hx.2.1⟩), ?_⟩
    have I2 : Inv X pins σ H1 { s1 with heap := s1.heap.push { cls := .type "dict_items", data := .fields #[.ref d] } } := I1.kept (t' := s1.toks) fun b ob q => Heap.get?_push_of_some _ q
    have fin : wpAny (model X.prog X.w) X.A (pyIter (.ref s1.heap.objs.size)) (PIE X pins σ (.Tuple elts kk tpos) R) X.xe { s1 with heap := s1.heap.push { cls := .type "dict_items", data := .fields #[.ref d] } } :=
      DT.iterI (d := d) ⟨_, Heap.get?_push_size _ rfl, rfl, rfl⟩ (raw.push _) (pi_one (tk := s1.toks) I2 _ (turn_ents _ isd hdt hE) ⟨.none, .none, Heap.get?_push_size _ rfl⟩ (q _ _ R1 (src_ents hd hl he)))
    show wpAny _ _ (callWith cpos (.builtin "dict.items") [.ref d] [] []) _ X.xe s1
    exact method_meetsIn F.slot_dict_items F.entry_dict_items rfl (PySem.evalArgs_none ⟨rfl, raw.typeIs, F.args_dict_items_1 _, _, DT.meetsItems (es := es) (ep := ep) hs, raw, fin⟩)
theorem di_keys (h : DE X W OW e m) : DI X W OW tg e (mKy m) := by
  refine ⟨fun pins s σ H R I ⟨H0, P, env, L, Rl, S⟩ => (pi_keys h).run pins s σ H R I ⟨H0, P, env, L, Rl, (Sat.bind S).mono fun r e1 _ S1 v H1 R1 => ?_⟩⟩
  cases r with
  | d y =>
    cases y with
    | dict ds =>
      have rd : RD H1 v (.dict ds) := R1.pend (v, .d (.dict ds)) List.mem_cons_self
      cases rd with
      | @dK a o kvs _ hd rr =>
        refine ⟨a, o, rfl, .inl ⟨kvs, hd, S1 H1 _ R1.drop fun H' k i => ⟨fun x e => ?_, fun hl => ⟨k.2 _ _ _ hd, by rw [rdk_len rr]; simpa using hl⟩⟩⟩⟩
        rw [List.getElem?_map] at e
        obtain ⟨⟨dk, dv⟩, e1, e2⟩ := Option.map_eq_some_iff.mp e
        cases e2
        have hi : i < kvs.length := by rw [rdk_len rr]; exact (List.getElem?_eq_some_iff.mp e1).1
        refine ⟨⟨k.2 _ _ _ hd, hi⟩, fun y H'' yy => ?_⟩
        obtain ⟨rfl, k1, v1, h1, rfl⟩ := yy
        obtain ⟨dk', dv', h2, r1, _⟩ := rdk_get rr h1
        rw [e1] at h2; cases h2
        exact ⟨Same.refl _, r1.kp k⟩
      | @dT a o kvs _ hd rr =>
        refine ⟨a, o, rfl, .inr ⟨kvs, hd, S1 H1 _ R1.drop fun H' k i => ⟨fun x e => ?_, fun hl => ⟨k.2 _ _ _ hd, by rw [rdt_len rr]; simpa using hl⟩⟩⟩⟩
        rw [List.getElem?_map] at e
        obtain ⟨⟨dk, dv⟩, e1, e2⟩ := Option.map_eq_some_iff.mp e
        cases e2
        have hi : i < kvs.length := by rw [rdt_len rr]; exact (List.getElem?_eq_some_iff.mp e1).1
        refine ⟨⟨k.2 _ _ _ hd, hi⟩, fun y H'' yy => ?_⟩
        obtain ⟨rfl, k1, v1, b, h1, rfl, hb⟩ := yy
        obtain ⟨dv', h2, _⟩ := rdt_get rr h1
        rw [e1] at h2; cases h2
        exact ⟨Same.refl _, .tup hb (rd_keys.keysRD k1)⟩
    | _ => exact S1.elim
  | _ => exact S1.elim
end
end Pw

set_option Elab.async false
set_option linter.all false
set_option maxRecDepth 100000
set_option maxHeartbeats 2000000
/-! Pw: {}, dict(pairs), {k: v}, of tuple keys; d.get; list(d). -/
namespace Pw
open PySem PySem.Spec PyProof.Rows L2

/-! ### {} -/
def mDT : ME := fun e => .ok (.oT []) e
section
variable {X : Cx} {W : WX} {OW : Nat → Bool} {pos : Pos}
theorem de_DT : DE X W OW (.Dict [] [] pos) mDT := pe_le pe_dnewT fun σ H Q ⟨H0, P, env, L, Rl, S⟩ p hp => S _ _ (Rl.newOwn hp ⟨p, [], rfl, upd_same, .nil⟩)
end

/-! ### dict(pairs) -/
def mergeT {β : Type} (put : List (List Key × β) → List Key → β → List (List Key × β)) (acc : List (List Key × β)) (ps : List (List Key × β)) : List (List Key × β) := ps.foldl (fun a p => put a p.1 p.2) acc
abbrev mergeD (acc ps : List (List Key × D)) : List (List Key × D) := mergeT Pw.putD acc ps
abbrev mergeV (acc ps : List (List Key × V)) : List (List Key × V) := mergeT putK acc ps
/-- the pairs, told as keys and values -/
def pairsD : List D → Option (List (List Key × D))
  | [] => some []
  | .tuple [k, v] :: r => match toKeys k, pairsD r with
    | some ks, some ps => some ((ks, v) :: ps)
    | _, _ => none
  | _ => none
theorem RDT.merge {H : Hp} : ∀ {ps : List (List Key × V)} {qs : List (List Key × D)} {l : List (List Key × V)} {m : List (List Key × D)}, RDT H ps qs → RDT H l m → RDT H (mergeV l ps) (mergeD m qs)
  | _, _, _, _, .nil, h => h
  | (a, b) :: ps, (c, d) :: qs, l, m, .cons h t, h2 => by
    obtain ⟨e, q⟩ := h
    have e' : a = c := e
    subst e'
    exact RDT.merge (l := putK l a b) (m := Pw.putD m a d) t (h2.putD q)
theorem kt_merge {H : Hp} : ∀ {qs : List (List Key × Addr × V)} {xs acc' : List (List Key × Addr × Value)} {acc : List (List Key × V)}, Paired (fun q x => q.1 = x.1 ∧ q.2.1 = x.2.1 ∧ RelV q.2.2 x.2.2) qs xs → (∀ q ∈ qs, H q.2.1 = some (.tup (q.1.map kV))) → KT H acc acc' →
    KT H (mergeV acc (qs.map fun q => (q.1, q.2.2))) (storedAllH acc' xs)
  | [], _, _, _, .nil, _, h => h
  | (k, b, v) :: qs, (k', b', u) :: xs, acc', acc, .cons hh t, hk, h => by
    obtain ⟨e1, e2, e3⟩ := hh
    have e1' : k = k' := e1
    have e2' : b = b' := e2
    subst e1' e2'
    exact kt_merge (acc := putK acc k v) (acc' := storedH acc' k b u) t (fun q m => hk q (List.mem_cons_of_mem _ m)) (h.put k (hk _ List.mem_cons_self) e3)
theorem putK_len {κ : Type} [DecidableEq κ] (l : List (κ × V)) (k : κ) (v : V) : (putK l k v).length ≤ l.length + 1 := by
  unfold putK
  split <;> simp
theorem mergeV_len : ∀ (ps l : List (List Key × V)), (mergeV l ps).length ≤ l.length + ps.length
  | [], l => Nat.le_refl _
  | p :: ps, l => by
    have z := mergeV_len ps (putK l p.1 p.2)
    have z2 := putK_len l p.1 p.2
    show (mergeV (putK l p.1 p.2) ps).length ≤ _
    rw [List.length_cons]
    omega
theorem paired_back {α β : Type} {F : α → β → Prop} : ∀ {xs : List α} {ys : List β} {i : Nat} {y : β}, Paired F xs ys → ys[i]? = some y → ∃ x, xs[i]? = some x ∧ F x y
  | _, _, 0, _, .cons h _, e => by cases e; exact ⟨_, rfl, h⟩
  | _, _, i + 1, _, .cons _ t, e => by
    obtain ⟨x, e1, e2⟩ := paired_back t (by simpa using e)
    exact ⟨x, by simpa using e1, e2⟩
  | _, _, _, _, .nil, e => by simp at e
/-- a list of pairs, each a new tuple of a key's tuple and a value -/
def rDictP (K : PySem.W.Frag) : List V → Hp → VK → Prop := fun us H Q => ∃ (a : Addr) (ts : List Addr) (qs : List (List Key × Addr × V)), us = [V.ref a] ∧ SqL K H a (ts.map V.ref) ∧ Paired (fun t q => H t = some (.tup [.ref q.2.1, q.2.2]) ∧ H q.2.1 = some (.tup (q.1.map kV))) ts qs ∧
  ∀ p, H p = none → Q (.ref p) (upd H p (.dT (mergeV [] (qs.map fun q => (q.1, q.2.2)))))
theorem pairs_at {X : Cx} {pins : List (Addr × Obj)} {σ : L2.St} {H : Hp} {s : Shared} (I : Inv X pins σ H s) : ∀ {ts : List Addr} {qs : List (List Key × Addr × V)}, Paired (fun t q => H t = some (.tup [.ref q.2.1, q.2.2]) ∧ H q.2.1 = some (.tup (q.1.map kV))) ts qs →
    ∃ xs : List (List Key × Addr × Value), Paired (fun q x => q.1 = x.1 ∧ q.2.1 = x.2.1 ∧ RelV q.2.2 x.2.2) qs xs ∧ xs.length = ts.length ∧ ∀ (j : Nat) (x : List Key × Addr × Value), xs[j]? = some x → ∃ t, ts[j]? = some t ∧ PairAt s.heap t (.ref x.2.1) x.2.2
  | _, _, .nil => ⟨[], .nil, rfl, fun j x e => by simp at e⟩
  | t :: ts, (k, b, v) :: qs, .cons h r => by
    obtain ⟨xs, h1, h2, h3⟩ := pairs_at I r
    obtain ⟨its, rv, ht, _⟩ := I.tuple (show SqT X.K H t [.ref b, v] from .inl (.inl h.1))
    obtain ⟨u, y, ei, ru, ry⟩ := vals2 rv
    subst ei
    cases ru
    refine ⟨(k, b, y) :: xs, .cons ⟨rfl, rfl, ry⟩ h1, by rw [List.length_cons, List.length_cons, h2], fun j x e => ?_⟩
    cases j with
    | zero =>
      cases e
      exact ⟨t, rfl, .inl ht⟩
    | succ j => exact h3 j x (by simpa using e)
section
variable {X : Cx} {K : PySem.W.Frag}
theorem o_dictP (hc : X.calm = true) (hu : X.A.units + 64 < cLine) : CallR X (.type "dict") (rDictP X.K) := by
  intro pins s σ H us vs Q I r h
  obtain ⟨a, ts, qs, rfl, hs, hp, q⟩ := h
  rw [Vals.ref1 r]
  obtain ⟨its, rv, ⟨o, n, ho, hcl, hdi, hdat⟩, hz⟩ := I.list hs
  have ei : its = ts.map Value.ref := refs_at rv
  subst ei
  rw [List.length_map] at hz
  obtain ⟨xs, h1, h2, h3⟩ := pairs_at I hp
  have hkeys : ∀ x ∈ qs, H x.2.1 = some (.tup (x.1.map kV)) := fun x m => by
    clear h1 h2 h3 rv hdat hz q hs r
    induction hp with
    | nil => exact nomatch m
    | cons h0 _ ih =>
      rcases List.mem_cons.mp m with e | m
      · subst e; exact h0.2
      · exact ih m
  have hkx : ∀ x ∈ xs, H x.2.1 = some (.tup (x.1.map kV)) := fun x m => by
    obtain ⟨j, e⟩ := List.mem_iff_getElem?.mp m
    obtain ⟨y, e1, e2, e3, _⟩ := paired_back h1 e
    rw [← e2, ← e3]
    exact hkeys y (List.mem_of_getElem? e1)
  have pit : PairItems s.heap (ts.map Value.ref).toArray (fun j => ts.getD j 0) (xs.map fun x => (Value.ref x.2.1, x.2.2)) := by
    refine ⟨by simp [h2], fun j k v e => ?_⟩
    rw [List.getElem?_map] at e
    obtain ⟨x, e1, e2⟩ := Option.map_eq_some_iff.mp e
    cases e2
    obtain ⟨t, ht, pt⟩ := h3 j x e1
    have ed : ts.getD j 0 = t := by rw [List.getD_eq_getElem?_getD, ht] <;> rfl
    show (ts.map Value.ref).toArray[j]? = some (Value.ref (ts.getD j 0)) ∧ PairAt s.heap (ts.getD j 0) _ _
    rw [ed]
    exact ⟨by simp [ht], pt⟩
  have prl : ∀ (i : Nat) (k v : Value), PairRel (xs.map fun x => (Value.ref x.2.1, x.2.2)) i k v → ∃ (kk : List Key) (b : Addr), xs[i]? = some (kk, b, v) ∧ k = .ref b := fun i k v e => by
    have e' : (xs.map fun x => (Value.ref x.2.1, x.2.2))[i]? = some (k, v) := e
    rw [List.getElem?_map] at e'
    obtain ⟨x, e1, e2⟩ := Option.map_eq_some_iff.mp e'
    cases e2
    exact ⟨x.1, x.2.1, e1, rfl⟩
  have kst : KeysStay (tupleKind (mixKind X.prog X.w)) s.heap s.heap.objs.size [] xs := fun h' hk x m => by
    obtain ⟨ob, its, m', g1, g2⟩ := key_of I.hok (hkx x m)
    exact ⟨ob, its, m', hk _ _ (Nat.ne_of_lt (Heap.lt_size g1)) (by simp) g1, g2⟩
  refine call_dict_pairsH (knd := tupleKind (mixKind X.prog X.w)) (ps := xs) (n := (xs.map fun x => (Value.ref x.2.1, x.2.2)).length) (PairArg.list a (ts.map Value.ref).toArray (fun j => ts.getD j 0) (xs.map fun x => (Value.ref x.2.1, x.2.2))) (I.ok.hd hc) (show X.A.units + 2 < cLine by omega)
    ⟨⟨o, n, ho, hcl, hdi, hdat⟩, pit⟩ ⟨by simp, prl⟩ kst (by rw [List.length_map, h2]; exact hz) fun h' tk hd' hk => ?_
  have hn : H s.heap.objs.size = none := I.hok.fresh (Nat.le_refl _)
  have hm : (s.heap.objs.size == sysModules) = false := beq_eq_false_iff_ne.mpr (Nat.ne_of_gt I.big)
  have kt := kt_merge (acc := []) (acc' := []) h1 hkeys .nil
  have hlen : (mergeV [] (qs.map fun q => (q.1, q.2.2))).length ≤ sizeLine := by
    have z := mergeV_len (qs.map fun q => (q.1, q.2.2)) []
    have z2 := Paired.length h1
    simp only [List.length_nil, List.length_map] at z
    omega
  have kt' : KT (upd H s.heap.objs.size (.dT (mergeV [] (qs.map fun q => (q.1, q.2.2))))) (mergeV [] (qs.map fun q => (q.1, q.2.2))) (storedAllH [] xs) := kt.keeps fun b ys e => by rw [upd_ne (ne_of_none e hn)]; exact e
  obtain ⟨od, es, ep, g1, g2, g3, g4, _, g6⟩ := hd'
  exact ⟨.ref s.heap.objs.size, _, I.laid (t' := tk) (fun b ob e => hk b ob (by simp) e) (Nat.le_refl _) (show ObjOk X.prog X.w _ _ _ (.dT (mergeV [] (qs.map fun q => (q.1, q.2.2)))) from ⟨hlen, hm, storedAllH [] xs, kt', od, es, ep, g1, g2, g3, g4, g6⟩), rfl, q _ hn⟩
end
def pDictP : List D → Option R
  | [.list ps] => (pairsD ps).map fun qs => .oT (mergeD [] qs)
  | _ => none
theorem rd_key {H : Hp} {v : V} {d : D} {ks : List Key} (h : RD H v d) (e : toKeys d = some ks) : ∃ b, v = .ref b ∧ H b = some (.tup (ks.map kV)) := by
  obtain ⟨b, h1, h2⟩ := DV.keys (K := []) (kl := false) h.dv e
  exact ⟨b, h1, h2⟩
theorem pairs_rd {H : Hp} : ∀ {vs : List V} {ds : List D} {ps : List (List Key × D)}, RDs H vs ds → pairsD ds = some ps → ∃ (ts : List Addr) (qs : List (List Key × Addr × V)), vs = ts.map V.ref ∧ Paired (fun t q => H t = some (.tup [.ref q.2.1, q.2.2]) ∧ H q.2.1 = some (.tup (q.1.map kV))) ts qs ∧ RDT H (qs.map fun q => (q.1, q.2.2)) ps
  | _, _, _, .nil, e => by cases e; exact ⟨[], [], rfl, .nil, .nil⟩
  | v :: vs, d :: ds, ps, .cons r t, e => by
    unfold pairsD at e
    split at e
    · rename_i heq; cases heq
    · rename_i k x rest heq
      obtain ⟨rfl, rfl⟩ := List.cons.inj heq
      cases h1 : toKeys k with
      | none => rw [h1] at e; cases e
      | some ks =>
        cases h2 : pairsD ds with
        | none => rw [h1, h2] at e; cases e
        | some ps' =>
          rw [h1, h2] at e
          cases e
          obtain ⟨ts, qs, rfl, hp, hr⟩ := pairs_rd t h2
          cases r with
          | tup ht rs =>
            rename_i tt us
            cases rs with
            | cons rk r2 =>
              cases r2 with
              | cons rx r3 =>
                cases r3
                obtain ⟨b, rfl, hb⟩ := rd_key rk h1
                rename_i u
                exact ⟨tt :: ts, (ks, b, u) :: qs, rfl, .cons ⟨ht, hb⟩ hp, .cons ⟨rfl, rx⟩ hr⟩
    · cases e
section
variable {K : PySem.W.Frag}
theorem g_dictP : OpN K false (rDictP K) pDictP := by
  intro H vs xs res Q hv e q
  unfold pDictP at e
  split at e
  · rename_i ds
    cases hv with
    | cons h0 t =>
      cases t
      cases hp : pairsD ds with
      | none => rw [hp] at e; cases e
      | some ps =>
        rw [hp] at e
        cases e
        obtain ⟨a, us, rfl, hrd, rd⟩ := DV.rd h0
        obtain ⟨ts, qs, rfl, h1, h2⟩ := pairs_rd rd hp
        refine ⟨a, ts, qs, rfl, .inl hrd, h1, fun p hn => q _ _ ⟨same_new hn, ⟨p, _, rfl, upd_same, ?_⟩, fun _ => ⟨p, rfl, hn⟩, fun _ z => by cases z⟩⟩
        exact (RDT.merge h2 .nil).kp (Kp.new hn)
  · cases e
end
end Pw

set_option Elab.async false
set_option linter.all false
set_option maxRecDepth 100000
set_option maxHeartbeats 3200000
/-! Px: set(list), set(tuple): the loop over the items. -/
namespace Pw
open PySem PySem.Spec PyProof.Rows L2

section
variable {P : Program} {w : World} {A : Around} {E : Value → Shared → Prop} {s : Shared}
/-- a new set's own object -/
abbrev newSet (w : World) : Obj := { cls := .type "set", dict := none, data := .set #[] 0 (.fresh 0 0 (!w.params.followText "set-order")) }
/-- the heap in which the items begin to be put in; I the iterator -/
abbrev setHeap (w : World) (h : Heap) (T : String) (l : Addr) : Heap := (h.push (newSet w)).push { cls := .type T, data := .fields #[.ref l, .int 0 0] }
theorem none_at {h : Heap} {b : Addr} (hb : h.objs.size ≤ b) : h.get? b = none := by
  cases q : h.get? b with
  | none => rfl
  | some o => exact absurd (Nat.lt_of_lt_of_le (Heap.lt_size q) hb) (Nat.lt_irrefl _)
def isTy (T : String) (h : Heap) (l : Addr) (items : Array Value) : Prop := ∃ o, h.get? l = some o ∧ o.cls = .type T ∧ ∃ n, o.data = .seq items n
def LoopOk (P : Program) (w : World) (A : Around) (s : Shared) (T : String) (l : Addr) (items : Array Value) (Z : Shared → Prop) : Prop :=
  ∀ (St : Nat → Shared → Prop) (R : Result → Shared → Prop), WalksS P w A.in1.in1.in1 (s.heap.objs.size + 1) [s.heap.objs.size + 1, l] [s.heap.objs.size + 1] (fun g g' => g' = g) items.size (fun i v => items[i]? = some v) St →
    St 0 { s with heap := setHeap w s.heap (T ++ "_iterator") l } → (∀ s2, Z s2 → R (.ok (.ret .none)) s2) →
    codeAny (model P w) A.in1.in1 (.builtin "set.update.loop" ⟨[.ref s.heap.objs.size, .ref (s.heap.objs.size + 1)], []⟩) R { s with heap := setHeap w s.heap (T ++ "_iterator") l }
theorem set_call {T : String} {l : Addr} {items : Array Value} {Q : Value → Shared → Prop} {Z : Shared → Prop} (hT : T = "list" ∨ T = "tuple") (hh : A.handled = none) (hl : isTy T s.heap l items) (upd : LoopOk P w A s T l items Z)
    (hQ : ∀ s2, Z s2 → Q (.ref s.heap.objs.size) s2) : wpAny (model P w) A (call (.type "set") [.ref l]) Q E s := by
  obtain ⟨c, tl, hmro⟩ := F.called_set.mro
  have hmade := F.called_set.made
  have hsub := F.called_set.sub
  refine wpAny_call (codeAny_of_tree ?_)
  show wpAny _ _ (callAny (.type "set") _) _ _ _
  refine wpAny_pure ⟨Code.quiet_builtin _ (by decide +kernel), codeAny_builtin F.entry_type_call ?_⟩
  rw [Around.under_plain (weight_type_call_type "set" [.ref l] []) rfl]
  have h1 := F.called_set.notType
  have h2 := F.called_set.canCreate
  have hct := F.typeCall_set_1 (.ref l)
  repeat (any_goals (first | assumption | wp_step))
  refine codeAny_mono (code_set_led1 (.ref l) (E := E) (Q₁ := fun obj s₁ => obj = .ref s.heap.objs.size ∧ s₁ = { s with heap := s.heap.push (newSet w) }) ⟨rfl, rfl⟩) fun r s₁ hr => ?_
  cases r with
  | error e => exact hr
  | ok fl =>
    cases fl with
    | ret obj =>
      obtain ⟨rfl, rfl⟩ := hr
      have hS : (s.heap.push (newSet w)).get? s.heap.objs.size = some (newSet w) := Heap.get?_push_size _ rfl
      have hT1 : Shared.TypeIs { s with heap := s.heap.push (newSet w) } (.ref s.heap.objs.size) "set" := ⟨_, hS, rfl⟩
      have hli := F.called_set.init.lookup
      have hbi := F.called_set.init.bind (.ref s.heap.objs.size)
      repeat (any_goals (first | assumption | wp_step))
      refine codeAny_mono (codeAny_call_builtin (R := wants (fun r s₂ => r = .none ∧ Z s₂) E) F.called_set.init.plain F.entry_set_init (check_set_init_1 hT1 ?_)) fun r₂ s₂ hr₂ => ?_
      · obtain ⟨⟨ocls, odict, odata, oslots⟩, hol, hcl, nl, hdl⟩ := hl
        simp only at hcl hdl
        subst hcl; subst hdl
        have hol' : (s.heap.push (newSet w)).get? l = some { cls := .type T, dict := odict, data := .seq items nl, slots := oslots } := Heap.get?_push_of_some _ hol
        have hlS : l < s.heap.objs.size := Heap.lt_size hol
        have hh3 : A.in1.in1.in1.handled = none := by simp [hh]
        have hz1 : (s.heap.push (newSet w)).objs.size = s.heap.objs.size + 1 := Heap.size_push ..
        have hneI : l ≠ s.heap.objs.size + 1 := Nat.ne_of_lt (Nat.lt_succ_of_lt hlS)
        have f1 : PySem.isSubtype (.type T) (.type "set") = pure false := by
          rcases hT with rfl | rfl
          · exact F.sub_list_set
          · exact F.sub_tuple_set
        have f2 : PySem.isSubtype (.type T) (.type "frozenset") = pure false := by
          rcases hT with rfl | rfl
          · exact F.sub_list_frozenset
          · exact F.sub_tuple_frozenset
        have hne : (Value.type T == Value.type "dict") = false := by
          rcases hT with rfl | rfl <;> decide
        have hI : (setHeap w s.heap (T ++ "_iterator") l).get? (s.heap.objs.size + 1) = some { cls := .type (T ++ "_iterator"), data := .fields #[.ref l, .int 0 0] } := by
          rw [← hz1]
          exact Heap.get?_push_size _ rfl
        unfold Builtin.«set.__init__» noKeywords Builtin.Frozenset.updateFrom
        generalize hPI : pyIter = PI
        wp_walk
        subst hPI
        rcases hT with rfl | rfl
        · have hl1 : (s.heap.push (newSet w)).IsList l items := ⟨_, hol', rfl, nl, rfl⟩
          refine wpAny_pyIter_list hl1 ?_
          refine wpAny_bind (wpAny_runValue ?_)
          rw [hz1]
          refine upd _ _ (Walks.list hh3 _ l hneI items).toS ⟨⟨_, hI, rfl, rfl⟩, hl1.push _⟩ fun s2 hz => ?_
          show wpAny _ _ _ _ _ _
          refine wpAny_pure ?_
          show wpAny _ _ (ret Value.none) _ _ _
          exact wpAny_pure ⟨rfl, hz⟩
        · have hl1 : (s.heap.push (newSet w)).IsTuple l items := ⟨_, hol', rfl, nl, rfl⟩
          refine wpAny_pyIter_tuple hl1 ?_
          refine wpAny_bind (wpAny_runValue ?_)
          rw [hz1]
          refine upd _ _ (Walks.tuple hh3 _ l hneI items).toS ⟨⟨_, hI, rfl, rfl⟩, hl1.push _⟩ fun s2 hz => ?_
          show wpAny _ _ _ _ _ _
          refine wpAny_pure ?_
          show wpAny _ _ (ret Value.none) _ _ _
          exact wpAny_pure ⟨rfl, hz⟩
      · cases r₂ with
        | error e => exact hr₂
        | ok fl₂ =>
          cases fl₂ with
          | ret r =>
            obtain ⟨rfl, hz⟩ := hr₂
            repeat (any_goals (first | assumption | wp_step))
            exact hQ _ hz
          | _ => exact hr₂.elim
    | _ => exact hr.elim
end
end Pw

set_option Elab.async false
set_option linter.all false
set_option maxRecDepth 100000
set_option maxHeartbeats 3200000
/-! Px: len(set(..)), sorted(set(..)) of tuples of ints, of ints. -/
namespace Pw
open PySem PySem.Spec PyProof.Rows L2 PySem.W

/-- each once -/
def ddG {α : Type} [DecidableEq α] : List α → List α
  | [] => []
  | x :: r => if x ∈ r then ddG r else x :: ddG r
section
variable {α : Type} [DecidableEq α]
theorem mem_ddG {y : α} : ∀ {l : List α}, y ∈ ddG l ↔ y ∈ l
  | [] => by simp [ddG]
  | x :: r => by
    unfold ddG
    split
    · rename_i h
      rw [mem_ddG (l := r), List.mem_cons]
      exact ⟨.inr, fun z => z.elim (fun e => e ▸ h) id⟩
    · rw [List.mem_cons, List.mem_cons, mem_ddG (l := r)]
theorem ddG_nodup : ∀ l : List α, (ddG l).Nodup
  | [] => List.nodup_nil
  | x :: r => by
    unfold ddG
    split
    · exact ddG_nodup r
    · rename_i h
      exact List.nodup_cons.mpr ⟨fun m => h (mem_ddG.mp m), ddG_nodup r⟩
theorem ddG_perm {l k : List α} (nd : k.Nodup) (h : ∀ y, y ∈ k ↔ y ∈ l) : k.Perm (ddG l) := (List.perm_ext_iff_of_nodup nd (ddG_nodup l)).mpr fun y => (h y).trans mem_ddG.symm
theorem ddG_le : ∀ l : List α, (ddG l).length ≤ l.length
  | [] => Nat.le_refl _
  | x :: r => by
    unfold ddG
    split
    · exact Nat.le_succ_of_le (ddG_le r)
    · exact Nat.succ_le_succ (ddG_le r)
theorem ddG_self {l : List α} (nd : l.Nodup) : ddG l = l := by
  induction l with
  | nil => rfl
  | cons x r ih =>
    obtain ⟨h1, h2⟩ := List.nodup_cons.mp nd
    unfold ddG
    rw [if_neg h1, ih h2]
theorem ddG_len_iff : ∀ {l : List α}, (ddG l).length = l.length ↔ l.Nodup
  | [] => ⟨fun _ => List.nodup_nil, fun _ => rfl⟩
  | x :: r => by
    unfold ddG
    split
    · rename_i h
      refine ⟨fun e => ?_, fun n => absurd h (List.nodup_cons.mp n).1⟩
      have := ddG_le r
      rw [List.length_cons] at e
      omega
    · rename_i h
      rw [List.length_cons, List.length_cons, List.nodup_cons]
      have := ddG_len_iff (l := r)
      exact ⟨fun e => ⟨h, this.mp (by omega)⟩, fun n => by have := this.mpr n.2; omega⟩
end
theorem perm_map_ex {α β : Type} {f : α → β} {vs us : List β} (h : vs.Perm us) : ∀ {L : List α}, us = L.map f → ∃ L1 : List α, vs = L1.map f ∧ L1.Perm L := by
  induction h with
  | nil => intro L e; exact ⟨L, e, List.Perm.refl _⟩
  | cons x _ ih =>
    intro L e
    cases L with
    | nil => cases e
    | cons a L =>
      obtain ⟨rfl, e2⟩ := List.cons.inj e
      obtain ⟨L1, e3, p⟩ := ih e2
      exact ⟨a :: L1, by rw [List.map_cons, e3], p.cons a⟩
  | swap x y l =>
    intro L e
    match L, e with
    | a :: b :: L, e =>
      obtain ⟨rfl, e2⟩ := List.cons.inj e
      obtain ⟨rfl, rfl⟩ := List.cons.inj e2
      exact ⟨b :: a :: L, rfl, List.Perm.swap _ _ _⟩
  | trans _ _ ih1 ih2 =>
    intro L e
    obtain ⟨L2, e2, p2⟩ := ih2 e
    obtain ⟨L1, e1, p1⟩ := ih1 e2
    exact ⟨L1, e1, p1.trans p2⟩
/-- tuples of ints -/
def tupIs : List D → Option (List (List Int))
  | [] => some []
  | .tuple ys :: r => match asInts ys, tupIs r with
    | some k, some ks => some (k :: ks)
    | _, _ => none
  | _ => none
def tupI (k : List Int) : D := .tuple (k.map PyData.int)
theorem tupIs_map : ∀ {xs : List D} {ks : List (List Int)}, tupIs xs = some ks → xs = ks.map tupI
  | [], _, e => by cases e; rfl
  | x :: xs, ks, e => by
    unfold tupIs at e
    split at e
    · rename_i z; cases z
    · rename_i ys r heq
      obtain ⟨rfl, rfl⟩ := List.cons.inj heq
      cases h1 : asInts ys with
      | none => rw [h1] at e; cases e
      | some k =>
        cases h2 : tupIs xs with
        | none => rw [h1, h2] at e; cases e
        | some ks' =>
          rw [h1, h2] at e
          cases e
          rw [List.map_cons, ← tupIs_map h2, asInts_map h1]
          rfl
    · cases e
theorem tupIs_of : ∀ ks : List (List Int), tupIs (ks.map tupI) = some ks
  | [] => rfl
  | k :: ks => by
    show (match asInts (k.map PyData.int), tupIs (ks.map tupI) with | some k, some ks => some (k :: ks) | _, _ => none) = _
    rw [asInts_of, tupIs_of ks]
theorem tups_rd {H : Hp} : ∀ {vs : List V} {ks : List (List Int)}, RDs H vs (ks.map tupI) → ∃ L : List (Addr × List Int), vs = L.map (fun p => V.ref p.1) ∧ L.map (·.2) = ks ∧ ∀ p ∈ L, H p.1 = some (.tup (p.2.map V.int))
  | _, [], .nil => ⟨[], rfl, rfl, fun p m => nomatch m⟩
  | v :: vs, k :: ks, .cons r t => by
    obtain ⟨L, rfl, rfl, h⟩ := tups_rd t
    cases r with
    | tup h1 h2 =>
      rename_i a us
      have e := h2.ints
      subst e
      refine ⟨(a, k) :: L, rfl, rfl, fun p m => ?_⟩
      rcases List.mem_cons.mp m with e | m
      · subst e; exact h1
      · exact h p m
section
variable {X : Cx}
/-- a list or a tuple, walked -/
def SqA (K : PySem.W.Frag) (H : Hp) (l : Addr) (vs : List V) : Prop := SqL K H l vs ∨ SqT K H l vs
theorem SqA.ty {pins : List (Addr × Obj)} {σ : L2.St} {H : Hp} {s : Shared} {l : Addr} {vs : List V} (I : Inv X pins σ H s) (h : SqA X.K H l vs) : ∃ (T : String) (its : List Value), (T = "list" ∨ T = "tuple") ∧ Vals vs its ∧ isTy T s.heap l its.toArray ∧ vs.length ≤ sizeLine := by
  rcases h with h | h
  · obtain ⟨its, rv, pl, hz⟩ := I.list h
    exact ⟨"list", its, .inl rfl, rv, pl.isList, hz⟩
  · obtain ⟨its, rv, pt, hz⟩ := I.tuple h
    exact ⟨"tuple", its, .inr rfl, rv, pt, hz⟩
theorem set_tups {A : Around} {E : Value → Shared → Prop} {pins : List (Addr × Obj)} {σ : L2.St} {H : Hp} {s : Shared} {l : Addr} {L0 : List (Addr × List Int)} {Q : Value → Shared → Prop} (I : Inv X pins σ H s) (hh : A.handled = none) (hu : A.units + 3 < cLine) (h : SqA X.K H l (L0.map fun p => V.ref p.1)) (hk : ∀ p ∈ L0, SqT X.K H p.1 (p.2.map V.int)) (hf : L0.length < 64)
    (hQ : ∀ (h' : Heap) (tk : Nat) L es ep t, SetTR X.prog X.w h' s.heap.objs.size L es ep t → Got L0 L0.length L → (∀ b o, s.heap.get? b = some o → h'.get? b = some o) → Q (.ref s.heap.objs.size) { s with heap := h', toks := tk }) :
    wpAny (model X.prog X.w) A (call (.type "set") [.ref l]) Q E s := by
  obtain ⟨T, its, hT, rv, ty, hz⟩ := h.ty I
  have hit : its = L0.map fun p => Value.ref p.1 := refs_of_vals rv
  subst hit
  have hlt : l < s.heap.objs.size := by
    obtain ⟨o, ho, _⟩ := ty
    exact Heap.lt_size ho
  refine set_call (Z := fun s2 => ∃ L es ep t, s2 = { s with heap := s2.heap, toks := s2.toks } ∧ SetTR X.prog X.w s2.heap s.heap.objs.size L es ep t ∧ Got L0 L0.length L ∧ ∀ b o, s.heap.get? b = some o → s2.heap.get? b = some o) hT hh ty (fun St R W hst hR => ?_) fun s2 ⟨L, es, ep, t, e, h1, h2, h3⟩ => ?_
  · have hn : (L0.map fun p => Value.ref p.1).toArray.size = L0.length := by simp
    have keep : ∀ b o, s.heap.get? b = some o → (setHeap X.w s.heap (T ++ "_iterator") l).get? b = some o := fun b o e => Heap.get?_push_of_some _ (Heap.get?_push_of_some _ e)
    refine set_update_tups (A := A.in1.in1) W s.heap.objs.size (by
        simp only [List.mem_cons, List.mem_singleton, List.not_mem_nil, or_false, not_or]
        exact ⟨Nat.ne_of_lt (Nat.lt_succ_self _), Nat.ne_of_gt hlt⟩) L0 hn hf (fun i v e => ?_) s.heap (fun p m => I.isT (hk p m)) (none_at (Nat.le_refl _)) (fun b hb => none_at (by rw [List.mem_singleton.mp hb]; exact Nat.le_succ _)) hu _ 0 _ rfl (Nat.zero_le _) hst keep
      ⟨[], #[], 0, _, setTR_fresh (Heap.get?_push_of_some _ (Heap.get?_push_size _ rfl)), Got.zero L0⟩ fun s' L es ep t hm hS g kp => hR s' ⟨L, es, ep, t, ?_, hS, by rw [hn] at g; exact g, kp⟩
    · have e' : (L0.map fun p => Value.ref p.1).toArray[i]? = some v := e
      rw [List.getElem?_toArray, List.getElem?_map] at e'
      obtain ⟨p, e1, e2⟩ := Option.map_eq_some_iff.mp e'
      exact ⟨p, e1, e2.symm⟩
    · obtain ⟨h', g2, d', tk', os'⟩ := s'
      have eg : g2 = s.gens := hm.gens
      have ed : d' = s.drawn := hm.drawn
      have eo : os' = s.os := hm.os
      subst eg; subst ed; subst eo
      rfl
  · rw [e]
    exact hQ _ _ L es ep t h1 h2 h3
end
end Pw

set_option Elab.async false
set_option linter.all false
set_option maxRecDepth 100000
set_option maxHeartbeats 3200000
/-! Px: len(set(..)), sorted(set(..)) as programs over slots. -/
namespace Pw
open PySem PySem.Spec PyProof.Rows L2 PySem.W

section
variable {X : Cx} {W : WX} {OW : Nat → Bool} {a : Expr} {m : ME} {p p2 q pos : Pos}
theorem set_ints {A : Around} {E : Value → Shared → Prop} {pins : List (Addr × Obj)} {σ : L2.St} {H : Hp} {s : Shared} {l : Addr} {ns : List Int} {Q : Value → Shared → Prop} (I : Inv X pins σ H s) (hh : A.handled = none) (h : SqA X.K H l (ns.map V.int)) (hf : ns.length < 1000)
    (hQ : ∀ (h' : Heap) (tk c : Nat), SetR X.w h' s.heap.objs.size (fun j => decide (j ∈ ns)) c → (∀ b o, s.heap.get? b = some o → h'.get? b = some o) → Q (.ref s.heap.objs.size) { s with heap := h', toks := tk }) :
    wpAny (model X.prog X.w) A (call (.type "set") [.ref l]) Q E s := by
  obtain ⟨T, its, hT, rv, ty, hz⟩ := h.ty I
  have hi : IntsAre its ns := rv.ints
  have hlt : l < s.heap.objs.size := by
    obtain ⟨o, ho, _⟩ := ty
    exact Heap.lt_size ho
  have hl : its.length = ns.length := by rw [← rv.length, List.length_map]
  refine set_call (Z := fun s2 => ∃ c, s2 = { s with heap := s2.heap, toks := s2.toks } ∧ SetR X.w s2.heap s.heap.objs.size (fun j => decide (j ∈ ns)) c ∧ ∀ b o, s.heap.get? b = some o → s2.heap.get? b = some o) hT hh ty (fun St R W hst hR => ?_) fun s2 ⟨c, e, h1, h2⟩ => ?_
  · have hn : its.toArray.size = ns.length := by simpa using hl
    refine set_update_ints (A := A.in1.in1) W s.heap.objs.size (by
        simp only [List.mem_cons, List.mem_singleton, List.not_mem_nil, or_false, not_or]
        exact ⟨Nat.ne_of_lt (Nat.lt_succ_self _), Nat.ne_of_gt hlt⟩) ns hn (by unfold scanBound; omega) (fun i v e => ?_) _ 0 _ rfl (Nat.zero_le _) hst ⟨0, Nat.le_refl 0, setR_new_at (Heap.get?_push_of_some _ (Heap.get?_push_size _ rfl))⟩
      fun s' c hm hc hS => hR s' ⟨c, ?_, hS, fun b o e => ?_⟩
    · have e' : its.toArray[i]? = some v := e
      rw [List.getElem?_toArray] at e'
      have hlt2 : i < ns.length := by rw [← hl]; exact (List.getElem?_eq_some_iff.mp e').1
      obtain ⟨t, ht⟩ := PyProof.Rows.IntsAre.int_at hi i v e'
      refine ⟨ns[i], t, List.getElem?_eq_getElem hlt2, ?_⟩
      rw [ht, List.getD_eq_getElem?_getD, List.getElem?_eq_getElem hlt2] <;> rfl
    · obtain ⟨h', g2, d', tk', os'⟩ := s'
      have eg : g2 = s.gens := hm.gens
      have ed : d' = s.drawn := hm.drawn
      have eo : os' = s.os := hm.os
      subst eg; subst ed; subst eo
      rfl
    · have hb0 : b < s.heap.objs.size := Heap.lt_size e
      refine hm.heap b o ?_ (Heap.get?_push_of_some _ (Heap.get?_push_of_some _ e))
      simp only [List.mem_cons, List.mem_singleton, List.not_mem_nil, or_false, not_or]
      exact ⟨Nat.ne_of_lt hb0, Nat.ne_of_lt (Nat.lt_succ_of_lt hb0)⟩
  · rw [e]
    exact hQ _ _ c h1 h2
/-- what may be put into a set: tuples of ints, fewer than 64; ints, fewer than 1000 -/
inductive SetK (K : PySem.W.Frag) (H : Hp) (l : Addr) : List D → Prop
  | tups (L : List (Addr × List Int)) : SqA K H l (L.map fun p => V.ref p.1) → (∀ p ∈ L, H p.1 = some (.tup (p.2.map V.int))) → L.length < 64 → SetK K H l ((ddG (L.map (·.2))).map tupI)
  | nums (ns : List Int) : SqA K H l (ns.map V.int) → ns.length < 1000 → SetK K H l ((ddG ns).map PyData.int)
def seqD : D → Option (List D)
  | .list xs => some xs
  | .tuple xs => some xs
  | _ => none
/-- the set's items, in some order -/
def setD (x : D) : Option (List D) := match seqD x with
  | none => none
  | some xs => match asInts xs with
    | some ns => if ns.length < 1000 then some ((ddG ns).map PyData.int) else none
    | none => match tupIs xs with
      | some ks => if ks.length < 64 then some ((ddG ks).map tupI) else none
      | none => none
theorem setD_at {K : PySem.W.Frag} {H : Hp} {v : V} {x : D} {ds : List D} (h : DV K true H v x) (e : setD x = some ds) : ∃ l, v = .ref l ∧ SetK K H l ds := by
  have sq : ∃ l vs xs, v = .ref l ∧ SqA K H l vs ∧ RDs H vs xs ∧ seqD x = some xs := by
    cases x with
    | list xs =>
      obtain ⟨l, vs, rfl, hs, r⟩ := h.sq
      exact ⟨l, vs, xs, rfl, .inl hs, r, rfl⟩
    | tuple xs =>
      obtain ⟨l, vs, rfl, hs, r⟩ := h
      exact ⟨l, vs, xs, rfl, .inr (.inl (.inl hs)), r, rfl⟩
    | _ => simp [setD, seqD] at e
  obtain ⟨l, vs, xs, rfl, hs, r, ex⟩ := sq
  refine ⟨l, rfl, ?_⟩
  unfold setD at e
  rw [ex] at e
  cases h1 : asInts xs with
  | some ns =>
    simp only [h1] at e
    by_cases c : ns.length < 1000
    · rw [if_pos c] at e
      cases e
      rw [asInts_map h1] at r
      rw [r.ints] at hs
      exact .nums ns hs c
    · rw [if_neg c] at e; cases e
  | none =>
    simp only [h1] at e
    cases h2 : tupIs xs with
    | none => rw [h2] at e; cases e
    | some ks =>
      simp only [h2] at e
      by_cases c : ks.length < 64
      · rw [if_pos c] at e
        cases e
        rw [tupIs_map h2] at r
        obtain ⟨L, rfl, rfl, hk⟩ := tups_rd r
        exact .tups L hs hk (by simpa using c)
      · rw [if_neg c] at e; cases e
def lenSetA (x : D) : Option R := (setD x).map fun ds => .d (.int (ds.length : Nat))
theorem got_perm {L0 L : List (Addr × List Int)} (g : Got L0 L0.length L) (nd : (L.map (·.2)).Nodup) : (L.map (·.2)).Perm (ddG (L0.map (·.2))) := ddG_perm nd fun y => by
  constructor
  · intro h
    obtain ⟨p, hp, rfl⟩ := List.mem_map.mp h
    exact List.mem_map.mpr ⟨p, List.mem_of_mem_take (g.sub p hp), rfl⟩
  · intro h
    obtain ⟨p, hp, rfl⟩ := List.mem_map.mp h
    exact g.all p (by rw [List.take_length]; exact hp)
theorem pe_lenSetA {ta : TE} (hc : X.calm = true) (hu : X.A.units + 64 < cLine) (hg : Gl X "len") (hm : X.mg "len" = none) (hg2 : Gl X "set") (hm2 : X.mg "set" = none) (ha : PE X a ta) (na : starEach [a] X.env = (false, eval a X.env) :: starEach [] X.env) :
    PE X (.Call (.Name "len" p) [.Call (.Name "set" p2) [a] [] q] [] pos) (fun σ H Q => ta σ H fun x H1 => ∃ (l : Addr) (ds : List D), x = V.ref l ∧ SetK X.K H1 l ds ∧ Q (.int (ds.length : Nat)) H1) := by
  refine ⟨fun pins s σ H Q I h => ?_⟩
  refine Call_ (ld_blt I hg hm PySem.boot_len (PyProof.Rows.callWith_builtin1 (PyProof.Rows.args_cons ?_ rfl) rfl rfl))
  refine Call_ (ld_blt I hg2 hm2 PyProof.Rows.boot_set (PyProof.Rows.callWith_type1 (PyProof.Rows.args_cons (thn (ha.run pins s σ H _ I h) fun v s1 ⟨x, H1, I1, r1, q1⟩ => PyProof.Rows.args_nil ?_) na) na rfl))
  obtain ⟨l, ds, rfl, hk, q1⟩ := q1
  cases r1
  refine (?_ : wpAny (model X.prog X.w) X.A (call (.type "set") [.ref l]) _ X.xe s1)
  cases hk with
  | tups L hs hk hf =>
    refine set_tups I1 (I1.ok.hd hc) (by omega) hs (fun p m => .inl (.inl (hk p m))) hf fun h' tk L' es ep t R g k => PyProof.Rows.args_nil ?_
    have I2 : Inv X pins σ H1 { s1 with heap := h', toks := tk } := I1.kept k
    obtain ⟨o, ho, hex, hd⟩ := R.ob
    have e : es.size = ((ddG (L.map (·.2))).map tupI).length := by
      rw [SetTR.size (s := { s1 with heap := h', toks := tk }) R, List.length_map, ← (got_perm g R.nd).length_eq, List.length_map]
    have hf2 := R.few
    have hs2 := SetTR.size (s := { s1 with heap := h', toks := tk }) R
    exact call_len_set ho hex hd (SetTR.fits (s := { s1 with heap := h', toks := tk }) R) (by omega) ⟨.int (((ddG (L.map (·.2))).map tupI).length : Nat), H1, I2.tok _, ⟨_, by rw [e]⟩, q1⟩
  | nums ns hs hf =>
    refine set_ints I1 (I1.ok.hd hc) hs hf fun h' tk c R k => PyProof.Rows.args_nil ?_
    have I2 : Inv X pins σ H1 { s1 with heap := h', toks := tk } := I1.kept k
    obtain ⟨o, es, ep, t, ho, hex, hdt, g, nd, hm3, hb, hf2, hn, hr, hl2⟩ := R
    have e : es.size = ((ddG ns).map PyData.int).length := by
      have z := (ddG_perm (l := ns) nd fun y => by rw [← hm3 y, decide_eq_true_eq]).length_eq
      rw [List.length_map, Array.length_toList] at z
      rw [List.length_map]
      exact z
    have hle := ddG_le ns
    rw [List.length_map] at e
    exact call_len_set ho hex hdt hf2 (by rw [e]; omega) ⟨.int (((ddG ns).map PyData.int).length : Nat), H1, I2.tok _, ⟨_, by rw [e, List.length_map]⟩, q1⟩
theorem de_lenSetA (hc : X.calm = true) (hu : X.A.units + 64 < cLine) (hm : X.mg "len" = none) (hm2 : X.mg "set" = none) (ha : DE X W OW a m) (hg : Gl X "len" := by rfl) (hg2 : Gl X "set" := by rfl) (na : starEach [a] X.env = (false, eval a X.env) :: starEach [] X.env := by rfl) :
    DE X W OW (.Call (.Name "len" p) [.Call (.Name "set" p2) [a] [] q] [] pos) (m1 true lenSetA m) := by
  refine pe_le (pe_lenSetA hc hu hg hm hg2 hm2 ha na) fun σ H Q ⟨H0, P, env, L, Rl, S⟩ => ⟨H0, P, env, L, Rl, (Sat.bind S).mono fun r e1 _ S1 v H1 R1 => ?_⟩
  cases hd : r.dat true e1 with
  | none => simp only [hd] at S1; exact S1.elim
  | some x =>
    simp only [hd] at S1
    cases hx : setD x with
    | none => simp only [lenSetA, hx, Option.map_none] at S1; exact S1.elim
    | some ds =>
      simp only [lenSetA, hx, Option.map_some] at S1
      obtain ⟨l, rfl, sk⟩ := setD_at (R1.dv List.mem_cons_self hd) hx
      exact ⟨l, ds, rfl, sk, S1 _ _ (R1.drop.post (Post.dat (.int _)))⟩
end
end Pw

set_option Elab.async false
set_option linter.all false
set_option maxRecDepth 100000
set_option maxHeartbeats 3200000
/-! Px: sorted(set(..)); the order. -/
namespace Pw
open PySem PySem.Spec PyProof.Rows L2 PySem.W

theorem leD_kle (a b : D) : leD a b = true ↔ (listOrd itemOrd).kle (keyToks a) (keyToks b) := by
  unfold leD
  rw [ltD_eq]
  show (!PyProof.Rows.lexLt itemOrd (keyToks b) (keyToks a)) = true ↔ PyProof.Rows.lexLt itemOrd (keyToks b) (keyToks a) = false
  cases PyProof.Rows.lexLt itemOrd (keyToks b) (keyToks a) <;> simp
theorem leD_trans {a b c : D} (h1 : leD a b = true) (h2 : leD b c = true) : leD a c = true := (leD_kle a c).mpr (KeyOrd.kle_trans ((leD_kle a b).mp h1) ((leD_kle b c).mp h2))
theorem leD_total (a b : D) : (leD a b || leD b a) = true := by
  cases h : leD a b with
  | true => rfl
  | false =>
    have n : ¬ (listOrd itemOrd).kle (keyToks a) (keyToks b) := fun z => by rw [(leD_kle a b).mpr z] at h; cases h
    have lt : (listOrd itemOrd).klt (keyToks b) (keyToks a) := by
      apply Classical.byContradiction
      intro z
      exact n (KeyOrd.kle_of_not_klt z)
    rw [(leD_kle b a).mpr (KeyOrd.kle_of_klt lt)]
    rfl
theorem sort_pw (l : List D) : (l.mergeSort leD).Pairwise fun a b => leD a b = true := List.pairwise_mergeSort (le := leD) (fun _ _ _ => leD_trans) leD_total l
/-- a list in order, of the same items: the sorted one, where the order tells items apart -/
theorem sort_eq {l m : List D} (h : ∀ a ∈ m, ∀ b ∈ m, leD a b = true → leD b a = true → a = b) (p : m.Perm l) (s : m.Pairwise fun a b => leD a b = true) : l.mergeSort leD = m := by
  have p2 : (l.mergeSort leD).Perm m := (List.mergeSort_perm l leD).trans p.symm
  have s2 := sort_pw l
  generalize l.mergeSort leD = k at p2 s2
  clear p l
  induction m generalizing k with
  | nil => exact p2.eq_nil
  | cons x m ih =>
    cases k with
    | nil => exact absurd p2.symm.eq_nil (by simp)
    | cons y k =>
      have e : y = x := by
        rcases List.mem_cons.mp (p2.mem_iff.mp List.mem_cons_self) with e | hy
        · exact e
        · rcases List.mem_cons.mp (p2.symm.mem_iff.mp List.mem_cons_self) with e | hx
          · exact e.symm
          · have h1 : leD x y = true := (List.pairwise_cons.mp s).1 y hy
            have h2 : leD y x = true := (List.pairwise_cons.mp s2).1 x hx
            exact (h x List.mem_cons_self y (List.mem_cons_of_mem _ hy) h1 h2).symm
      subst e
      rw [ih (fun a ha b hb => h a (List.mem_cons_of_mem _ ha) b (List.mem_cons_of_mem _ hb)) (List.pairwise_cons.mp s).2 k p2.cons_inv (List.pairwise_cons.mp s2).2]
theorem sort_perm {l m : List D} (h : ∀ a ∈ l, ∀ b ∈ l, leD a b = true → leD b a = true → a = b) (p : l.Perm m) : l.mergeSort leD = m.mergeSort leD := by
  have q : (l.mergeSort leD).Perm m := (List.mergeSort_perm l leD).trans p
  exact (sort_eq (fun a ha b hb => h a ((List.mergeSort_perm l leD).mem_iff.mp ha) b ((List.mergeSort_perm l leD).mem_iff.mp hb)) q (sort_pw l)).symm
theorem ltD_tupI (k k' : List Int) : ltD (tupI k) (tupI k') = decide (k < k') := by
  rw [ltD_eq]
  show dataLt (.tuple _) (.tuple _) = _
  rw [dataLt_tuple]
  exact dataLt_ints k k'
theorem leD_tupI (k k' : List Int) : leD (tupI k) (tupI k') = decide (k ≤ k') := by
  unfold leD
  rw [ltD_tupI]
  by_cases h : k' < k
  · rw [decide_eq_true h, decide_eq_false (fun z => List.not_lt.mpr z h)] <;> rfl
  · rw [decide_eq_false h, decide_eq_true (List.not_lt.mp h)] <;> rfl
theorem leD_int (i j : Int) : leD (.int i) (.int j) = decide (i ≤ j) := by
  show (!decide (j < i)) = _
  by_cases h : j < i
  · rw [decide_eq_true h, decide_eq_false (by omega)] <;> rfl
  · rw [decide_eq_false h, decide_eq_true (by omega)] <;> rfl
/-- the order tells these apart -/
def Apart (l : List D) : Prop := ∀ a ∈ l, ∀ b ∈ l, leD a b = true → leD b a = true → a = b
theorem apart_tupI (ks : List (List Int)) : Apart (ks.map tupI) := by
  intro a ha b hb h1 h2
  obtain ⟨k, _, rfl⟩ := List.mem_map.mp ha
  obtain ⟨k', _, rfl⟩ := List.mem_map.mp hb
  rw [leD_tupI, decide_eq_true_eq] at h1 h2
  rw [List.le_antisymm h1 h2]
theorem apart_int (ns : List Int) : Apart (ns.map PyData.int) := by
  intro a ha b hb h1 h2
  obtain ⟨k, _, rfl⟩ := List.mem_map.mp ha
  obtain ⟨k', _, rfl⟩ := List.mem_map.mp hb
  rw [leD_int, decide_eq_true_eq] at h1 h2
  rw [Int.le_antisymm h1 h2]
theorem okDs_ints (ns : List Int) (n : Nat) : okDs n (ns.map PyData.int) = true := okDs_all.mpr fun d m => by
  obtain ⟨k, _, rfl⟩ := List.mem_map.mp m
  exact okD_int _ _
theorem sortOk_tupI (ks : List (List Int)) : sortOk (ks.map tupI) = true := by
  unfold sortOk
  simp only [Bool.and_eq_true, List.all_eq_true]
  refine ⟨⟨okDs_all.mpr fun d m => ?_, fun x hx y hy => ?_⟩, fun x hx => ?_⟩
  · obtain ⟨k, _, rfl⟩ := List.mem_map.mp m
    show okD (39 + 1) (.tuple _) = true
    simpa [okD] using okDs_ints k 39
  · obtain ⟨k, _, rfl⟩ := List.mem_map.mp hx
    obtain ⟨k', _, rfl⟩ := List.mem_map.mp hy
    show alike (.tuple _) (.tuple _) = true
    simpa [alike] using alike_ints k k'
  · obtain ⟨k, _, rfl⟩ := List.mem_map.mp hx
    rfl
theorem sortOk_int (ns : List Int) : sortOk (ns.map PyData.int) = true := by
  unfold sortOk
  simp only [Bool.and_eq_true, List.all_eq_true]
  refine ⟨⟨okDs_ints ns 40, fun x hx y hy => ?_⟩, fun x hx => ?_⟩
  · obtain ⟨k, _, rfl⟩ := List.mem_map.mp hx
    obtain ⟨k', _, rfl⟩ := List.mem_map.mp hy
    simp [alike]
  · obtain ⟨k, _, rfl⟩ := List.mem_map.mp hx
    rfl

/-! ### sorted of a set that has just been made -/
section
variable {prog : Program} {w : World} {A : Around} {E : Value → Shared → Prop} {s : Shared}
theorem sort_collected {S : Addr} {es : Array (Int × Value)} {ep : Nat} {t : SetTable} {Q : Value → Shared → Prop} (ha : SetAt s.heap S es ep t) (hf : t.fits es.size = true) (hsz : es.size < scanBound) (r : Ris t.place.toList) (hl : w.params.followText "set-order" = true ∨ t.led = true) (hh : A.handled = none) (hz : es.size ≤ sizeLine) (hu : A.units + 44 < cLine)
    (hP : ∀ vs : List Value, vs.Perm (es.toList.map (·.2)) → ∃ ps : VD, EachIs (fun v (p : V × D) => RelV p.1 v) vs ps ∧ EachIs (fun v (p : V × D) => ∃ as, Reads s.heap v p.2 as) vs ps ∧ sortOk (ps.map (·.2)) = true ∧
      ∀ s' out p c, (∀ b o, s.heap.get? b = some o → s'.heap.get? b = some o) → s'.gens = s.gens → s'.os = s.os → s.heap.objs.size ≤ p → s'.heap.get? p = some (seqObj "list" (List.toArray out) c) → EachIs (fun v (p : V × D) => RelV p.1 v) out (ps.mergeSort lePair) → Q (.ref p) s') :
    wpAny (model prog w) A (call (.builtin "sorted") [.ref S]) Q E s := by
  refine Calls.call_function_entry kind_sorted plain_sorted entry_sorted (args_sorted1 _) ?_
  unfold Builtin.«sorted»
  refine wpAny_bind (m := checkCount "sorted" 1 1 _) (wpAny_pure ?_)
  refine wpAny_bind (collect_set (A := A.in1) hh ha hf hsz r hl fun s1 vs k1 hz1 g1 o1 pm => ?_)
  obtain ⟨ps, p1, p2, p3, hQ⟩ := hP vs pm
  obtain ⟨h1, h2, h3⟩ := sortOk_spec p3
  have hvl : vs.length ≤ sizeLine := by rw [pm.length_eq, List.length_map, Array.length_toList]; exact hz
  refine wpAny_bind (wpAny_newList ?_ hvl)
  have hoL : (s1.heap.push (seqObj "list" vs.toArray 0)).get? s1.heap.objs.size = some (seqObj "list" vs.toArray 0) := Heap.get?_push_size _ rfl
  have er : EachIs (fun v (p : V × D) => ∃ as, Reads (sortingHeap (s1.heap.push (seqObj "list" vs.toArray 0)) s1.heap.objs.size vs) v p.2 as) vs ps :=
    p2.mono fun v p ⟨as, rr⟩ => ⟨as, PyProof.Rows.Reads.keeps (fun b o eb => sortingHeap_old (Nat.ne_of_lt (Heap.lt_size (k1 b o eb))) (Heap.get?_push_of_some _ (k1 b o eb))) rr⟩
  have srt := sorts_pairs (prog := prog) (w := w) (A := A.in1.in1) (s := s1) er h2 h3 h1 (by show A.units + 2 + 42 < cLine; omega)
  refine wpAny_bind (wpAny_holding (wpAny_call_entry slot_list_sort ⟨_, hoL, rfl⟩ entry_list_sort (list_sort_vals (s := { s1 with heap := s1.heap.push (seqObj "list" vs.toArray 0) }) hoL srt hvl ⟨_, rfl, ?_⟩) (args_list_sort _)))
  have fin := sortVals_data (enc := fun p : V × D => p.2) false p1 er h2
  rw [lePair_le] at fin
  obtain ⟨c, hc⟩ := sortedHeap_at (vs := vs) (out := (sortVals (dataKind (sortingHeap (s1.heap.push (seqObj "list" vs.toArray 0)) s1.heap.objs.size vs) (ps.map (·.2))) false vs vs).toArray) hoL
  refine wpAny_pure ⟨_, rfl, hQ _ _ s1.heap.objs.size c (fun b u e => ?_) g1 o1 hz1 hc fin⟩
  have q := k1 b u e
  have hlt := Heap.lt_size q
  show (sortedHeap (s1.heap.push (seqObj "list" vs.toArray 0)) s1.heap.objs.size vs _).get? b = some u
  rw [sortedHeap_old (Nat.ne_of_lt hlt) (by rw [size_push']; exact Nat.lt_succ_of_lt hlt)]
  exact Heap.get?_push_of_some _ q
end
section
variable {X : Cx} {W : WX} {OW : Nat → Bool} {a : Expr} {m : ME} {p p2 q pos : Pos}
def sortSet (x : D) : Option R := (setD x).map fun ds => .ol (ds.mergeSort leD)
theorem each_map_of {α : Type} {F : Value → V × D → Prop} {f : α → Value} {g : α → V × D} : ∀ (L : List α), (∀ x ∈ L, F (f x) (g x)) → EachIs F (L.map f) (L.map g)
  | [], _ => .nil
  | x :: L, h => .cons (h x List.mem_cons_self) (each_map_of L fun y m => h y (List.mem_cons_of_mem _ m))
/-- the end: the new list -/
theorem sort_end {pins : List (Addr × Obj)} {σ : L2.St} {H1 : Hp} {s1 s' : Shared} {ps : VD} {out : List Value} {c : Nat} {P : Addr} {Q : VK} (I1 : Inv X pins σ H1 s1) (k : ∀ b o, s1.heap.get? b = some o → s'.heap.get? b = some o) (g : s'.gens = s1.gens) (o : s'.os = s1.os) (hp : s1.heap.objs.size ≤ P)
    (hg : s'.heap.get? P = some (seqObj "list" (List.toArray out) c)) (he : EachIs (fun v (p : V × D) => RelV p.1 v) out (ps.mergeSort lePair)) (hl : ps.length ≤ sizeLine) (q : H1 P = none → Q (.ref P) (upd H1 P (.lst ((ps.mergeSort lePair).map (·.1))))) : EP X pins σ Q (.ref P) s' := by
  have hn : H1 P = none := I1.hok.fresh hp
  have hlen : ((ps.mergeSort lePair).map (·.1)).length ≤ sizeLine := by rw [List.length_map, List.length_mergeSort]; exact hl
  have J : Inv X pins σ (upd H1 P (.lst ((ps.mergeSort lePair).map (·.1)))) { s1 with heap := s'.heap, gens := s'.gens, drawn := s'.drawn, toks := s'.toks } :=
    I1.call (ch := []) (Un.laid k hp hn) (I1.hok.laid k hp ⟨hlen, out, c, vals_each he, hg⟩) (by rw [g]; exact I1.bare) (fun _ z => nomatch z)
  have e : s' = { s1 with heap := s'.heap, gens := s'.gens, drawn := s'.drawn, toks := s'.toks } := by
    cases s'
    cases s1
    cases o
    rfl
  rw [e]
  exact ⟨.ref P, _, J, rfl, q hn⟩
theorem pe_sortSet {ta : TE} (hc : X.calm = true) (hu : X.A.units + 64 < cLine) (hg : Gl X "sorted") (hm : X.mg "sorted" = none) (hg2 : Gl X "set") (hm2 : X.mg "set" = none) (ha : PE X a ta) (na : starEach [a] X.env = (false, eval a X.env) :: starEach [] X.env) :
    PE X (.Call (.Name "sorted" p) [.Call (.Name "set" p2) [a] [] q] [] pos) (fun σ H Q => ta σ H fun x H1 => ∃ (l : Addr) (ds : List D), x = V.ref l ∧ SetK X.K H1 l ds ∧ ∀ P us, H1 P = none → RDs H1 us (ds.mergeSort leD) → Q (.ref P) (upd H1 P (.lst us))) := by
  refine ⟨fun pins s σ H Q I h => ?_⟩
  refine Call_ (ld_blt I hg hm (show bootBuiltins "sorted" = some (.builtin "sorted") by decide +kernel) (PyProof.Rows.callWith_builtin1 (PyProof.Rows.args_cons ?_ rfl) rfl rfl))
  refine Call_ (ld_blt I hg2 hm2 PyProof.Rows.boot_set (PyProof.Rows.callWith_type1 (PyProof.Rows.args_cons (thn (ha.run pins s σ H _ I h) fun v s1 ⟨x, H1, I1, r1, q1⟩ => PyProof.Rows.args_nil ?_) na) na rfl))
  obtain ⟨l, ds, rfl, hk, q1⟩ := q1
  cases r1
  refine (?_ : wpAny (model X.prog X.w) X.A (call (.type "set") [.ref l]) _ X.xe s1)
  cases hk with
  | tups L hs hk hf =>
    refine set_tups I1 (I1.ok.hd hc) (by omega) hs (fun p m => .inl (.inl (hk p m))) hf fun h' tk L' es ep t R g k => PyProof.Rows.args_nil ?_
    have I2 : Inv X pins σ H1 { s1 with heap := h', toks := tk } := I1.kept k
    obtain ⟨o, ho, hex, hd⟩ := R.ob
    have hs2 := SetTR.size (s := { s1 with heap := h', toks := tk }) R
    have hf2 := R.few
    have sub : ∀ p ∈ L', p ∈ L := fun p hp => List.mem_of_mem_take (g.sub p hp)
    have hes : es.toList.map (·.2) = L'.map fun q => Value.ref q.1 := by
      rw [R.rows]
      unfold L2.rowsOf
      rw [List.map_map] <;> rfl
    refine sort_collected (s := { s1 with heap := h', toks := tk }) ⟨o, ho, hex.1, hd⟩ (SetTR.fits (s := { s1 with heap := h', toks := tk }) R) (by unfold scanBound; omega) R.tab.ris R.led (I1.ok.hd hc) (by rw [sizeLine_eq]; omega) (by omega) fun vs pm => ?_
    rw [hes] at pm
    obtain ⟨L1, rfl, p1⟩ := perm_map_ex pm rfl
    have hH : ∀ p ∈ L1, H1 p.1 = some (.tup (p.2.map V.int)) := fun p m => hk p (sub p (p1.mem_iff.mp m))
    have e2 : ((L1.map fun p => (V.ref p.1, tupI p.2)).map (·.2)) = (L1.map (·.2)).map tupI := by rw [List.map_map, List.map_map] <;> rfl
    have rd : ∀ p ∈ L1.map (fun p => (V.ref p.1, tupI p.2)), RD H1 p.1 p.2 := fun p m => by
      obtain ⟨y, hy, rfl⟩ := List.mem_map.mp m
      exact .tup (hH y hy) (RDs.of_ints _)
    have so : sortOk ((L1.map fun p => (V.ref p.1, tupI p.2)).map (·.2)) = true := by rw [e2]; exact sortOk_tupI _
    refine ⟨L1.map fun p => (V.ref p.1, tupI p.2), each_map_of (F := fun v (p : V × D) => RelV p.1 v) (f := fun q : Addr × List Int => Value.ref q.1) (g := fun p => (V.ref p.1, tupI p.2)) L1 fun p _ => (show RelV (V.ref p.1) (Value.ref p.1) from rfl), each_reads I2 (by rw [List.map_map]; exact vals_refs' L1) rd (sortOk_spec so).1, so, fun s' out P c k2 g2 o2 hp hg he => ?_⟩
    refine sort_end I2 k2 g2 o2 hp hg he (by rw [List.length_map, p1.length_eq, sizeLine_eq]; omega) fun hn => ?_
    have e3 : (((L1.map fun p => (V.ref p.1, tupI p.2)).mergeSort lePair).map (·.2)) = ((ddG (L.map (·.2))).map tupI).mergeSort leD := by
      rw [sort_snd, e2]
      exact sort_perm (apart_tupI _) (((p1.map (·.2)).trans (got_perm g R.nd)).map tupI)
    exact q1 P _ hn (by rw [← e3]; exact rds_of fun p m => rd p ((List.mergeSort_perm _ _).mem_iff.mp m))
  | nums ns hs hf =>
    refine set_ints I1 (I1.ok.hd hc) hs hf fun h' tk c R k => PyProof.Rows.args_nil ?_
    have I2 : Inv X pins σ H1 { s1 with heap := h', toks := tk } := I1.kept k
    obtain ⟨o, es, ep, t, ho, hex, hdt, g, nd, hm3, hb, hf2, hn, hr, hl2⟩ := R
    have pk : (es.toList.map keyOf).Perm (ddG ns) := ddG_perm nd fun y => by rw [← hm3 y, decide_eq_true_eq]
    have hle := ddG_le ns
    have hsz : es.size = (ddG ns).length := by
      have z := pk.length_eq
      rw [List.length_map, Array.length_toList] at z
      exact z
    refine sort_collected (s := { s1 with heap := h', toks := tk }) ⟨o, ho, hex.1, hdt⟩ hf2 hb hr hl2 (I1.ok.hd hc) (by rw [sizeLine_eq]; omega) (by omega) fun vs pm => ?_
    obtain ⟨L1, rfl, p1⟩ := perm_map_ex pm rfl
    have e2 : ((L1.map fun e => (V.int (keyOf e), PyData.int (keyOf e))).map (·.2)) = (L1.map keyOf).map PyData.int := by rw [List.map_map, List.map_map] <;> rfl
    have rd : ∀ p ∈ L1.map (fun e => (V.int (keyOf e), PyData.int (keyOf e))), RD H1 p.1 p.2 := fun p m => by
      obtain ⟨y, hy, rfl⟩ := List.mem_map.mp m
      exact .int _
    have so : sortOk ((L1.map fun e => (V.int (keyOf e), PyData.int (keyOf e))).map (·.2)) = true := by rw [e2]; exact sortOk_int _
    have rl : ∀ e ∈ L1, RelV (V.int (keyOf e)) e.2 := fun e m => by
      obtain ⟨kk, tt, e2, e3⟩ := g e (p1.mem_iff.mp m)
      rw [key_vInt e, e2]
      exact ⟨tt, rfl⟩
    have ee : EachIs (fun v (p : V × D) => RelV p.1 v) (L1.map fun x => x.2) (L1.map fun e => (V.int (keyOf e), PyData.int (keyOf e))) := each_map_of L1 rl
    refine ⟨L1.map fun e => (V.int (keyOf e), PyData.int (keyOf e)), ee, each_reads I2 (vals_each ee) rd (sortOk_spec so).1, so, fun s' out P c k2 g2 o2 hp hg he => ?_⟩
    refine sort_end I2 k2 g2 o2 hp hg he (by rw [List.length_map, p1.length_eq, Array.length_toList, sizeLine_eq]; omega) fun hn => ?_
    have e3 : (((L1.map fun e => (V.int (keyOf e), PyData.int (keyOf e))).mergeSort lePair).map (·.2)) = ((ddG ns).map PyData.int).mergeSort leD := by
      rw [sort_snd, e2]
      exact sort_perm (apart_int _) (((p1.map keyOf).trans pk).map PyData.int)
    exact q1 P _ hn (by rw [← e3]; exact rds_of fun p m => rd p ((List.mergeSort_perm _ _).mem_iff.mp m))
where
  vals_refs' : ∀ (L : List (Addr × List Int)), Vals (L.map ((fun x : V × D => x.1) ∘ fun (p : Addr × List Int) => (V.ref p.1, tupI p.2))) (L.map fun (q : Addr × List Int) => Value.ref q.1)
    | [] => .nil
    | p :: L => .cons (show RelV (V.ref p.1) (Value.ref p.1) from rfl) (vals_refs' L)
theorem de_sortSet (hc : X.calm = true) (hu : X.A.units + 64 < cLine) (hm : X.mg "sorted" = none) (hm2 : X.mg "set" = none) (ha : DE X W OW a m) (hg : Gl X "sorted" := by rfl) (hg2 : Gl X "set" := by rfl) (na : starEach [a] X.env = (false, eval a X.env) :: starEach [] X.env := by rfl) :
    DE X W OW (.Call (.Name "sorted" p) [.Call (.Name "set" p2) [a] [] q] [] pos) (m1 true sortSet m) := by
  refine pe_le (pe_sortSet hc hu hg hm hg2 hm2 ha na) fun σ H Q ⟨H0, P, env, L, Rl, S⟩ => ⟨H0, P, env, L, Rl, (Sat.bind S).mono fun r e1 _ S1 v H1 R1 => ?_⟩
  cases hd : r.dat true e1 with
  | none => simp only [hd] at S1; exact S1.elim
  | some x =>
    simp only [hd] at S1
    cases hx : setD x with
    | none => simp only [sortSet, hx, Option.map_none] at S1; exact S1.elim
    | some ds =>
      simp only [sortSet, hx, Option.map_some] at S1
      obtain ⟨l, rfl, sk⟩ := setD_at (R1.dv List.mem_cons_self hd) hx
      exact ⟨l, ds, rfl, sk, fun P us hn rd => S1 _ _ (R1.drop.post (Post.olNew hn rd))⟩
end
end Pw

set_option Elab.async false
set_option linter.all false
set_option maxRecDepth 100000
set_option maxHeartbeats 2000000
/-! Px: small rules: numbers, sorted of lists and dicts, one entry's dict. -/
namespace Pw
open PySem PySem.Spec PyProof.Rows L2 PySem.W

/-- a natural number -/
def nI (n : Nat) : D := .int n
section
variable {X : Cx} {W : WX} {OW : Nat → Bool} {pos : Pos}
theorem de_nat (n : Nat) {j} : DE X W OW (.Constant (.int (n : Int)) j pos) (mC (nI n)) := de_int
end
section
variable {X : Cx} {W : WX} {OW : Nat → Bool} {pos : Pos}
/-- a module's constant -/
theorem de_gN {x : Str} {n : Nat} {t : Tok} (hm : X.mg x = some (.int (n : Int) t)) (hg : Gl X x := by rfl) (hd : (x == ("__debug__" : Str)) = false := by decide) : DE X W OW (.Name x pos) (mC (nI n)) := de_gI hm hg hd
end
theorem CallR.or {X : Cx} {c : Value} {r1 r2 : List V → Hp → VK → Prop} (h1 : CallR X c r1) (h2 : CallR X c r2) : CallR X c (fun vs H Q => r1 vs H Q ∨ r2 vs H Q) := by
  intro pins s σ H vs us Q I r h
  rcases h with h | h
  · exact h1 pins s σ H vs us Q I r h
  · exact h2 pins s σ H vs us Q I r h
def pSortA : List D → Option R := fun xs => match pSorted xs with
  | some r => some r
  | none => pSortedT xs
theorem o_sortA {X : Cx} (hc : X.calm = true) (hu : X.A.units + 64 < cLine) : CallR X (.builtin "sorted") (fun vs H Q => rSortD X.K vs H Q ∨ rSortT vs H Q) := CallR.or (o_sorted hu) (o_sortT hc hu)
theorem g_sortA {K : PySem.W.Frag} : OpN K false (fun vs H Q => rSortD K vs H Q ∨ rSortT vs H Q) pSortA := by
  intro H vs xs res Q hv e q
  unfold pSortA at e
  cases h : pSorted xs with
  | some r =>
    rw [h] at e
    cases e
    exact .inl (g_sorted H vs xs _ Q hv h q)
  | none =>
    rw [h] at e
    exact .inr (g_sortT H vs xs res Q hv e q)
/-! ### a, b = x, y where a name is a cell: a tuple is made, and taken apart -/
def mParT (js : List (Nat × Bool)) (ma : MA) : MS := fun env => match ma env with
  | .st => .st
  | .ex x e => .ex x e
  | .ok rs e => stOf (go js rs e)
where
  go : List (Nat × Bool) → List R → En → Option En
    | [], [], e => some e
    | (j, b) :: js, r :: rs, e => match qN j b r e with
      | some e1 => go js rs e1
      | none => none
    | _, _, _ => none
theorem go_len : ∀ {js : List (Nat × Bool)} {rs : List R} {e e' : En}, mParT.go js rs e = some e' → rs.length = js.length
  | [], [], _, _, _ => rfl
  | (j, b) :: js, r :: rs, e, e', h => by
    unfold mParT.go at h
    cases q : qN j b r e with
    | none => rw [q] at h; cases h
    | some e1 =>
      rw [q] at h
      rw [List.length_cons, List.length_cons, go_len h]
  | [], _ :: _, _, _, h => by cases h
  | _ :: _, [], _, _, h => by cases h
theorem qN_of {i : Nat} {b : Bool} {r : R} {e e' : En} (h : qN i b r e = some e') : i < e.length ∧ notPl e[i]? = true ∧ okSt b r = true ∧ e' = e.set i (some r) := qN_some h
section
variable {X : Cx} {W : WX} {OW : Nat → Bool} {pos : Pos} {ma : MA}
theorem store_one {H0 H : Hp} {P : List (Option Addr)} {σ : L2.St} {L : Pe} {e e' : En} {v : V} {r : R} {j : Nat} {b : Bool} (R1 : Rel X.K OW H0 P e σ H ((v, r) :: L)) (hq : qN j b r e = some e') (hb : b = true → OW j = true) (nv : ∀ p ∈ L, ∀ i, p.2 ≠ .vr i) : Rel X.K OW H0 P e' (σ.set j (some v)) H L := by
  obtain ⟨c1, c2, c3, rfl⟩ := qN_some hq
  obtain ⟨o1, o2, o3⟩ := okSt_ok c3
  exact R1.store c1 c2 o1 o2 (fun p m => nv p m j) fun o => hb (o3 o)
theorem okSt_nv {b : Bool} {r : R} (h : okSt b r = true) (i : Nat) : r ≠ .vr i := fun z => by subst z; cases h
theorem ds_parT2 {i j : Nat} {x y : Str} {bi bj : Bool} {e1 e2 : Expr} {px py pt : Pos} {kt k2 pt2} (hc : X.calm = true) (hN : X.N.Nodup) (hbi : bi = true → OW i = true) (hbj : bj = true → OW j = true) (ha : DA X W OW [e1, e2] ma) (hi : X.N[i]? = some x := by rfl) (hj : X.N[j]? = some y := by rfl)
    (hx : Loc X.env.scope x := by first | exact Or.inl rfl | exact Or.inr rfl) (hy : Loc X.env.scope y := by first | exact Or.inl rfl | exact Or.inr rfl)
    (fx : X.fn x = true ∨ X.env.scope.names.lookup x = some .local := by first | exact .inl rfl | exact .inr rfl) (fy : X.fn y = true ∨ X.env.scope.names.lookup y = some .local := by first | exact .inl rfl | exact .inr rfl)
    (hs : swapsWithSole [.Tuple [.Name x px, .Name y py] kt pt] (.Tuple [e1, e2] k2 pt2) pos.line X.env = pure false := by rfl)
    (hw : swappedStores [.Tuple [.Name x px, .Name y py] kt pt] (.Tuple [e1, e2] k2 pt2) X.env = pure none := by rfl) :
    DS X W OW (.Assign [.Tuple [.Name x px, .Name y py] kt pt] (.Tuple [e1, e2] k2 pt2) pos) (mParT [(i, bi), (j, bj)] ma) := by
  refine ps_le (ps_asg (pe_tup ha) (pg_tup hc (pgs_cons (pg_name hN hi hx fx) (pgs_cons (pg_name hN hj hy fy) pgs_nil))) hs hw) fun D σ H ⟨H0, P, env, Rl, S⟩ => ⟨H0, P, env, [], Rl, ?_⟩
  unfold mParT at S
  cases h1 : ma env with
  | st => rw [h1] at S; exact S
  | ex x e => rw [h1] at S; exact fun c d H' R1 rx => S c d σ H' R1 rx
  | ok rs ea =>
    rw [h1] at S
    intro vs H1 hl R1
    have S0 : SatS (cy X W OW) H0 P (stOf (mParT.go [(i, bi), (j, bj)] rs ea)) D := S
    cases hgo : mParT.go [(i, bi), (j, bj)] rs ea with
    | none => rw [hgo] at S0; exact S0.elim
    | some ez =>
    have hlen : rs.length = 2 := go_len hgo
    clear hgo S0
    match rs, hlen, S, hl, R1 with
    | [r1, r2], _, S, hl, R1 =>
      match vs, hl, R1 with
      | [v, w], _, R1 =>
        refine ⟨by show 2 ≤ sizeLine; decide, fun p hp => ⟨p, [v, w], rfl, .inl (.inl upd_same), rfl, v, [w], rfl, w, [], rfl, rfl, ?_⟩⟩
        have R2 : Rel X.K OW H0 P ea σ (upd H1 p (.tup [v, w])) [(v, r1), (w, r2)] := R1.grow (same_new hp)
        have S' : SatS (cy X W OW) H0 P (stOf (mParT.go [(i, bi), (j, bj)] [r1, r2] ea)) D := S
        simp only [mParT.go] at S'
        cases q1 : qN i bi r1 ea with
        | none => simp only [q1] at S'; exact S'.elim
        | some ea1 =>
          simp only [q1] at S'
          cases q2 : qN j bj r2 ea1 with
          | none => simp only [q2] at S'; exact S'.elim
          | some ea2 =>
            simp only [q2] at S'
            have R3 := store_one R2 q1 hbi fun p m k => by
              have m' : p = (w, r2) := by simpa using m
              rw [m']
              exact okSt_nv (qN_some q2).2.2.1 k
            exact S' _ _ (store_one R3 q2 hbj fun p m => absurd m List.not_mem_nil)
theorem ds_parT3 {i j l : Nat} {x y z : Str} {bi bj bl : Bool} {e1 e2 e3 : Expr} {px py pz pt : Pos} {kt k2 pt2} (hc : X.calm = true) (hN : X.N.Nodup) (hbi : bi = true → OW i = true) (hbj : bj = true → OW j = true) (hbl : bl = true → OW l = true) (ha : DA X W OW [e1, e2, e3] ma) (hi : X.N[i]? = some x := by rfl) (hj : X.N[j]? = some y := by rfl) (hl : X.N[l]? = some z := by rfl)
    (hx : Loc X.env.scope x := by first | exact Or.inl rfl | exact Or.inr rfl) (hy : Loc X.env.scope y := by first | exact Or.inl rfl | exact Or.inr rfl) (hz : Loc X.env.scope z := by first | exact Or.inl rfl | exact Or.inr rfl)
    (fx : X.fn x = true ∨ X.env.scope.names.lookup x = some .local := by first | exact .inl rfl | exact .inr rfl) (fy : X.fn y = true ∨ X.env.scope.names.lookup y = some .local := by first | exact .inl rfl | exact .inr rfl) (fz : X.fn z = true ∨ X.env.scope.names.lookup z = some .local := by first | exact .inl rfl | exact .inr rfl)
    (hs : swapsWithSole [.Tuple [.Name x px, .Name y py, .Name z pz] kt pt] (.Tuple [e1, e2, e3] k2 pt2) pos.line X.env = pure false := by rfl)
    (hw : swappedStores [.Tuple [.Name x px, .Name y py, .Name z pz] kt pt] (.Tuple [e1, e2, e3] k2 pt2) X.env = pure none := by rfl) :
    DS X W OW (.Assign [.Tuple [.Name x px, .Name y py, .Name z pz] kt pt] (.Tuple [e1, e2, e3] k2 pt2) pos) (mParT [(i, bi), (j, bj), (l, bl)] ma) := by
  refine ps_le (ps_asg (pe_tup ha) (pg_tup hc (pgs_cons (pg_name hN hi hx fx) (pgs_cons (pg_name hN hj hy fy) (pgs_cons (pg_name hN hl hz fz) pgs_nil)))) hs hw) fun D σ H ⟨H0, P, env, Rl, S⟩ => ⟨H0, P, env, [], Rl, ?_⟩
  unfold mParT at S
  cases h1 : ma env with
  | st => rw [h1] at S; exact S
  | ex x e => rw [h1] at S; exact fun c d H' R1 rx => S c d σ H' R1 rx
  | ok rs ea =>
    rw [h1] at S
    intro vs H1 hlv R1
    have S0 : SatS (cy X W OW) H0 P (stOf (mParT.go [(i, bi), (j, bj), (l, bl)] rs ea)) D := S
    cases hgo : mParT.go [(i, bi), (j, bj), (l, bl)] rs ea with
    | none => rw [hgo] at S0; exact S0.elim
    | some ez =>
    have hlen : rs.length = 3 := go_len hgo
    clear hgo S0
    match rs, hlen, S, hlv, R1 with
    | [r1, r2, r3], _, S, hlv, R1 =>
      match vs, hlv, R1 with
      | [v, w, u], _, R1 =>
        refine ⟨by show 3 ≤ sizeLine; decide, fun p hp => ⟨p, [v, w, u], rfl, .inl (.inl upd_same), rfl, v, [w, u], rfl, w, [u], rfl, u, [], rfl, rfl, ?_⟩⟩
        have R2 : Rel X.K OW H0 P ea σ (upd H1 p (.tup [v, w, u])) [(v, r1), (w, r2), (u, r3)] := R1.grow (same_new hp)
        have S' : SatS (cy X W OW) H0 P (stOf (mParT.go [(i, bi), (j, bj), (l, bl)] [r1, r2, r3] ea)) D := S
        simp only [mParT.go] at S'
        cases q1 : qN i bi r1 ea with
        | none => simp only [q1] at S'; exact S'.elim
        | some ea1 =>
          simp only [q1] at S'
          cases q2 : qN j bj r2 ea1 with
          | none => simp only [q2] at S'; exact S'.elim
          | some ea2 =>
            simp only [q2] at S'
            cases q3 : qN l bl r3 ea2 with
            | none => simp only [q3] at S'; exact S'.elim
            | some ea3 =>
              simp only [q3] at S'
              have R3 := store_one R2 q1 hbi fun p m k => by
                have m' : p = (w, r2) ∨ p = (u, r3) := by simpa using m
                rcases m' with m' | m' <;> rw [m']
                · exact okSt_nv (qN_some q2).2.2.1 k
                · exact okSt_nv (qN_some q3).2.2.1 k
              have R4 := store_one R3 q2 hbj fun p m k => by
                have m' : p = (u, r3) := by simpa using m
                rw [m']
                exact okSt_nv (qN_some q3).2.2.1 k
              exact S' _ _ (store_one R4 q3 hbl fun p m => absurd m List.not_mem_nil)
end
end Pw

set_option Elab.async false
set_option linter.all false
set_option maxRecDepth 100000
set_option maxHeartbeats 2000000
/-! Px: running programs over slots by rewriting. -/
namespace Pw
open PySem PySem.Spec PyProof.Rows L2

/-! ### results, opened -/
def Res.th {α : Type} (r : Res α) (f : α → En → RS) : RS := match r with
  | .st => .st
  | .ok a e => f a e
  | .ex x e => .ex x e
def RS.sq (r : RS) (b : MS) : RS := match r with
  | .nx e => b e
  | r => r
def RS.fin (r : RS) : Option (R × En) := match r with
  | .rt r e => if okRet r = true then some (r, e) else none
  | .nx e => some (.d .none, e)
  | _ => none
/-- a def's value -/
def rn (m : MS) (n : Nat) (rs : List R) : Option R := (m (env0 n rs)).fin.map (·.1)
/-- a def's value, and what it leaves of its first argument -/
def rnP (m : MS) (n : Nat) (xs : List D) (rest : List R) : Option (R × List D) := match (m (env0 n (.pl xs :: rest))).fin with
  | some (r, e) => (potE e).map fun ys => (r, ys)
  | none => none
section
variable {α β : Type} {e e1 e2 : En} {a : α} {f : α → En → Res β} {g : α → En → RS} {b : MS} {r r1 r2 : R} {rs : List R} {m ma mb mc : ME} {as : MA} {ta tb : MT} {sa sb : MS} {k : Bool} {x y : D} {xs ys : List D} {i j n : Nat} {kl : Bool} {mi : MI} {q : MQ}
@[simp] theorem bind_ok : (Res.ok a e).bind f = f a e := (rfl)
@[simp] theorem bind_st : (Res.st : Res α).bind f = .st := (rfl)
@[simp] theorem th_ok : (Res.ok a e).th g = g a e := (rfl)
@[simp] theorem th_st : (Res.st : Res α).th g = .st := (rfl)
@[simp] theorem sq_nx : (RS.nx e).sq b = b e := (rfl)
@[simp] theorem sq_rt : (RS.rt r e).sq b = .rt r e := (rfl)
@[simp] theorem sq_st : RS.st.sq b = .st := (rfl)
@[simp] theorem fin_d : (RS.rt (.d x) e).fin = some (.d x, e) := (rfl)
@[simp] theorem fin_ol : (RS.rt (.ol xs) e).fin = some (.ol xs, e) := (rfl)
@[simp] theorem fin_oT {kvs} : (RS.rt (.oT kvs) e).fin = some (.oT kvs, e) := (rfl)
@[simp] theorem fin_nx : (RS.nx e).fin = some (.d .none, e) := (rfl)
theorem fRun_fin (m : MS) (e : En) : fRun m e = (m e).fin := rfl
theorem rn_run {m : MS} {n : Nat} {rs : List R} {r : R} (h : rn m n rs = some r) : ∃ e', fRun m (env0 n rs) = some (r, e') := by
  unfold rn at h
  obtain ⟨p, h1, h2⟩ := Option.map_eq_some_iff.mp h
  exact ⟨p.2, by rw [fRun_fin, h1, ← h2]⟩
/-! ### statements -/
@[simp] theorem x_seq : mSeq sa sb e = (sa e).sq sb := (rfl)
@[simp] theorem x_next : mNext e = .nx e := (rfl)
@[simp] theorem x_stop : mStop e = .st := (rfl)
@[simp] theorem x_set : mSet q m e = (m e).th fun r e => stOf (q r e) := by
  unfold mSet mThen Res.th
  cases m e <;> rfl
@[simp] theorem x_drp : mDrp m e = (m e).th fun _ e => .nx e := by
  unfold mDrp mThen Res.th
  cases m e <;> rfl
@[simp] theorem stOf_some : stOf (some e) = .nx e := (rfl)
@[simp] theorem stOf_none : stOf none = .st := (rfl)
def retR (r : R) (e : En) : RS := match r with
  | .vr i => match e[i]? with
    | some (some t) => if (t.own && notPl e[i]?) = true then .rt t (e.set i none) else .st
    | _ => .st
  | .pl _ => .st
  | r => .rt r e
def retV (o : Option (Option R)) (i : Nat) (e : En) : RS := match o with
  | some (some (.ol xs)) => .rt (.ol xs) (e.set i none)
  | some (some (.oT xs)) => .rt (.oT xs) (e.set i none)
  | some (some (.oK xs)) => .rt (.oK xs) (e.set i none)
  | _ => .st
@[simp] theorem x_ret : mRet m e = (m e).th retR := by
  unfold mRet mThen Res.th retR
  cases m e with
  | ok r e => cases r <;> rfl
  | _ => rfl
@[simp] theorem x_retN : mRetN e = .rt (.d .none) e := (rfl)
@[simp] theorem retR_d : retR (.d x) e = .rt (.d x) e := (rfl)
@[simp] theorem retR_ol : retR (.ol xs) e = .rt (.ol xs) e := (rfl)
@[simp] theorem retR_oT {kvs} : retR (.oT kvs) e = .rt (.oT kvs) e := (rfl)
@[simp] theorem retR_vr : retR (.vr i) e = retV e[i]? i e := by
  show (match e[i]? with
    | some (some t) => if (t.own && notPl e[i]?) = true then RS.rt t (e.set i none) else .st
    | _ => .st) = retV e[i]? i e
  generalize e[i]? = o
  match o with
  | none => rfl
  | some none => rfl
  | some (some t) => cases t <;> rfl
@[simp] theorem retV_ol : retV (some (some (.ol xs))) i e = .rt (.ol xs) (e.set i none) := (rfl)
@[simp] theorem retV_oT {kvs} : retV (some (some (.oT kvs))) i e = .rt (.oT kvs) (e.set i none) := (rfl)
@[simp] theorem x_ifS : mIfS ta sa sb e = (ta e).th fun k e => if k = true then sa e else sb e := by
  unfold mIfS mThenT Res.th
  cases ta e <;> rfl
@[simp] theorem x_for : mFor mi q sb e = (mi e).th fun ds e => forGo q sb ds e := by
  unfold mFor Res.th
  cases mi e <;> rfl
@[simp] theorem x_wh : mWh n ta sb e = whGo ta sb n e := (rfl)
@[simp] theorem x_par {bi bj : Bool} : mPar i j bi bj as e = (as e).th fun rs e => match rs with
    | [r1, r2] => match qN i bi r1 e with
      | some e1 => stOf (qN j bj r2 e1)
      | none => .st
    | _ => .st := by
  unfold mPar Res.th
  cases as e with
  | st => rfl
  | ok rs e =>
    match rs with
    | [] => rfl
    | [_] => rfl
    | [_, _] => rfl
    | _ :: _ :: _ :: _ => rfl
  | ex x e => rfl
@[simp] theorem x_par3 {l : Nat} {bi bj bl : Bool} : mPar3 i j l bi bj bl as e = (as e).th fun rs e => match rs with
    | [r1, r2, r3] => match qN i bi r1 e with
      | some e1 => match qN j bj r2 e1 with
        | some e2 => if okSt bl r3 = true then stOf (qN l bl r3 e2) else .st
        | none => .st
      | none => .st
    | _ => .st := by
  unfold mPar3 Res.th
  cases as e with
  | st => rfl
  | ok rs e =>
    match rs with
    | [] => rfl
    | [_] => rfl
    | [_, _] => rfl
    | [_, _, _] => rfl
    | _ :: _ :: _ :: _ :: _ => rfl
  | ex x e => rfl
@[simp] theorem x_parT {js : List (Nat × Bool)} : mParT js as e = (as e).th fun rs e => stOf (mParT.go js rs e) := by
  unfold mParT Res.th
  cases as e <;> rfl
@[simp] theorem x_parT_nil : mParT.go [] [] e = some e := (rfl)
@[simp] theorem x_parT_cons {k : Bool} {js : List (Nat × Bool)} : mParT.go ((j, k) :: js) (r :: rs) e = (qN j k r e).bind fun e1 => mParT.go js rs e1 := by
  show (match qN j k r e with | some e1 => mParT.go js rs e1 | none => none) = _
  cases qN j k r e <;> rfl
/-! ### targets -/
@[simp] theorem okSt_d : okSt k (.d x) = true := (rfl)
@[simp] theorem okSt_ol : okSt k (.ol xs) = k := (rfl)
@[simp] theorem okSt_oT {kvs} : okSt k (.oT kvs) = k := (rfl)
@[simp] theorem okSt_kl : okSt k (.kl xs) = true := (rfl)
@[simp] theorem notPl_d : notPl (some (some (.d x))) = true := (rfl)
@[simp] theorem notPl_ol : notPl (some (some (.ol xs))) = true := (rfl)
@[simp] theorem notPl_oT {kvs} : notPl (some (some (.oT kvs))) = true := (rfl)
@[simp] theorem notPl_non : notPl (some none) = true := (rfl)
@[simp] theorem x_qN : qN i k r e = if (decide (i < e.length) && notPl e[i]? && okSt k r) = true then some (e.set i (some r)) else none := (rfl)
@[simp] theorem x_qNil : qNil [] e = some e := (rfl)
@[simp] theorem x_qCons {mts : List D → En → Option En} : qCons q mts (x :: xs) e = (q (.d x) e).bind fun e => mts xs e := by
  show (match q (.d x) e with | some e => mts xs e | none => none) = _
  cases q (.d x) e <;> rfl
@[simp] theorem x_qTup {mts : List D → En → Option En} : qTup n mts (.d (.tuple xs)) e = if xs.length = n then mts xs e else none := (rfl)
def subV (o : Option (Option R)) (k x : D) (j : Nat) (e : En) : Option En := match o with
  | some (some t) => (putAt k x t).map fun t' => e.set j (some t')
  | _ => none
def subR (a : Res R) (mi : ME) (x : D) : Option En := match a with
  | .ok (.vr j) e1 => match mi e1 with
    | .ok (.d k) e2 => subV e2[j]? k x j e2
    | _ => none
  | _ => none
@[simp] theorem x_qSub : qSub ma mb (.d x) e = subR (ma e) mb x := (rfl)
def subK (b : Res R) (j : Nat) (x : D) : Option En := match b with
  | .ok (.d k) e2 => subV e2[j]? k x j e2
  | _ => none
@[simp] theorem subR_ok : subR (.ok (.vr j) e) mb x = subK (mb e) j x := (rfl)
@[simp] theorem subK_ok : subK (.ok (.d y) e) j x = subV e[j]? y x j e := (rfl)
@[simp] theorem subV_some : subV (some (some r)) y x j e = (putAt y x r).map fun t' => e.set j (some t') := (rfl)
/-! ### expressions -/
def varR (o : Option (Option R)) (i : Nat) (e : En) : Res R := match o with
  | some (some r) => if r.own = true then .ok (.vr i) e else .ok r e
  | _ => .st
@[simp] theorem x_var : mVar i e = varR e[i]? i e := (rfl)
@[simp] theorem varR_d : varR (some (some (.d x))) i e = .ok (.d x) e := (rfl)
@[simp] theorem varR_ol : varR (some (some (.ol xs))) i e = .ok (.vr i) e := (rfl)
@[simp] theorem varR_pl : varR (some (some (.pl xs))) i e = .ok (.vr i) e := (rfl)
@[simp] theorem varR_oT {kvs} : varR (some (some (.oT kvs))) i e = .ok (.vr i) e := (rfl)
@[simp] theorem varR_kl : varR (some (some (.kl xs))) i e = .ok (.kl xs) e := (rfl)
@[simp] theorem x_c : mC x e = .ok (.d x) e := (rfl)
@[simp] theorem x_DT : mDT e = .ok (.oT []) e := (rfl)
@[simp] theorem dat_d : (R.d x).dat kl e = some x := (rfl)
@[simp] theorem dat_ol : (R.ol xs).dat kl e = some (.list xs) := (rfl)
@[simp] theorem dat_pl : (R.pl xs).dat kl e = some (.list xs) := (rfl)
@[simp] theorem dat_kl : (R.kl xs).dat true e = some (.list xs) := (rfl)
@[simp] theorem dat_oT {kvs} : (R.oT kvs).dat kl e = some (.dict (kvs.map fun p => (keyD p.1, p.2))) := (rfl)
def datV (kl : Bool) (o : Option (Option R)) : Option D := match o with
  | some (some r) => r.dat0 kl
  | _ => none
@[simp] theorem dat_vr : (R.vr i).dat kl e = datV kl e[i]? := (rfl)
@[simp] theorem datV_d : datV kl (some (some (.d x))) = some x := (rfl)
@[simp] theorem datV_ol : datV kl (some (some (.ol xs))) = some (.list xs) := (rfl)
@[simp] theorem datV_pl : datV kl (some (some (.pl xs))) = some (.list xs) := (rfl)
@[simp] theorem datV_oT {kvs} : datV kl (some (some (.oT kvs))) = some (.dict (kvs.map fun p => (keyD p.1, p.2))) := (rfl)
def ofO (o : Option R) (e : En) : Res R := match o with
  | some r => .ok r e
  | none => .st
@[simp] theorem ofO_some : ofO (some r) e = .ok r e := (rfl)
@[simp] theorem ofO_none : ofO none e = .st := (rfl)
def o1 (g : D → Option R) (o : Option D) (e : En) : Res R := match o with
  | some x => ofO (g x) e
  | none => .st
@[simp] theorem o1_some {g : D → Option R} : o1 g (some x) e = ofO (g x) e := (rfl)
def o2 (g : D → D → Option R) (o p : Option D) (e : En) : Res R := match o, p with
  | some x, some y => ofO (g x y) e
  | _, _ => .st
@[simp] theorem o2_some {g : D → D → Option R} : o2 g (some x) (some y) e = ofO (g x y) e := (rfl)
@[simp] theorem x_m1 {g : D → Option R} : m1 kl g m e = (m e).bind fun r e => o1 g (r.dat kl e) e := by
  unfold m1 o1 ofO
  rfl
@[simp] theorem x_m2 {g : D → D → Option R} : m2 kl g ma mb e = (ma e).bind fun r1 e => (mb e).bind fun r2 e => o2 g (r1.dat kl e) (r2.dat kl e) e := by
  unfold m2 o2 ofO
  rfl
def oN (g : List D → Option R) (o : Option (List D)) (e : En) : Res R := match o with
  | some x => ofO (g x) e
  | none => .st
@[simp] theorem oN_some {g : List D → Option R} : oN g (some xs) e = ofO (g xs) e := (rfl)
@[simp] theorem x_mN {g : List D → Option R} : mN kl g as e = (as e).bind fun rs e => oN g (datL kl e rs) e := by
  unfold mN oN ofO
  rfl
@[simp] theorem datL_nil : datL kl e [] = some [] := (rfl)
def consO (o : Option D) (p : Option (List D)) : Option (List D) := match o, p with
  | some d, some ds => some (d :: ds)
  | _, _ => none
@[simp] theorem datL_cons : datL kl e (r :: rs) = consO (r.dat kl e) (datL kl e rs) := (rfl)
@[simp] theorem consO_some : consO (some x) (some xs) = some (x :: xs) := (rfl)
@[simp] theorem allD_nil : allD [] = some [] := (rfl)
@[simp] theorem allD_cons : allD (.d x :: rs) = (allD rs).map fun ds => x :: ds := (rfl)
@[simp] theorem x_aNil : mANil e = .ok [] e := (rfl)
@[simp] theorem x_aCons : mACons m as e = (m e).bind fun r e => (as e).bind fun rs e => .ok (r :: rs) e := (rfl)
def tupO (o : Option (List D)) (e : En) : Res R := match o with
  | some ds => if ds.length ≤ 16777216 then .ok (.d (.tuple ds)) e else .st
  | none => .st
def lstO (o : Option (List D)) (e : En) : Res R := match o with
  | some ds => if ds.length ≤ 16777216 then .ok (.ol ds) e else .st
  | none => .st
@[simp] theorem x_tup : mTup as e = (as e).bind fun rs e => tupO (allD rs) e := (rfl)
@[simp] theorem x_lst : mLst as e = (as e).bind fun rs e => lstO (allD rs) e := (rfl)
@[simp] theorem tupO_some : tupO (some xs) e = if xs.length ≤ 16777216 then .ok (.d (.tuple xs)) e else .st := (rfl)
@[simp] theorem lstO_some : lstO (some xs) e = if xs.length ≤ 16777216 then .ok (.ol xs) e else .st := (rfl)
def frzR (r : R) (e : En) : Res R := match r with
  | .vr i => match e[i]? with
    | some (some r') => match r'.froz with
      | some d => .ok (.d d) (e.set i (some (.d d)))
      | none => .st
    | _ => .st
  | .d x => .ok (.d x) e
  | .kl _ => .st
  | .pl _ => .st
  | r => match r.froz with
    | some d => .ok (.d d) e
    | none => .st
def frzV (o : Option (Option R)) (i : Nat) (e : En) : Res R := match o with
  | some (some r') => match r'.froz with
    | some d => .ok (.d d) (e.set i (some (.d d)))
    | none => .st
  | _ => .st
@[simp] theorem x_frz : mFrz m e = (m e).bind frzR := (rfl)
@[simp] theorem frzR_d : frzR (.d x) e = .ok (.d x) e := (rfl)
@[simp] theorem frzR_ol : frzR (.ol xs) e = .ok (.d (.list xs)) e := (rfl)
@[simp] theorem frzR_oT {kvs} : frzR (.oT kvs) e = .ok (.d (.dict (kvs.map fun p => (keyD p.1, p.2)))) e := (rfl)
@[simp] theorem frzR_vr : frzR (.vr i) e = frzV e[i]? i e := (rfl)
@[simp] theorem frzV_ol : frzV (some (some (.ol xs))) i e = .ok (.d (.list xs)) (e.set i (some (.d (.list xs)))) := (rfl)
@[simp] theorem frzV_oT {kvs} : frzV (some (some (.oT kvs))) i e = .ok (.d (.dict (kvs.map fun p => (keyD p.1, p.2)))) (e.set i (some (.d (.dict (kvs.map fun p => (keyD p.1, p.2)))))) := (rfl)
def tstR (r : R) (e : En) : Res Bool := match r with
  | .d (.bool b) => .ok b e
  | _ => .st
@[simp] theorem x_tst : mTst m e = (m e).bind tstR := (rfl)
@[simp] theorem tstR_b : tstR (.d (.bool k)) e = .ok k e := (rfl)
@[simp] theorem x_andT : mAndT ta tb e = (ta e).bind fun c e => if c = true then tb e else .ok false e := (rfl)
@[simp] theorem x_orT : mOrT ta tb e = (ta e).bind fun c e => if c = true then .ok true e else tb e := (rfl)
@[simp] theorem x_notT : mNotT ta e = (ta e).bind fun c e => .ok (!c) e := (rfl)
@[simp] theorem x_bv : mBV ta e = (ta e).bind fun c e => .ok (.d (.bool c)) e := (rfl)
@[simp] theorem x_if : mIf ta ma mb e = (ta e).bind fun c e => if c = true then ma e else mb e := (rfl)
@[simp] theorem x_andV : mAndV ta m e = (ta e).bind fun c e => if c = true then m e else .ok (.d (.bool false)) e := (rfl)
@[simp] theorem x_orV : mOrV ta m e = (ta e).bind fun c e => if c = true then .ok (.d (.bool true)) e else m e := (rfl)
def chO (g g' : D → D → Option R) (kl' : Bool) (o p : Option D) (r2 : R) (c : ME) (e : En) : Res R := match o, p with
  | some x, some y => match g x y with
    | some (.d (.bool b)) => if b = true then (c e).bind fun r3 e3 => o2 g' (r2.dat kl' e3) (r3.dat kl' e3) e3 else .ok (.d (.bool false)) e
    | _ => .st
  | _, _ => .st
@[simp] theorem x_ch {g g' : D → D → Option R} {kl' : Bool} : mCh g g' kl kl' ma mb mc e = (ma e).bind fun r1 e => (mb e).bind fun r2 e => chO g g' kl' (r1.dat kl e) (r2.dat kl e) r2 mc e := by
  unfold mCh chO o2 ofO
  rfl
def chB (g' : D → D → Option R) (kl' : Bool) (o : Option R) (r2 : R) (c : ME) (e : En) : Res R := match o with
  | some (.d (.bool b)) => if b = true then (c e).bind fun r3 e3 => o2 g' (r2.dat kl' e3) (r3.dat kl' e3) e3 else .ok (.d (.bool false)) e
  | _ => .st
@[simp] theorem chO_some {g g' : D → D → Option R} {kl' : Bool} : chO g g' kl' (some x) (some y) r2 mc e = chB g' kl' (g x y) r2 mc e := (rfl)
@[simp] theorem chB_some {g' : D → D → Option R} {kl' : Bool} : chB g' kl' (some (.d (.bool k))) r2 mc e = if k = true then (mc e).bind fun r3 e3 => o2 g' (r2.dat kl' e3) (r3.dat kl' e3) e3 else .ok (.d (.bool false)) e := (rfl)
/-! ### cuts -/
def soR (o : Option D) (e : En) : Res (Option Int) := match o with
  | some (.int i) => .ok (some i) e
  | _ => .st
@[simp] theorem x_no : mNo e = .ok none e := (rfl)
@[simp] theorem x_so : mSo m e = (m e).bind fun r e => soR (r.dat true e) e := (rfl)
@[simp] theorem soR_n : soR (some (nI n)) e = .ok (some (n : Int)) e := (rfl)
@[simp] theorem soR_i {z : Int} : soR (some (.int z)) e = .ok (some z) e := (rfl)
def cutO (o : Option D) (lo hi : Option Int) (e : En) : Res R := match o with
  | some x => ofO (pCut x lo hi) e
  | none => .st
@[simp] theorem x_cut {lo hi : MO} : mCut m lo hi e = (m e).bind fun r e => (lo e).bind fun l e => (hi e).bind fun h e => cutO (r.dat true e) l h e := by
  unfold mCut cutO ofO
  rfl
@[simp] theorem cutO_some {lo hi : Option Int} : cutO (some x) lo hi e = ofO (pCut x lo hi) e := (rfl)
def revD (x : D) : Option R := match x with
  | .list xs => some (.ol xs.reverse)
  | .tuple xs => some (.d (.tuple xs.reverse))
  | _ => none
@[simp] theorem revD_list : revD (.list xs) = some (.ol xs.reverse) := (rfl)
@[simp] theorem revD_tuple : revD (.tuple xs) = some (.d (.tuple xs.reverse)) := (rfl)
@[simp] theorem x_rev : mRev m e = (m e).bind fun r e => o1 revD (r.dat true e) e := (x_m1 (g := revD) (kl := true) (m := m) (e := e) :)
/-! ### calls -/
@[simp] theorem isDK_d : isDK (.d x) = true := (rfl)
@[simp] theorem isDK_kl : isDK (.kl xs) = true := (rfl)
def calO (b : Bool) (o : Option R) (e : En) : Res R := if b = true then ofO o e else .st
@[simp] theorem calO_t {o : Option R} : calO true o e = ofO o e := (rfl)
@[simp] theorem x_call {mc : MS} : mCall n mc as e = (as e).bind fun rs e => calO (rs.all isDK) (rn mc n rs) e := by
  unfold mCall calO ofO rn
  cases as e with
  | ok rs e1 =>
    simp only [bind_ok]
    by_cases c : rs.all isDK = true
    · rw [if_pos c, if_pos c, fRun_fin]
      cases (mc (env0 n rs)).fin <;> rfl
    · rw [if_neg c, if_neg c]
  | _ => rfl
@[simp] theorem x_callK {mc : MS} {perm : List Nat} : mCallK perm n mc as e = (as e).bind fun rs e => calO (rs.all isDK) (rn mc n (pick perm rs)) e := by
  unfold mCallK calO ofO rn
  cases as e with
  | ok rs e1 =>
    simp only [bind_ok]
    by_cases c : rs.all isDK = true
    · rw [if_pos c, if_pos c, fRun_fin]
      cases (mc (env0 n (pick perm rs))).fin <;> rfl
    · rw [if_neg c, if_neg c]
  | _ => rfl
def potO (o : Option (R × List D)) (j : Nat) (f : List D → R) (e : En) : Res R := match o with
  | some (r, ys) => .ok r (e.set j (some (f ys)))
  | none => .st
def potV (mc : MS) (n : Nat) (j : Nat) (o : Option (Option R)) (rest : List R) (e : En) : Res R := match o with
  | some (some (.ol xs)) => potO (rnP mc n xs rest) j R.ol e
  | some (some (.pl xs)) => potO (rnP mc n xs rest) j R.pl e
  | _ => .st
def potC (mc : MS) (n : Nat) (rs : List R) (e1 : En) : Res R := match rs with
  | .vr j :: rest => if rest.all isDK = true then potV mc n j e1[j]? rest e1 else .st
  | .ol xs :: rest => if rest.all isDK = true then match fRun mc (env0 n (.pl xs :: rest)) with
    | some (r, _) => .ok r e1
    | none => .st
    else .st
  | _ => .st
@[simp] theorem x_callP {mc : MS} : mCallP n mc as e = (as e).bind (potC mc n) := by
  unfold mCallP
  congr 1
  funext rs e1
  unfold potC potV potO rnP
  match rs with
  | [] => rfl
  | .vr j :: rest =>
    simp only
    by_cases c : rest.all isDK = true
    · rw [if_pos c, if_pos c]
      generalize e1[j]? = o
      match o with
      | none => rfl
      | some none => rfl
      | some (some t) =>
        cases t with
        | ol xs =>
          simp only [potL, fRun_fin]
          cases (mc (env0 n (.pl xs :: rest))).fin with
          | none => rfl
          | some p =>
            obtain ⟨r, e'⟩ := p
            simp only
            cases potE e' <;> rfl
        | pl xs =>
          simp only [potL, fRun_fin]
          cases (mc (env0 n (.pl xs :: rest))).fin with
          | none => rfl
          | some p =>
            obtain ⟨r, e'⟩ := p
            simp only
            cases potE e' <;> rfl
        | _ => rfl
    · rw [if_neg c, if_neg c]
  | .d _ :: _ => rfl
  | .ol _ :: _ => rfl
  | .pl _ :: _ => rfl
  | .oK _ :: _ => rfl
  | .oT _ :: _ => rfl
  | .kl _ :: _ => rfl
@[simp] theorem potC_vr {mc : MS} : potC mc n (.vr j :: rs) e = if rs.all isDK = true then potV mc n j e[j]? rs e else .st := (rfl)
@[simp] theorem potV_ol {mc : MS} : potV mc n j (some (some (.ol xs))) rs e = potO (rnP mc n xs rs) j R.ol e := (rfl)
@[simp] theorem potV_pl {mc : MS} : potV mc n j (some (some (.pl xs))) rs e = potO (rnP mc n xs rs) j R.pl e := (rfl)
@[simp] theorem potO_some {f : List D → R} : potO (some (r, ys)) j f e = .ok r (e.set j (some (f ys))) := (rfl)
@[simp] theorem potE_pl {t : En} : potE (some (.pl xs) :: t) = some xs := (rfl)
/-! ### methods -/
def mtR (g : R → List D → Option (D × R)) (o : Option (List D)) (p : Option (Option R)) (j : Nat) (e : En) : Res R := match o, p with
  | some ds, some (some t) => match g t ds with
    | some (x, t') => .ok (.d x) (e.set j (some t'))
    | none => .st
  | _, _ => .st
def mtV (g : R → List D → Option (D × R)) (as : MA) (r : R) (e1 : En) : Res R := match r with
  | .vr j => if isLst e1[j]? = true then (as e1).bind fun rs e2 => mtR g (allD rs) e2[j]? j e2 else .st
  | _ => .st
@[simp] theorem x_mtL {g : R → List D → Option (D × R)} : mMtL g m as e = (m e).bind (mtV g as) := (rfl)
@[simp] theorem mtV_vr {g : R → List D → Option (D × R)} : mtV g as (.vr j) e = if isLst e[j]? = true then (as e).bind fun rs e2 => mtR g (allD rs) e2[j]? j e2 else .st := (rfl)
@[simp] theorem isLst_ol : isLst (some (some (.ol xs))) = true := (rfl)
@[simp] theorem isLst_pl : isLst (some (some (.pl xs))) = true := (rfl)
def mtO (o : Option (D × R)) (j : Nat) (e : En) : Res R := match o with
  | some (x, t') => .ok (.d x) (e.set j (some t'))
  | none => .st
@[simp] theorem mtR_some {g : R → List D → Option (D × R)} : mtR g (some xs) (some (some r)) j e = mtO (g r xs) j e := (rfl)
@[simp] theorem mtO_some : mtO (some (x, r)) j e = .ok (.d x) (e.set j (some r)) := (rfl)
@[simp] theorem gApp_ol : gApp (.ol xs) [x] = if xs.length < 16777216 then some (.none, .ol (xs ++ [x])) else none := (rfl)
@[simp] theorem gExt_ol : gExt (.ol xs) [.list ys] = if xs.length + ys.length ≤ 16777216 then some (.none, .ol (xs ++ ys)) else none := (rfl)
/-! ### sources -/
def sqO (o : Option (List D)) (e : En) : Res (List D) := match o with
  | some ds => .ok ds e
  | none => .st
@[simp] theorem sqO_some : sqO (some xs) e = .ok xs e := (rfl)
@[simp] theorem x_sq : mSq m e = (m e).bind fun r e => sqO (sqD r) e := (rfl)
@[simp] theorem sqD_list : sqD (.d (.list xs)) = some xs := (rfl)
@[simp] theorem sqD_tuple : sqD (.d (.tuple xs)) = some xs := (rfl)
@[simp] theorem sqD_kl : sqD (.kl xs) = some xs := (rfl)
@[simp] theorem x_enum : mEnum m e = (mSq m e).bind fun ds e => .ok (numD ds) e := (rfl)
@[simp] theorem x_zip : mZip ma mb e = (ma e).bind fun r e => (mb e).bind fun r2 e => sqO (sqK r r2) e := (rfl)
@[simp] theorem sqK_list : sqK (.d (.list xs)) (.d (.list ys)) = some (zipD xs ys) := (rfl)
@[simp] theorem sqK_tuple : sqK (.d (.tuple xs)) (.d (.tuple ys)) = some (zipD xs ys) := (rfl)
def g1O (o : Option D) (e : En) : Res (Int × Int) := match o with
  | some (.int i) => .ok (0, i) e
  | _ => .st
def g2O (o p : Option D) (e : En) : Res (Int × Int) := match o, p with
  | some (.int i), some (.int j) => .ok (i, j) e
  | _, _ => .st
@[simp] theorem x_g1 : mG1 m e = (m e).bind fun r e => g1O (r.dat true e) e := (rfl)
@[simp] theorem x_g2 : mG2 ma mb e = (ma e).bind fun r e => (mb e).bind fun r2 e => g2O (r.dat true e) (r2.dat true e) e := (rfl)
@[simp] theorem g1O_n : g1O (some (nI n)) e = .ok (0, (n : Int)) e := (rfl)
@[simp] theorem g2O_n : g2O (some (nI i)) (some (nI n)) e = .ok ((i : Int), (n : Int)) e := (rfl)
def rgR {α : Type} (f : List D → α) (p : Int × Int) (e : En) : Res α := if rgOk p.1 p.2 = true then .ok (f (rgD p.1 p.2)) e else .st
theorem rgR_ok {α : Type} {f : List D → α} {i j : Int} (h : rgOk i j = true) : rgR f (i, j) e = .ok (f (rgD i j)) e := by
  unfold rgR
  rw [if_pos h]
@[simp] theorem x_rgI {mg : MG} : mRgI mg e = (mg e).bind (rgR id) := by
  unfold mRgI rgR
  cases mg e <;> rfl
@[simp] theorem x_rgL {mg : MG} : mRgL mg e = (mg e).bind (rgR R.ol) := by
  unfold mRgL rgR
  cases mg e <;> rfl
@[simp] theorem x_rgT {mg : MG} : mRgT mg e = (mg e).bind (rgR fun ds => R.d (.tuple ds)) := by
  unfold mRgT rgR
  cases mg e <;> rfl
@[simp] theorem x_itm : mItm m e = (m e).bind fun r e => match r with
    | .d (.dict kvs) => .ok (kvs.map fun p => .tuple [p.1, p.2]) e
    | _ => .st := rfl
@[simp] theorem x_ky : mKy m e = (m e).bind fun r e => match r with
    | .d (.dict kvs) => .ok (kvs.map fun p => p.1) e
    | _ => .st := rfl
@[simp] theorem x_yes : mYes e = .ok true e := (rfl)
/-! ### comprehensions -/
def lcR (r : Res (List D)) : Res R := match r with
  | .ok out e => .ok (.ol out) e
  | _ => .st
@[simp] theorem lcR_ok : lcR (.ok xs e) = .ok (.ol xs) e := (rfl)
@[simp] theorem x_lc {tt : MT} {me : ME} {vs : List Nat} : mLc mi q tt me vs e = (mi e).bind fun ds e => lcR (lcGo q tt me vs [] ds (wipeE e vs)) := (rfl)
@[simp] theorem wipe_nil : wipeE e [] = e := (rfl)
@[simp] theorem wipe_cons {v : Nat} {vs : List Nat} : wipeE e (v :: vs) = (wipeE e vs).set v none := (rfl)
end
end Pw

set_option Elab.async false
set_option linter.all false
set_option maxRecDepth 100000
set_option maxHeartbeats 2000000
/-! Px: values by their kinds; loops by what they do. -/
namespace Pw
open PySem PySem.Spec PyProof.Rows L2

/-! ### encodings -/
abbrev tE {α : Type} (f : α → D) (xs : List α) : D := .tuple (xs.map f)
abbrev lE {α : Type} (f : α → D) (xs : List α) : D := .list (xs.map f)
/-- the item at a place -/
def nth {α : Type} [Inhabited α] (xs : List α) (i : Nat) : α := xs[i]?.getD default
section
variable {α : Type} [Inhabited α] {xs ys : List α} {x : α} {i : Nat}
theorem nth_lt (h : i < xs.length) : nth xs i = xs[i] := by
  unfold nth
  rw [List.getElem?_eq_getElem h] <;> rfl
theorem nth_get (h : i < xs.length) : xs[i]? = some (nth xs i) := by rw [nth_lt h, List.getElem?_eq_getElem h]
theorem nth_mem (h : i < xs.length) : nth xs i ∈ xs := by rw [nth_lt h]; exact List.getElem_mem h
@[simp] theorem nth_zero : nth (x :: xs) 0 = x := (rfl)
@[simp] theorem nth_succ : nth (x :: xs) (i + 1) = nth xs i := (rfl)
@[simp] theorem nth_one {y : α} : nth (x :: y :: xs) 1 = y := (rfl)
@[simp] theorem nth_two {y z : α} : nth (x :: y :: z :: xs) 2 = z := (rfl)
@[simp] theorem nth_three {y z w : α} : nth (x :: y :: z :: w :: xs) 3 = w := (rfl)
theorem nth_ext (hl : xs.length = ys.length) (h : ∀ i, i < xs.length → nth xs i = nth ys i) : xs = ys := by
  refine List.ext_getElem? fun i => ?_
  by_cases c : i < xs.length
  · rw [nth_get c, nth_get (by omega), h i c]
  · rw [List.getElem?_eq_none (by omega), List.getElem?_eq_none (by omega)]
theorem nth_append_lt (h : i < xs.length) : nth (xs ++ ys) i = nth xs i := by
  unfold nth
  rw [List.getElem?_append_left h]
theorem nth_append_ge (h : xs.length ≤ i) : nth (xs ++ ys) i = nth ys (i - xs.length) := by
  unfold nth
  rw [List.getElem?_append_right h]
theorem nth_mem_ex (h : x ∈ xs) : ∃ i, i < xs.length ∧ nth xs i = x := by
  obtain ⟨i, hi, e⟩ := List.getElem_of_mem h
  exact ⟨i, hi, by rw [nth_lt hi, e]⟩
end
theorem nth_map {α β : Type} [Inhabited α] [Inhabited β] {f : α → β} {xs : List α} {i : Nat} (h : i < xs.length) : nth (xs.map f) i = f (nth xs i) := by
  unfold nth
  rw [List.getElem?_map, List.getElem?_eq_getElem h] <;> rfl
/-- an encoding that == tells apart -/
class Nc {α : Type} [DecidableEq α] (f : α → D) (n : outParam Nat) : Prop where
  ok : ∀ x, okD n (f x) = true
  eq : ∀ x y, PyData.eqv (f x) (f y) = decide (x = y)
instance nc_n : Nc nI 0 := ⟨fun _ => rfl, fun x y => by
  show PyData.eqv (.int _) (.int _) = _
  simp only [PyData.eqv, Bool.beq_eq_decide_eq]
  by_cases h : x = y
  · subst h; simp
  · rw [decide_eq_false h, decide_eq_false (by omega)]⟩
instance nc_b : Nc PyData.bool 0 := ⟨fun _ => okD_bool _ _, fun x y => by cases x <;> cases y <;> simp [PyData.eqv]⟩
instance nc_i : Nc PyData.int 0 := ⟨fun _ => okD_int _ _, fun x y => by simp only [PyData.eqv, Bool.beq_eq_decide_eq]⟩
theorem eqvAll_map {α : Type} [DecidableEq α] {f : α → D} (h : ∀ x y, PyData.eqv (f x) (f y) = decide (x = y)) : ∀ xs ys : List α, PyData.eqvAll (xs.map f) (ys.map f) = decide (xs = ys)
  | [], [] => by simp [PyData.eqvAll]
  | [], y :: ys => by simp [PyData.eqvAll]
  | x :: xs, [] => by simp [PyData.eqvAll]
  | x :: xs, y :: ys => by
    rw [List.map_cons, List.map_cons]
    simp only [PyData.eqvAll, h, eqvAll_map h xs ys, List.cons.injEq]
    by_cases c : x = y <;> by_cases d : xs = ys <;> simp [c, d]
theorem okDs_map {α : Type} [DecidableEq α] {f : α → D} {n : Nat} [h : Nc f n] (xs : List α) : okDs n (xs.map f) = true := okDs_all.mpr fun d m => by
  obtain ⟨x, _, rfl⟩ := List.mem_map.mp m
  exact h.ok x
instance nc_t {α : Type} [DecidableEq α] {f : α → D} {n : Nat} [h : Nc f n] : Nc (tE f) (n + 1) := ⟨fun xs => by
  show okD (n + 1) (.tuple _) = true
  simpa [okD] using okDs_map xs, fun xs ys => by
  show PyData.eqv (.tuple _) (.tuple _) = _
  simpa [PyData.eqv] using eqvAll_map h.eq xs ys⟩
instance nc_l {α : Type} [DecidableEq α] {f : α → D} {n : Nat} [h : Nc f n] : Nc (lE f) (n + 1) := ⟨fun xs => by
  show okD (n + 1) (.list _) = true
  simpa [okD] using okDs_map xs, fun xs ys => by
  show PyData.eqv (.list _) (.list _) = _
  simpa [PyData.eqv] using eqvAll_map h.eq xs ys⟩
/-- a pair -/
abbrev pE {α β : Type} (f : α → D) (g : β → D) (p : α × β) : D := .tuple [f p.1, g p.2]
instance nc_p {α β : Type} [DecidableEq α] [DecidableEq β] {f : α → D} {g : β → D} {n m : Nat} [h : Nc f n] [k : Nc g m] : Nc (pE f g) (max n m + 1) := ⟨fun p => by
  show okD (max n m + 1) (.tuple _) = true
  have a := okD_mono (Nat.le_max_left n m) (h.ok p.1)
  have b := okD_mono (Nat.le_max_right n m) (k.ok p.2)
  simp [okD, okDs, a, b], fun p q => by
  show PyData.eqv (.tuple _) (.tuple _) = _
  obtain ⟨a, b⟩ := p
  obtain ⟨c, d⟩ := q
  simp only [PyData.eqv, PyData.eqvAll, h.eq, k.eq, Bool.and_true, Prod.mk.injEq, Bool.decide_and]⟩
/-! ### operations on numbers -/
section
variable {a b n : Nat} {xs ys : List D} {x : D}
@[simp] theorem pLen_l : pLen [.list xs] = some (.d (nI xs.length)) := (rfl)
@[simp] theorem pLen_t : pLen [.tuple xs] = some (.d (nI xs.length)) := (rfl)
@[simp] theorem pLen_d {kvs : List (D × D)} : pLen [.dict kvs] = some (.d (nI kvs.length)) := (rfl)
theorem pEq_nc {α : Type} [DecidableEq α] {f : α → D} {n : Nat} [h : Nc f n] (hn : n ≤ 40) (x y : α) : pEq (f x) (f y) = some (.d (.bool (decide (x = y)))) := by
  unfold pEq
  rw [okD_mono hn (h.ok x), okD_mono hn (h.ok y)]
  simp only [Bool.and_self, if_true, bR, h.eq]
theorem pNe_nc {α : Type} [DecidableEq α] {f : α → D} {n : Nat} [h : Nc f n] (hn : n ≤ 40) (x y : α) : pNe (f x) (f y) = some (.d (.bool (!decide (x = y)))) := by
  unfold pNe
  rw [okD_mono hn (h.ok x), okD_mono hn (h.ok y)]
  simp only [Bool.and_self, if_true, bR, h.eq]
@[simp] theorem pEqT_n : pEqT (nI a) (nI b) = some (.d (.bool (decide (a = b)))) := pEq_nc (f := nI) (by decide) a b
@[simp] theorem pNeT_n : pNeT (nI a) (nI b) = some (.d (.bool (!decide (a = b)))) := pNe_nc (f := nI) (by decide) a b
@[simp] theorem pLt_n : pLt (nI a) (nI b) = some (.d (.bool (decide (a < b)))) := (pLt_int _ _).trans (by
  by_cases h : a < b
  · rw [decide_eq_true h, decide_eq_true (by omega)]
  · rw [decide_eq_false h, decide_eq_false (by omega)])
@[simp] theorem pGt_n : pGt (nI a) (nI b) = some (.d (.bool (decide (b < a)))) := (pGt_int _ _).trans (by
  by_cases h : b < a
  · rw [decide_eq_true h, decide_eq_true (by omega)]
  · rw [decide_eq_false h, decide_eq_false (by omega)])
@[simp] theorem pLe_n : pLe (nI a) (nI b) = some (.d (.bool (decide (a ≤ b)))) := (pLe_int _ _).trans (by
  by_cases h : a ≤ b
  · rw [decide_eq_true h, decide_eq_true (by omega)]
  · rw [decide_eq_false h, decide_eq_false (by omega)])
@[simp] theorem pGe_n : pGe (nI a) (nI b) = some (.d (.bool (decide (b ≤ a)))) := (pGe_int _ _).trans (by
  by_cases h : b ≤ a
  · rw [decide_eq_true h, decide_eq_true (by omega)]
  · rw [decide_eq_false h, decide_eq_false (by omega)])
@[simp] theorem pAdd_n : pAdd (nI a) (nI b) = some (.d (nI (a + b))) := by
  show some (R.d (.int ((a : Int) + b))) = some (.d (.int ((a + b : Nat) : Int)))
  rw [Int.natCast_add]
@[simp] theorem pSub_n (h : b ≤ a) : pSub (nI a) (nI b) = some (.d (nI (a - b))) := by
  show some (R.d (.int ((a : Int) - b))) = some (.d (.int ((a - b : Nat) : Int)))
  rw [Int.ofNat_sub h]
@[simp] theorem pMul_n (h : a < 18446744073709551616) : pMul (nI a) (nI b) = some (.d (nI (a * b))) := by
  have z : pMul (.int a) (.int b) = some (.d (.int (a * b))) := pMul_int (.inl (small64_of (by omega) (by omega)))
  show pMul (.int a) (.int b) = some (.d (.int ((a * b : Nat) : Int)))
  rw [z, Int.natCast_mul]
@[simp] theorem pMod_n (h : 0 < b) : pMod (nI a) (nI b) = some (.d (nI (a % b))) := by
  have z : pMod (.int a) (.int b) = some (.d (.int (a % b))) := pMod_int (by omega)
  show pMod (.int a) (.int b) = some (.d (.int ((a % b : Nat) : Int)))
  rw [z, Int.natCast_emod]
@[simp] theorem pDiv_n (h : 0 < b) (h2 : b < 1073741824) : pDiv (nI a) (nI b) = some (.d (nI (a / b))) := by
  have z : pDiv (.int a) (.int b) = some (.d (.int (a / b))) := pDiv_int (by omega) (by omega)
  show pDiv (.int a) (.int b) = some (.d (.int ((a / b : Nat) : Int)))
  rw [z, Int.natCast_ediv]
@[simp] theorem pNeg_1 : pNeg (nI 1) = some (.d (.int (-1))) := (rfl)
@[simp] theorem pNeg_2 : pNeg (nI 2) = some (.d (.int (-2))) := (rfl)
@[simp] theorem pAdd_tt (h : xs.length + ys.length ≤ 16777216) : pAdd (.tuple xs) (.tuple ys) = some (.d (.tuple (xs ++ ys))) := by
  show (if xs.length + ys.length ≤ 16777216 then some (R.d (.tuple (xs ++ ys))) else none) = _
  rw [if_pos h]
@[simp] theorem pAdd_ll (h : xs.length + ys.length ≤ 16777216) : pAdd (.list xs) (.list ys) = some (.ol (xs ++ ys)) := by
  show (if xs.length + ys.length ≤ 16777216 then some (R.ol (xs ++ ys)) else none) = _
  rw [if_pos h]
/-! ### places -/
theorem ixN_nat {n i : Nat} (h : i < n) : ixN n (i : Int) = some i := by
  unfold ixN
  rw [if_pos (by omega), if_pos (by omega)]
  simp
theorem ixN_last {n : Nat} (h : 0 < n) : ixN n (-1) = some (n - 1) := by
  unfold ixN
  rw [if_neg (by omega), if_pos (by omega)]
  congr 1
  omega
theorem ixN_last2 {n : Nat} (h : 1 < n) : ixN n (-2) = some (n - 2) := by
  unfold ixN
  rw [if_neg (by omega), if_pos (by omega)]
  congr 1
  omega
instance : Inhabited D := ⟨.none⟩
@[simp] theorem pIx_tn {i : Nat} (h : i < xs.length) : pIx (.tuple xs) (nI i) = some (.d (nth xs i)) := by
  show (atI xs (i : Int)).map R.d = _
  rw [atI_nat (nth_get h)] <;> rfl
@[simp] theorem pIx_ln {i : Nat} (h : i < xs.length) : pIx (.list xs) (nI i) = some (.d (nth xs i)) := by
  show (atI xs (i : Int)).map R.d = _
  rw [atI_nat (nth_get h)] <;> rfl
theorem atI_last {l : List D} (h : l ≠ []) : atI l (-1) = some (l.getLast h) := by
  unfold atI
  rw [ixN_last (List.length_pos_iff.mpr h)]
  show l[l.length - 1]? = _
  rw [List.getLast_eq_getElem, List.getElem?_eq_getElem]
@[simp] theorem pIx_tl (h : xs ≠ []) : pIx (.tuple xs) (.int (-1)) = some (.d (xs.getLast h)) := by
  show (atI xs (-1)).map R.d = _
  rw [atI_last h] <;> rfl
@[simp] theorem pIx_ll (h : xs ≠ []) : pIx (.list xs) (.int (-1)) = some (.d (xs.getLast h)) := by
  show (atI xs (-1)).map R.d = _
  rw [atI_last h] <;> rfl
@[simp] theorem pIx_t_map {α : Type} [Inhabited α] {f : α → D} {l : List α} {i : Nat} (h : i < l.length) : pIx (.tuple (l.map f)) (nI i) = some (.d (f (nth l i))) := by
  rw [pIx_tn (by simpa using h), nth_map h]
@[simp] theorem pIx_l_map {α : Type} [Inhabited α] {f : α → D} {l : List α} {i : Nat} (h : i < l.length) : pIx (.list (l.map f)) (nI i) = some (.d (f (nth l i))) := by
  rw [pIx_ln (by simpa using h), nth_map h]
/-! ### cuts -/
@[simp] theorem pCut_l {lo hi : Option Int} : pCut (.list xs) lo hi = some (.ol (cutL xs lo hi)) := (rfl)
@[simp] theorem pCut_t {lo hi : Option Int} : pCut (.tuple xs) lo hi = some (.d (.tuple (cutL xs lo hi))) := (rfl)
end
section
variable {α β : Type} {l : List α} {f : α → β} {n m : Nat}
theorem cut_map {lo hi : Option Int} : cutL (l.map f) lo hi = (cutL l lo hi).map f := by
  unfold cutL
  rw [List.length_map, ← List.map_drop, ← List.map_take]
end
/-! ### kinds -/
section
variable {n : Nat} {xs : List D} {s : Str} {b : Bool} {i : Int}
@[simp] theorem is1_n : isiD "int" (nI n) = some (.d (.bool true)) := isi_int (x := .int n) rfl
@[simp] theorem is1_i : isiD "int" (.int i) = some (.d (.bool true)) := isi_int (x := .int i) rfl
@[simp] theorem is1_b : isiD "int" (.bool b) = some (.d (.bool true)) := isi_int (x := .bool b) rfl
@[simp] theorem is1_t : isiD "int" (.tuple xs) = some (.d (.bool false)) := isi_int (x := .tuple xs) rfl
@[simp] theorem is1_l : isiD "int" (.list xs) = some (.d (.bool false)) := isi_int (x := .list xs) rfl
@[simp] theorem is1_s : isiD "int" (.str s) = some (.d (.bool false)) := isi_int (x := .str s) rfl
@[simp] theorem is1_0 : isiD "int" .none = some (.d (.bool false)) := isi_int (x := .none) rfl
@[simp] theorem is2_n : isiD "bool" (nI n) = some (.d (.bool false)) := isi_bool (x := .int n) rfl
@[simp] theorem is2_i : isiD "bool" (.int i) = some (.d (.bool false)) := isi_bool (x := .int i) rfl
@[simp] theorem is2_b : isiD "bool" (.bool b) = some (.d (.bool true)) := isi_bool (x := .bool b) rfl
@[simp] theorem is3_t : isiD "tuple" (.tuple xs) = some (.d (.bool true)) := isi_tuple (x := .tuple xs) rfl
@[simp] theorem is3_l : isiD "tuple" (.list xs) = some (.d (.bool false)) := isi_tuple (x := .list xs) rfl
@[simp] theorem is3_n : isiD "tuple" (nI n) = some (.d (.bool false)) := isi_tuple (x := .int n) rfl
@[simp] theorem is3_i : isiD "tuple" (.int i) = some (.d (.bool false)) := isi_tuple (x := .int i) rfl
@[simp] theorem is3_b : isiD "tuple" (.bool b) = some (.d (.bool false)) := isi_tuple (x := .bool b) rfl
@[simp] theorem is3_s : isiD "tuple" (.str s) = some (.d (.bool false)) := isi_tuple (x := .str s) rfl
@[simp] theorem is3_0 : isiD "tuple" .none = some (.d (.bool false)) := isi_tuple (x := .none) rfl
@[simp] theorem is4_s : isiD "str" (.str s) = some (.d (.bool true)) := isi_str (x := .str s) rfl
@[simp] theorem is4_t : isiD "str" (.tuple xs) = some (.d (.bool false)) := isi_str (x := .tuple xs) rfl
@[simp] theorem is4_l : isiD "str" (.list xs) = some (.d (.bool false)) := isi_str (x := .list xs) rfl
@[simp] theorem is4_n : isiD "str" (nI n) = some (.d (.bool false)) := isi_str (x := .int n) rfl
@[simp] theorem is4_i : isiD "str" (.int i) = some (.d (.bool false)) := isi_str (x := .int i) rfl
@[simp] theorem is4_b : isiD "str" (.bool b) = some (.d (.bool false)) := isi_str (x := .bool b) rfl
@[simp] theorem is4_0 : isiD "str" .none = some (.d (.bool false)) := isi_str (x := .none) rfl
@[simp] theorem is5_t : isi2D "list" "tuple" (.tuple xs) = some (.d (.bool true)) := isi2_lt (x := .tuple xs) rfl
@[simp] theorem is5_l : isi2D "list" "tuple" (.list xs) = some (.d (.bool true)) := isi2_lt (x := .list xs) rfl
@[simp] theorem is5_n : isi2D "list" "tuple" (nI n) = some (.d (.bool false)) := isi2_lt (x := .int n) rfl
@[simp] theorem is5_s : isi2D "list" "tuple" (.str s) = some (.d (.bool false)) := isi2_lt (x := .str s) rfl
@[simp] theorem is5_b : isi2D "list" "tuple" (.bool b) = some (.d (.bool false)) := isi2_lt (x := .bool b) rfl
@[simp] theorem is5_0 : isi2D "list" "tuple" .none = some (.d (.bool false)) := isi2_lt (x := .none) rfl
@[simp] theorem pEqT_s {s t : Str} : pEqT (.str s) (.str t) = some (.d (.bool (decide (s = t)))) := (rfl)
@[simp] theorem pNeT_s {s t : Str} : pNeT (.str s) (.str t) = some (.d (.bool (!decide (s = t)))) := (rfl)
@[simp] theorem pIs_n {x : D} : pIs x .none = some (.d (.bool (isN x))) := (rfl)
@[simp] theorem pIsNot_n {x : D} : pIsNot x .none = some (.d (.bool (!isN x))) := (rfl)
@[simp] theorem isN_none : isN .none = true := (rfl)
@[simp] theorem isN_n : isN (nI n) = false := (rfl)
@[simp] theorem isN_l : isN (.list xs) = false := (rfl)
@[simp] theorem isN_t : isN (.tuple xs) = false := (rfl)
end
/-! ### equality, membership of encoded things -/
section
variable {α : Type} [DecidableEq α] {f : α → D} {n : Nat} [h : Nc f n] {xs ys : List α} {x : α}
theorem pEqT_tt (hn : n ≤ 39 := by decide) : pEqT (.tuple (xs.map f)) (.tuple (ys.map f)) = some (.d (.bool (decide (xs = ys)))) := pEq_nc (f := tE f) (by omega) xs ys
theorem pNeT_tt (hn : n ≤ 39 := by decide) : pNeT (.tuple (xs.map f)) (.tuple (ys.map f)) = some (.d (.bool (!decide (xs = ys)))) := pNe_nc (f := tE f) (by omega) xs ys
theorem pEqT_ll (hn : n ≤ 39 := by decide) : pEqT (.list (xs.map f)) (.list (ys.map f)) = some (.d (.bool (decide (xs = ys)))) := pEq_nc (f := lE f) (by omega) xs ys
theorem pNeT_ll (hn : n ≤ 39 := by decide) : pNeT (.list (xs.map f)) (.list (ys.map f)) = some (.d (.bool (!decide (xs = ys)))) := pNe_nc (f := lE f) (by omega) xs ys
theorem pNeT_l0 (hn : n ≤ 39 := by decide) : pNeT (.list (xs.map f)) (.list []) = some (.d (.bool (!decide (xs = [])))) := pNe_nc (f := lE f) (by omega) xs []
theorem pEqT_l0 (hn : n ≤ 39 := by decide) : pEqT (.list (xs.map f)) (.list []) = some (.d (.bool (decide (xs = [])))) := pEq_nc (f := lE f) (by omega) xs []
include h
theorem any_eqv : ((xs.map f).any fun z => PyData.eqv z (f x)) = decide (x ∈ xs) := by
  rw [List.any_map, Bool.eq_iff_iff, List.any_eq_true, decide_eq_true_eq]
  constructor
  · rintro ⟨y, hy, e⟩
    have e' : PyData.eqv (f y) (f x) = true := e
    rw [h.eq, decide_eq_true_eq] at e'
    exact e' ▸ hy
  · exact fun m => ⟨x, m, by show PyData.eqv (f x) (f x) = true; rw [h.eq]; simp⟩
theorem inD_l (hn : n ≤ 40) : inD (f x) (.list (xs.map f)) = some (decide (x ∈ xs)) := by
  show (if okD 40 (f x) && okDs 40 (xs.map f) then some ((xs.map f).any fun z => PyData.eqv z (f x)) else none) = _
  rw [okD_mono hn (h.ok x), okDs_mono hn (okDs_map xs), any_eqv]
  rfl
theorem inD_t (hn : n ≤ 40) : inD (f x) (.tuple (xs.map f)) = some (decide (x ∈ xs)) := by
  show (if okD 40 (f x) && okDs 40 (xs.map f) then some ((xs.map f).any fun z => PyData.eqv z (f x)) else none) = _
  rw [okD_mono hn (h.ok x), okDs_mono hn (okDs_map xs), any_eqv]
  rfl
theorem pIn_l (hn : n ≤ 40 := by decide) : pIn (f x) (.list (xs.map f)) = some (.d (.bool (decide (x ∈ xs)))) := by
  unfold pIn
  rw [inD_l hn] <;> rfl
theorem pIn_t (hn : n ≤ 40 := by decide) : pIn (f x) (.tuple (xs.map f)) = some (.d (.bool (decide (x ∈ xs)))) := by
  unfold pIn
  rw [inD_t hn] <;> rfl
theorem pNotIn_l (hn : n ≤ 40 := by decide) : pNotIn (f x) (.list (xs.map f)) = some (.d (.bool (!decide (x ∈ xs)))) := by
  unfold pNotIn
  rw [inD_l hn] <;> rfl
theorem pNotIn_t (hn : n ≤ 40 := by decide) : pNotIn (f x) (.tuple (xs.map f)) = some (.d (.bool (!decide (x ∈ xs)))) := by
  unfold pNotIn
  rw [inD_t hn] <;> rfl
end
@[simp] theorem pIn_nt {a : Nat} {l : List Nat} : pIn (nI a) (.tuple (l.map nI)) = some (.d (.bool (decide (a ∈ l)))) := pIn_t
@[simp] theorem pNotIn_nt {a : Nat} {l : List Nat} : pNotIn (nI a) (.tuple (l.map nI)) = some (.d (.bool (!decide (a ∈ l)))) := pNotIn_t
@[simp] theorem pEqT_nt {a l : List Nat} : pEqT (.tuple (a.map nI)) (.tuple (l.map nI)) = some (.d (.bool (decide (a = l)))) := pEqT_tt
@[simp] theorem pNeT_nt {a l : List Nat} : pNeT (.tuple (a.map nI)) (.tuple (l.map nI)) = some (.d (.bool (!decide (a = l)))) := pNeT_tt
/-! ### built-ins -/
section
variable {α : Type} {l : List α} {f : α → Bool} {xs : List D} {n m : Nat}
@[simp] theorem pAll_b : pAll [.list (l.map fun x => PyData.bool (f x))] = some (.d (.bool (l.all f))) := pAll_map f l
@[simp] theorem pAny_b : pAny [.list (l.map fun x => PyData.bool (f x))] = some (.d (.bool (l.any f))) := by
  show (asBls (l.map fun x => PyData.bool (f x))).map (fun ns => bR (ns.any id)) = _
  have e : (l.map fun x => PyData.bool (f x)) = (l.map f).map PyData.bool := by rw [List.map_map]; rfl
  rw [e, asBls_of]
  simp [bR, List.any_map]
@[simp] theorem pTup_l : pTup [.list xs] = some (.d (.tuple xs)) := (rfl)
@[simp] theorem pTup_t : pTup [.tuple xs] = some (.d (.tuple xs)) := (rfl)
@[simp] theorem pLst_l : pLst [.list xs] = some (.ol xs) := (rfl)
@[simp] theorem pLst_t : pLst [.tuple xs] = some (.ol xs) := (rfl)
@[simp] theorem pInt_n : pInt [nI n] = some (.d (nI n)) := (rfl)
theorem rg_ok {a b : Nat} (h : a ≤ 1000000) (h2 : b ≤ 1000000) : rgOk (a : Int) (b : Int) = true := rgOk_small (by omega) (by omega) (by omega) (by omega)
theorem rg_ok0 {b : Nat} (h2 : b ≤ 1000000) : rgOk 0 (b : Int) = true := rgOk_small (by omega) (by omega) (by omega) (by omega)
@[simp] theorem rgD_n : rgD 0 (n : Int) = (List.range n).map nI := by
  unfold rgD
  have e : ((n : Int) - 0).toNat = n := by omega
  rw [e]
  refine List.map_congr_left fun i _ => ?_
  show PyData.int (0 + (i : Int)) = .int i
  rw [Int.zero_add]
end
@[simp] theorem rgR_n {α : Type} {f : List D → α} {e : En} {n : Nat} (h : n ≤ 1000000) : rgR f (0, (n : Int)) e = .ok (f ((List.range n).map nI)) e := by
  rw [rgR_ok (rg_ok0 h), rgD_n]
/-! ### writing at a place -/
@[simp] theorem putAt_n {xs : List D} {x : D} {i : Nat} (h : i < xs.length) : putAt (nI i) x (.ol xs) = some (.ol (xs.set i x)) := by
  show (ixN xs.length (i : Int)).map (fun j => R.ol (xs.set j x)) = _
  rw [ixN_nat h] <;> rfl
@[simp] theorem putAt_pl {xs : List D} {x : D} {i : Nat} (h : i < xs.length) : putAt (nI i) x (.pl xs) = some (.pl (xs.set i x)) := by
  show (ixN xs.length (i : Int)).map (fun j => R.pl (xs.set j x)) = _
  rw [ixN_nat h] <;> rfl
theorem putAt_last {xs : List D} {x : D} (h : 0 < xs.length) : putAt (.int (-1)) x (.ol xs) = some (.ol (xs.set (xs.length - 1) x)) := by
  show (ixN xs.length (-1)).map (fun j => R.ol (xs.set j x)) = _
  rw [ixN_last h] <;> rfl
/-! ### branches -/
section
variable {α : Type} {c : Prop} [Decidable c] {a b : α} {e : En} {x y : D} {p q : Bool}
@[simp] theorem ok_ite : (if c then Res.ok a e else Res.ok b e) = Res.ok (if c then a else b) e := by split <;> rfl
@[simp] theorem rd_ite : (if c then R.d x else R.d y) = R.d (if c then x else y) := by split <;> rfl
@[simp] theorem bool_ite : (if c then PyData.bool p else PyData.bool q) = PyData.bool (if c then p else q) := by split <;> rfl
end
@[simp] theorem nth_mapS {α β : Type} [Inhabited α] [Inhabited β] {f : α → β} {xs : List α} {i : Nat} (h : i < xs.length) : nth (xs.map f) i = f (nth xs i) := nth_map h
end Pw

set_option Elab.async false
set_option linter.all false
set_option maxRecDepth 100000
set_option maxHeartbeats 2000000
/-! Px: loops by what one turn does. -/
namespace Pw
open PySem PySem.Spec PyProof.Rows L2

/-! ### for -/
def RS.lp (r : RS) (k : En → RS) : RS := match r with
  | .nx e => k e
  | .ct e => k e
  | .bk e => .nx e
  | .rt r e => .rt r e
  | .ex x e => .ex x e
  | .st => .st
def qS (o : Option En) (b : MS) : RS := match o with
  | none => .st
  | some e => b e
section
variable {e e1 : En} {b : MS} {k : En → RS} {r : R} {q : MQ} {x : D} {xs : List D}
@[simp] theorem lp_nx : (RS.nx e).lp k = k e := (rfl)
@[simp] theorem lp_rt : (RS.rt r e).lp k = .rt r e := (rfl)
@[simp] theorem qS_some : qS (some e) b = b e := (rfl)
@[simp] theorem forGo_nil : forGo q b [] e = .nx e := (rfl)
theorem forGo_cons : forGo q b (x :: xs) e = (qS (q (.d x) e) b).lp (forGo q b xs) := by
  show (match q (.d x) e with
    | none => RS.st
    | some e1 => match b e1 with
      | .nx e2 => forGo q b xs e2
      | .ct e2 => forGo q b xs e2
      | .bk e2 => .nx e2
      | .rt r e2 => .rt r e2
      | .ex x e2 => .ex x e2
      | .st => .st) = _
  cases q (.d x) e with
  | none => rfl
  | some e1 => simp only [qS_some]; cases b e1 <;> rfl
end
/-- a loop that runs to its end; P: what holds when `done` has been walked -/
theorem for_ex {α : Type} {f : α → D} {q : MQ} {b : MS} {e0 : En} {xs : List α} (P : List α → En → Prop) (h0 : P [] e0)
    (h : ∀ done a rest e, done ++ a :: rest = xs → P done e → ∃ e', qS (q (.d (f a)) e) b = .nx e' ∧ P (done ++ [a]) e') :
    ∃ e', forGo q b (xs.map f) e0 = .nx e' ∧ P xs e' := by
  suffices H : ∀ rest done e, done ++ rest = xs → P done e → ∃ e', forGo q b (rest.map f) e = .nx e' ∧ P xs e' from H xs [] e0 rfl h0
  intro rest
  induction rest with
  | nil => intro done e hx hp; exact ⟨e, rfl, by rw [← hx, List.append_nil]; exact hp⟩
  | cons a rest ih =>
    intro done e hx hp
    obtain ⟨e1, h1, p1⟩ := h done a rest e hx hp
    rw [List.map_cons, forGo_cons, h1, lp_nx]
    exact ih (done ++ [a]) e1 (by rw [List.append_assoc]; exact hx) p1
/-- a loop over the numbers below n -/
theorem for_rg {f : Nat → D} {q : MQ} {b : MS} {e0 : En} {n : Nat} (P : Nat → En → Prop) (h0 : P 0 e0)
    (h : ∀ i e, i < n → P i e → ∃ e', qS (q (.d (f i)) e) b = .nx e' ∧ P (i + 1) e') :
    ∃ e', forGo q b ((List.range n).map f) e0 = .nx e' ∧ P n e' := by
  obtain ⟨e', g, p⟩ := for_ex (f := f) (q := q) (b := b) (xs := List.range n) (fun done e => P done.length e) h0 fun done a rest e hx hp => by
    have hl : done.length < n := by
      have := congrArg List.length hx
      simp at this
      omega
    have ha : a = done.length := by
      have z : (List.range n)[done.length]? = some a := by rw [← hx]; simp
      rw [List.getElem?_range hl] at z
      exact (Option.some.inj z).symm
    subst ha
    obtain ⟨e1, g1, p1⟩ := h _ e hl hp
    exact ⟨e1, g1, by simpa using p1⟩
  exact ⟨e', g, by simpa using p⟩
/-- what enumerate and zip walk -/
theorem numD_map {α : Type} [Inhabited α] {f : α → D} (xs : List α) : numD (xs.map f) = (List.range xs.length).map fun i => PyData.tuple [nI i, f (nth xs i)] := by
  unfold numD
  refine List.ext_getElem (by simp) fun i h1 h2 => ?_
  have hi : i < xs.length := by simpa using h2
  simp [nth_lt hi]
  rfl
theorem zipD_map {α β : Type} {f : α → D} {g : β → D} (xs : List α) (ys : List β) : zipD (xs.map f) (ys.map g) = (xs.zip ys).map (pE f g) := by
  unfold zipD
  rw [List.zipWith_map, List.zip, List.map_zipWith]
/-- a loop that gives an answer at the first item of a kind -/
theorem for_find {α : Type} {f : α → D} {q : MQ} {b : MS} {e0 : En} {xs : List α} {r : R} (p : α → Bool) (P : En → Prop) (h0 : P e0)
    (h : ∀ a ∈ xs, ∀ e, P e → ∃ e', (if p a = true then qS (q (.d (f a)) e) b = .rt r e' else qS (q (.d (f a)) e) b = .nx e' ∧ P e')) :
    ∃ e', if xs.any p = true then forGo q b (xs.map f) e0 = .rt r e' else forGo q b (xs.map f) e0 = .nx e' ∧ P e' := by
  induction xs generalizing e0 with
  | nil => exact ⟨e0, rfl, h0⟩
  | cons a xs ih =>
    obtain ⟨e1, h1⟩ := h a List.mem_cons_self e0 h0
    rw [List.map_cons, forGo_cons, List.any_cons]
    by_cases c : p a = true
    · rw [if_pos c] at h1
      exact ⟨e1, by rw [c, Bool.true_or, if_pos rfl, h1]; rfl⟩
    · rw [if_neg c] at h1
      obtain ⟨e2, h2⟩ := ih h1.2 fun a m => h a (List.mem_cons_of_mem _ m)
      rw [Bool.not_eq_true] at c
      exact ⟨e2, by rw [c, Bool.false_or, h1.1, lp_nx]; exact h2⟩
/-! ### while -/
def whB (r : Res Bool) (b : MS) (k : En → RS) : RS := match r with
  | .st => .st
  | .ex x e => .ex x e
  | .ok c e => if c = true then (b e).lp k else .nx e
theorem whGo_succ {c : MT} {b : MS} {n : Nat} {e : En} : whGo c b (n + 1) e = whB (c e) b (whGo c b n) := by
  show (match c e with
    | .st => RS.st
    | .ex x e => RS.ex x e
    | .ok k e1 => if k = true then match b e1 with
        | .nx e2 => whGo c b n e2
        | .ct e2 => whGo c b n e2
        | .bk e2 => .nx e2
        | .rt r e2 => .rt r e2
        | .ex x e2 => .ex x e2
        | .st => .st
      else .nx e1) = _
  cases c e with
  | st => rfl
  | ex x e => rfl
  | ok k e1 =>
    cases k with
    | false => rfl
    | true => show _ = (b e1).lp _; simp only [if_true]; cases b e1 <;> rfl
theorem wh_ex {c : MT} {b : MS} {n : Nat} (P : Nat → En → Prop) (Q : En → Prop) (h0 : ∀ e, P 0 e → ∃ e', c e = .ok false e' ∧ Q e')
    (h : ∀ k e, P (k + 1) e → ∃ e1 e2, c e = .ok true e1 ∧ b e1 = .nx e2 ∧ P k e2) {k : Nat} {e : En} (hk : k < n) (hp : P k e) :
    ∃ e', whGo c b n e = .nx e' ∧ Q e' := by
  induction k generalizing n e with
  | zero =>
    obtain ⟨e', h1, h2⟩ := h0 e hp
    obtain ⟨m, rfl⟩ : ∃ m, n = m + 1 := ⟨n - 1, by omega⟩
    exact ⟨e', by rw [whGo_succ, h1]; rfl, h2⟩
  | succ k ih =>
    obtain ⟨e1, e2, h1, h2, h3⟩ := h k e hp
    obtain ⟨m, rfl⟩ : ∃ m, n = m + 1 := ⟨n - 1, by omega⟩
    obtain ⟨e', h4, h5⟩ := ih (n := m) (by omega) h3
    exact ⟨e', by rw [whGo_succ, h1]; show (b e1).lp _ = _; rw [h2]; exact h4, h5⟩
/-! ### comprehensions -/
def lcC (r : Res R) (vs : List Nat) : Option (Option D × En) := match r with
  | .ok (.d y) e => some (some y, wipeE e vs)
  | _ => none
def lcB (r : Res Bool) (me : ME) (vs : List Nat) : Option (Option D × En) := match r with
  | .ok true e => lcC (me e) vs
  | .ok false e => some (none, wipeE e vs)
  | _ => none
def lcA (o : Option En) (tt : MT) (me : ME) (vs : List Nat) : Option (Option D × En) := match o with
  | some e => lcB (tt e) me vs
  | none => none
def lcN (o : Option (Option D × En)) (acc : List D) (k : List D → En → Res (List D)) : Res (List D) := match o with
  | some (some y, e) => if acc.length < 16777216 then k (acc ++ [y]) e else .st
  | some (none, e) => k acc e
  | none => .st
section
variable {e : En} {tt : MT} {me : ME} {vs : List Nat} {y x : D} {acc xs : List D} {q : MQ} {c : Bool}
@[simp] theorem lcC_ok : lcC (.ok (.d y) e) vs = some (some y, wipeE e vs) := (rfl)
@[simp] theorem lcB_true : lcB (.ok true e) me vs = lcC (me e) vs := (rfl)
@[simp] theorem lcB_false : lcB (.ok false e) me vs = some (none, wipeE e vs) := (rfl)
theorem lcB_ok : lcB (.ok c e) me vs = if c = true then lcC (me e) vs else some (none, wipeE e vs) := by cases c <;> rfl
@[simp] theorem lcA_some : lcA (some e) tt me vs = lcB (tt e) me vs := (rfl)
theorem lcGo_cons : lcGo q tt me vs acc (x :: xs) e = lcN (lcA (q (.d x) e) tt me vs) acc fun acc e => lcGo q tt me vs acc xs e := by
  rw [lcGo]
  cases q (.d x) e with
  | none => rfl
  | some e1 =>
    simp only [lcA_some]
    cases tt e1 with
    | st => rfl
    | ex x e => rfl
    | ok c e2 =>
      cases c with
      | false => rfl
      | true =>
        simp only [lcB_true]
        cases me e2 with
        | st => rfl
        | ex x e => rfl
        | ok r e3 => cases r <;> rfl
end
theorem lc_gen {α : Type} {f : α → D} {q : MQ} {tt : MT} {me : ME} {vs : List Nat} {e : En} {xs : List α} (g : α → Option D)
    (h : ∀ a ∈ xs, lcA (q (.d (f a)) e) tt me vs = some (g a, e)) (hl : xs.length ≤ 16777216) :
    lcGo q tt me vs [] (xs.map f) e = .ok (xs.filterMap g) e := by
  suffices H : ∀ (ys : List α) (acc : List D), (∀ a ∈ ys, lcA (q (.d (f a)) e) tt me vs = some (g a, e)) → acc.length + ys.length ≤ 16777216 →
      lcGo q tt me vs acc (ys.map f) e = .ok (acc ++ ys.filterMap g) e by
    have := H xs [] h (by simpa using hl)
    simpa using this
  intro ys
  induction ys with
  | nil => intro acc _ _; rw [List.filterMap_nil, List.append_nil]; rfl
  | cons a ys ih =>
    intro acc h hl
    rw [List.length_cons] at hl
    rw [List.map_cons, lcGo_cons, h a List.mem_cons_self]
    cases c : g a with
    | none =>
      rw [List.filterMap_cons_none c]
      exact ih acc (fun a m => h a (List.mem_cons_of_mem _ m)) (by omega)
    | some y =>
      rw [List.filterMap_cons_some c]
      show (if acc.length < 16777216 then _ else _) = _
      rw [if_pos (by omega), ih (acc ++ [y]) (fun a m => h a (List.mem_cons_of_mem _ m)) (by rw [List.length_append]; simp; omega), List.append_assoc]
      rfl
theorem lc_mp {α β : Type} {f : α → D} {q : MQ} {tt : MT} {me : ME} {vs : List Nat} {e : En} {xs : List α} (F : β → D) (g : α → β)
    (h : ∀ a ∈ xs, lcA (q (.d (f a)) e) tt me vs = some (some (F (g a)), e)) (hl : xs.length ≤ 16777216) :
    lcGo q tt me vs [] (xs.map f) e = .ok ((xs.map g).map F) e := by
  rw [lc_gen (fun a => some (F (g a))) h hl, List.filterMap_eq_map', List.map_map]
  rfl
theorem lc_fil {α β : Type} {f : α → D} {q : MQ} {tt : MT} {me : ME} {vs : List Nat} {e : En} {xs : List α} (F : β → D) (p : α → Bool) (g : α → β)
    (h : ∀ a ∈ xs, lcA (q (.d (f a)) e) tt me vs = some (if p a = true then some (F (g a)) else none, e)) (hl : xs.length ≤ 16777216) :
    lcGo q tt me vs [] (xs.map f) e = .ok (((xs.filter p).map g).map F) e := by
  rw [lc_gen (fun a => if p a = true then some (F (g a)) else none) h hl, List.map_map]
  congr 1
  induction xs with
  | nil => rfl
  | cons a xs ih =>
    have z := ih (fun a m => h a (List.mem_cons_of_mem _ m)) (by rw [List.length_cons] at hl; omega)
    by_cases c : p a = true
    · rw [List.filterMap_cons_some (b := F (g a)) (by rw [if_pos c]), List.filter_cons_of_pos c, List.map_cons, z]
      rfl
    · rw [List.filterMap_cons_none (by rw [if_neg c]), List.filter_cons_of_neg c, z]
/-- one that changes the slots as it goes, and takes every item -/
theorem lc_ex {α : Type} {f : α → D} {q : MQ} {tt : MT} {me : ME} {vs : List Nat} {e0 : En} {xs : List α} (P : List α → List D → En → Prop) (h0 : P [] [] e0)
    (h : ∀ done a rest acc e, done ++ a :: rest = xs → P done acc e → ∃ y e', lcA (q (.d (f a)) e) tt me vs = some (some y, e') ∧ P (done ++ [a]) (acc ++ [y]) e')
    (hl : xs.length ≤ 16777216) : ∃ ys e', lcGo q tt me vs [] (xs.map f) e0 = .ok ys e' ∧ P xs ys e' := by
  suffices H : ∀ rest done acc e, done ++ rest = xs → acc.length = done.length → P done acc e → ∃ ys e', lcGo q tt me vs acc (rest.map f) e = .ok ys e' ∧ P xs ys e' from
    H xs [] [] e0 rfl rfl h0
  intro rest
  induction rest with
  | nil => intro done acc e hx _ hp; exact ⟨acc, e, rfl, by rw [← hx, List.append_nil]; exact hp⟩
  | cons a rest ih =>
    intro done acc e hx hn hp
    obtain ⟨y, e1, h1, p1⟩ := h done a rest acc e hx hp
    obtain ⟨ys, e2, h2, p2⟩ := ih (done ++ [a]) (acc ++ [y]) e1 (by rw [List.append_assoc]; exact hx) (by simp [hn]) p1
    refine ⟨ys, e2, ?_, p2⟩
    rw [List.map_cons, lcGo_cons, h1]
    show (if acc.length < 16777216 then _ else _) = _
    rw [if_pos (by have := congrArg List.length hx; simp at this; omega)]
    exact h2
end Pw

set_option Elab.async false
set_option linter.all false
set_option maxRecDepth 100000
set_option maxHeartbeats 2000000
/-! Px: rows of bells. -/
namespace Pw
open PySem PySem.Spec PyProof.Rows L2

section
variable {α : Type} [Inhabited α] {l : List α} {i j : Nat} {a : α}
theorem nth_set_self (h : i < l.length) : nth (l.set i a) i = a := by
  unfold nth
  rw [List.getElem?_set_self h] <;> rfl
theorem nth_set_ne (h : i ≠ j) : nth (l.set i a) j = nth l j := by
  unfold nth
  rw [List.getElem?_set_ne h]
end
/-- a row: the numbers below n in some order -/
def Row (n : Nat) (r : List Nat) : Prop := r.length = n ∧ r.Nodup ∧ ∀ x ∈ r, x < n
def tms (r s : List Nat) : List Nat := s.map (nth r)
def inv (r : List Nat) : List Nat := (List.range r.length).map fun v => r.idxOf v
section
variable {n : Nat} {r s t : List Nat}
theorem Row.len (h : Row n r) : r.length = n := h.1
theorem Row.nd (h : Row n r) : r.Nodup := h.2.1
theorem Row.lt (h : Row n r) {x : Nat} (m : x ∈ r) : x < n := h.2.2 x m
theorem row_range (n : Nat) : Row n (List.range n) := ⟨List.length_range, List.nodup_range, fun x m => List.mem_range.mp m⟩
theorem Row.sub (h : Row n r) : r.Subset (List.range n) := fun x m => List.mem_range.mpr (h.lt m)
theorem nodup_perm {α : Type} [DecidableEq α] {l m : List α} (h1 : l.Nodup) (h2 : m.Nodup) (hs : l ⊆ m) (hl : m.length ≤ l.length) : l.Perm m := by
  induction l generalizing m with
  | nil =>
    have : m = [] := List.length_eq_zero_iff.mp (by simpa using hl)
    subst this
    exact .nil
  | cons a l ih =>
    have ha : a ∈ m := hs List.mem_cons_self
    have p := List.perm_cons_erase ha
    refine (List.Perm.cons a (ih (List.nodup_cons.mp h1).2 (h2.erase a) (fun x hx => ?_) ?_)).trans p.symm
    · have : x ≠ a := fun e => (List.nodup_cons.mp h1).1 (e ▸ hx)
      exact (List.mem_erase_of_ne this).mpr (hs (List.mem_cons_of_mem _ hx))
    · have := p.length_eq
      simp at this hl
      omega
theorem Row.perm (h : Row n r) : r.Perm (List.range n) := nodup_perm h.nd List.nodup_range h.sub (by rw [List.length_range, h.len]; exact Nat.le_refl _)
theorem Row.mem (h : Row n r) {x : Nat} (hx : x < n) : x ∈ r := h.perm.mem_iff.mpr (List.mem_range.mpr hx)
theorem Row.nthlt (h : Row n r) {i : Nat} (hi : i < n) : nth r i < n := h.lt (nth_mem (by rw [h.len]; exact hi))
@[simp] theorem tms_len : (tms r s).length = s.length := List.length_map ..
theorem nth_tms {i : Nat} (hi : i < s.length) : nth (tms r s) i = nth r (nth s i) := nth_map hi
theorem nth_inj {α : Type} [Inhabited α] {l : List α} (h : l.Nodup) {i j : Nat} (hi : i < l.length) (hj : j < l.length) (e : nth l i = nth l j) : i = j := by
  rw [nth_lt hi, nth_lt hj] at e
  exact (List.getElem_inj h).mp e
theorem map_nodup {α β : Type} {f : α → β} {l : List α} (h : l.Nodup) (hf : ∀ x ∈ l, ∀ y ∈ l, f x = f y → x = y) : (l.map f).Nodup := by
  induction l with
  | nil => simp
  | cons a l ih =>
    rw [List.map_cons, List.nodup_cons]
    refine ⟨fun m => ?_, ih (List.nodup_cons.mp h).2 fun x hx y hy => hf x (List.mem_cons_of_mem _ hx) y (List.mem_cons_of_mem _ hy)⟩
    obtain ⟨x, hx, e⟩ := List.mem_map.mp m
    exact (List.nodup_cons.mp h).1 (hf x (List.mem_cons_of_mem _ hx) a List.mem_cons_self e ▸ hx)
theorem nodup_of_map {α β : Type} {f : α → β} {l : List α} (h : (l.map f).Nodup) : l.Nodup := by
  induction l with
  | nil => simp
  | cons a l ih =>
    rw [List.map_cons, List.nodup_cons] at h
    exact List.nodup_cons.mpr ⟨fun m => h.1 (List.mem_map_of_mem m), ih h.2⟩
theorem Row.tms (h : Row n r) (k : Row n s) : Row n (tms r s) :=
  ⟨by rw [tms_len, k.len], map_nodup k.nd fun x hx y hy e => nth_inj h.nd (by rw [h.len]; exact k.lt hx) (by rw [h.len]; exact k.lt hy) e, fun x m => by
    obtain ⟨i, hi, rfl⟩ := List.mem_map.mp m
    exact h.nthlt (k.lt hi)⟩
theorem tms_assoc (k : ∀ x ∈ t, x < s.length) : tms (tms r s) t = tms r (tms s t) := by
  unfold tms
  rw [List.map_map]
  exact List.map_congr_left fun x m => nth_map (k x m)
theorem tms_range (h : r.length = n) : tms r (List.range n) = r := by
  refine nth_ext (by simp [h]) fun i hi => ?_
  have hi' : i < n := by simpa using hi
  rw [nth_tms (by simpa using hi')]
  congr 1
  rw [nth_lt (by simpa using hi')]
  simp
theorem range_tms (h : ∀ x ∈ s, x < n) : tms (List.range n) s = s := by
  unfold tms
  rw [List.map_congr_left (g := id) fun x m => ?_, List.map_id]
  rw [nth_lt (by simpa using h x m)]
  simp
theorem Row.idx (h : Row n r) {v : Nat} (hv : v < n) : r.idxOf v < n ∧ nth r (r.idxOf v) = v := by
  have m := h.mem hv
  have l := List.idxOf_lt_length_iff.mpr m
  exact ⟨h.len ▸ l, by rw [nth_lt l]; exact List.getElem_idxOf l⟩
theorem Row.nth_inv (h : Row n r) {v : Nat} (hv : v < n) : nth (inv r) v = r.idxOf v := by
  unfold inv
  rw [nth_map (by rw [List.length_range, h.len]; exact hv), nth_lt (by rw [List.length_range, h.len]; exact hv)]
  simp
theorem Row.inv (h : Row n r) : Row n (inv r) := by
  refine ⟨by unfold Pw.inv; simp [h.len], ?_, fun x m => ?_⟩
  · unfold Pw.inv
    refine map_nodup List.nodup_range fun x hx y hy e => ?_
    rw [h.len, List.mem_range] at hx hy
    rw [← (h.idx hx).2, ← (h.idx hy).2, e]
  · unfold Pw.inv at m
    obtain ⟨v, hv, rfl⟩ := List.mem_map.mp m
    rw [h.len, List.mem_range] at hv
    exact (h.idx hv).1
theorem Row.tms_inv (h : Row n r) : Pw.tms r (Pw.inv r) = List.range n := by
  refine nth_ext (by rw [tms_len, h.inv.len, List.length_range]) fun i hi => ?_
  rw [tms_len, h.inv.len] at hi
  rw [nth_tms (by rw [h.inv.len]; exact hi), h.nth_inv hi, (h.idx hi).2, nth_lt (by simpa using hi)]
  simp
theorem Row.inv_tms (h : Row n r) : Pw.tms (Pw.inv r) r = List.range n := by
  refine nth_ext (by rw [tms_len, h.len, List.length_range]) fun i hi => ?_
  rw [tms_len, h.len] at hi
  have hv := h.nthlt hi
  rw [nth_tms (by rw [h.len]; exact hi), h.nth_inv hv, nth_lt (xs := List.range n) (by simpa using hi), List.getElem_range]
  exact nth_inj h.nd (by rw [h.len]; exact (h.idx hv).1) (by rw [h.len]; exact hi) (h.idx hv).2
theorem Row.ltl (h : Row n r) (k : Row n s) : ∀ x ∈ r, x < s.length := fun x m => by rw [k.len]; exact h.lt m
theorem Row.cancel (h : Row n r) (k : Row n s) (l : Row n t) : Pw.tms r s = Pw.tms r t ↔ s = t := by
  constructor
  · intro e
    have e2 : Pw.tms (Pw.inv r) (Pw.tms r s) = Pw.tms (Pw.inv r) (Pw.tms r t) := by rw [e]
    rw [← tms_assoc (k.ltl h), ← tms_assoc (l.ltl h), h.inv_tms, range_tms fun x m => k.lt m, range_tms fun x m => l.lt m] at e2
    exact e2
  · rintro rfl; rfl
/-- where a row of one lead is a row of another -/
theorem Row.meet {a b c d : List Nat} (ha : Row n a) (hb : Row n b) (hc : Row n c) (hd : Row n d) : Pw.tms (Pw.inv a) b = Pw.tms d (Pw.inv c) ↔ Pw.tms b c = Pw.tms a d := by
  constructor
  · intro e
    have e2 : Pw.tms (Pw.tms a (Pw.tms (Pw.inv a) b)) c = Pw.tms (Pw.tms a (Pw.tms d (Pw.inv c))) c := by rw [e]
    rw [← tms_assoc (hb.ltl ha.inv), ha.tms_inv, range_tms fun x m => hb.lt m, tms_assoc (hc.ltl (hd.tms hc.inv)), tms_assoc (hc.ltl hc.inv), hc.inv_tms, tms_range hd.len] at e2
    exact e2
  · intro e
    have e2 : Pw.tms (Pw.tms (Pw.inv a) (Pw.tms b c)) (Pw.inv c) = Pw.tms (Pw.tms (Pw.inv a) (Pw.tms a d)) (Pw.inv c) := by rw [e]
    rw [tms_assoc (hc.inv.ltl (hb.tms hc)), tms_assoc (hc.inv.ltl hc), hc.tms_inv, tms_range hb.len, ← tms_assoc (hd.ltl ha), ha.inv_tms, range_tms fun x m => hd.lt m] at e2
    exact e2
end
/-! ### changes -/
def chG : Nat → Nat → Nat → List Nat → List Nat
  | 0, _, _, _ => []
  | f + 1, b, p, c => if b ≤ p then [] else if p ∈ c then p :: chG f b (p + 1) c else (p + 1) :: p :: chG f b (p + 2) c
/-- the row that a change rings from rounds -/
def chR (b : Nat) (c : List Nat) : List Nat := chG 7 b 0 c
/-- the changes on b bells, in order -/
def evB : Nat → List (List Nat)
  | 3 => [[0], [2]]
  | 4 => [[], [0, 1], [0, 3], [2, 3]]
  | 5 => [[0], [0, 1, 2], [0, 1, 4], [0, 3, 4], [2], [2, 3, 4], [4]]
  | 6 => [[], [0, 1], [0, 1, 2, 3], [0, 1, 2, 5], [0, 1, 4, 5], [0, 3], [0, 3, 4, 5], [0, 5], [2, 3], [2, 3, 4, 5], [2, 5], [4, 5]]
  | _ => []
theorem ev_nodup (b : Nat) : (evB b).Nodup := by
  match b with
  | 0 => decide
  | 1 => decide
  | 2 => decide
  | 3 => decide
  | 4 => decide
  | 5 => decide
  | 6 => decide
  | n + 7 => exact List.nodup_nil
theorem ev_bells {b : Nat} {c : List Nat} (h : c ∈ evB b) : b = 3 ∨ b = 4 ∨ b = 5 ∨ b = 6 := by
  match b with
  | 0 => simp [evB] at h
  | 1 => simp [evB] at h
  | 2 => simp [evB] at h
  | 3 => simp
  | 4 => simp
  | 5 => simp
  | 6 => simp
  | n + 7 => simp [evB] at h
instance (n : Nat) (r : List Nat) : Decidable (Row n r) := inferInstanceAs (Decidable (_ ∧ _ ∧ _))
theorem ev_row {b : Nat} {c : List Nat} (h : c ∈ evB b) : Row b (chR b c) := by
  have z : ∀ b ∈ [3, 4, 5, 6], ∀ c ∈ evB b, Row b (chR b c) := by decide +kernel
  exact z b (by rcases ev_bells h with h | h | h | h <;> simp [h]) c h
theorem ev_len {b : Nat} {c : List Nat} (h : c ∈ evB b) : c.length < b := by
  have z : ∀ b ∈ [3, 4, 5, 6], ∀ c ∈ evB b, c.length < b := by decide +kernel
  exact z b (by rcases ev_bells h with h | h | h | h <;> simp [h]) c h
/-! ### methods -/
/-- the last one -/
def lastR (l : List (List Nat)) : List Nat := l.getLastD []
structure Mth where
  b : Nat
  ch : List (List Nat)
  ca : List (List Nat)
  deriving DecidableEq, Inhabited
/-- a change, a row -/
abbrev rE : List Nat → D := tE nI
abbrev mE (m : Mth) : D := .tuple [.str "method", nI m.b, .tuple (m.ch.map rE), .tuple (m.ca.map rE)]
abbrev sE (ms : List Mth) : D := .tuple [.str "splice", .tuple (ms.map mE)]
/-- a method that the program takes -/
structure Mth.Ok (b : Nat) (m : Mth) : Prop where
  bl : m.b = b
  ev : ∀ c ∈ m.ch, c ∈ evB b
  ec : ∀ c ∈ m.ca, c ∈ evB b
  ne : m.ch ≠ []
  ml : m.ch.length ≤ 40
  cl : m.ca.length ≤ 3
  nd : (m.ca ++ [lastR m.ch]).Nodup
/-- the rows of a lead from r -/
def lds (b : Nat) : List Nat → List (List Nat) → List (List Nat)
  | r, [] => [r]
  | r, c :: cs => r :: lds b (tms r (chR b c)) cs
/-- the last of them -/
def lnd (b : Nat) : List Nat → List (List Nat) → List Nat
  | r, [] => r
  | r, c :: cs => lnd b (tms r (chR b c)) cs
def Mth.lead (m : Mth) : List (List Nat) := lds m.b (List.range m.b) m.ch.dropLast
/-- plain, then the calls -/
def Mth.ends (m : Mth) : List (List Nat) := lastR m.ch :: m.ca
def Mth.turn (m : Mth) (c : List Nat) : List Nat := tms (lnd m.b (List.range m.b) m.ch.dropLast) (chR m.b c)
def Mth.turns (m : Mth) : List (List Nat) := m.ends.map m.turn
section
variable {b : Nat} {r h : List Nat} {cs ds : List (List Nat)} {m : Mth}
theorem lds_ne : lds b r cs ≠ [] := by cases cs <;> simp [lds]
theorem lds_len : (lds b r cs).length = cs.length + 1 := by
  induction cs generalizing r with
  | nil => rfl
  | cons c cs ih => simp [lds, ih]
theorem lds_last : (lds b r cs).getLast lds_ne = lnd b r cs := by
  induction cs generalizing r with
  | nil => rfl
  | cons c cs ih =>
    show (r :: lds b (tms r (chR b c)) cs).getLast _ = _
    rw [List.getLast_cons lds_ne, ih]
    rfl
theorem lds_app : lds b r (cs ++ ds) = (lds b r cs).dropLast ++ lds b (lnd b r cs) ds := by
  induction cs generalizing r with
  | nil => rfl
  | cons c cs ih =>
    show r :: lds b (tms r (chR b c)) (cs ++ ds) = (r :: lds b (tms r (chR b c)) cs).dropLast ++ _
    rw [ih, List.dropLast_cons_of_ne_nil lds_ne]
    rfl
theorem lnd_app : lnd b r (cs ++ ds) = lnd b (lnd b r cs) ds := by
  induction cs generalizing r with
  | nil => rfl
  | cons c cs ih => exact ih
theorem lds_snoc {c : List Nat} : lds b r (cs ++ [c]) = lds b r cs ++ [tms (lnd b r cs) (chR b c)] := by
  induction cs generalizing r with
  | nil => rfl
  | cons d cs ih =>
    show r :: lds b (tms r (chR b d)) (cs ++ [c]) = (r :: lds b (tms r (chR b d)) cs) ++ _
    rw [ih]
    rfl
theorem lnd_snoc {c : List Nat} : lnd b r (cs ++ [c]) = tms (lnd b r cs) (chR b c) := by rw [lnd_app]; rfl
theorem lnd_row (hr : Row b r) (hc : ∀ c ∈ cs, c ∈ evB b) : Row b (lnd b r cs) := by
  induction cs generalizing r with
  | nil => exact hr
  | cons c cs ih => exact ih (hr.tms (ev_row (hc c List.mem_cons_self))) fun c m => hc c (List.mem_cons_of_mem _ m)
theorem lds_row (hr : Row b r) (hc : ∀ c ∈ cs, c ∈ evB b) : ∀ x ∈ lds b r cs, Row b x := by
  induction cs generalizing r with
  | nil => intro x m; rw [List.mem_singleton.mp m]; exact hr
  | cons c cs ih =>
    intro x m
    rcases List.mem_cons.mp m with rfl | m
    · exact hr
    · exact ih (hr.tms (ev_row (hc c List.mem_cons_self))) (fun c m => hc c (List.mem_cons_of_mem _ m)) x m
theorem lds_tms (hh : Row b h) (hr : Row b r) (hc : ∀ c ∈ cs, c ∈ evB b) : lds b (tms h r) cs = (lds b r cs).map (tms h) := by
  induction cs generalizing r with
  | nil => rfl
  | cons c cs ih =>
    have k := ev_row (hc c List.mem_cons_self)
    show tms h r :: lds b (tms (tms h r) (chR b c)) cs = tms h r :: (lds b (tms r (chR b c)) cs).map (tms h)
    rw [tms_assoc (k.ltl hr), ih (hr.tms k) fun c m => hc c (List.mem_cons_of_mem _ m)]
theorem lnd_tms (hh : Row b h) (hr : Row b r) (hc : ∀ c ∈ cs, c ∈ evB b) : lnd b (tms h r) cs = tms h (lnd b r cs) := by
  induction cs generalizing r with
  | nil => rfl
  | cons c cs ih =>
    have k := ev_row (hc c List.mem_cons_self)
    show lnd b (tms (tms h r) (chR b c)) cs = tms h (lnd b (tms r (chR b c)) cs)
    rw [tms_assoc (k.ltl hr), ih (hr.tms k) fun c m => hc c (List.mem_cons_of_mem _ m)]
theorem Mth.Ok.drop (k : m.Ok b) : ∀ c ∈ m.ch.dropLast, c ∈ evB b := fun c h => k.ev c (List.dropLast_subset _ h)
theorem Mth.Ok.last (k : m.Ok b) : lastR m.ch ∈ m.ch := by
  obtain ⟨c, h⟩ : ∃ c, m.ch.getLast? = some c := by
    cases e : m.ch.getLast? with
    | none => exact absurd (List.getLast?_eq_none_iff.mp e) k.ne
    | some c => exact ⟨c, rfl⟩
  unfold lastR
  rw [List.getLastD_eq_getLast?, h]
  exact List.mem_of_getLast? h
theorem Mth.Ok.ends (k : m.Ok b) : ∀ c ∈ m.ends, c ∈ evB b := fun c h => by
  rcases List.mem_cons.mp h with rfl | h
  · exact k.ev _ k.last
  · exact k.ec c h
theorem Mth.Ok.ch_eq (k : m.Ok b) : m.ch = m.ch.dropLast ++ [lastR m.ch] := by
  have z := List.dropLast_concat_getLast k.ne
  unfold lastR
  rw [List.getLastD_eq_getLast?, List.getLast?_eq_some_getLast k.ne]
  exact z.symm
theorem Mth.Ok.lead (k : m.Ok b) : ∀ x ∈ m.lead, Row b x := by
  unfold Mth.lead
  rw [k.bl]
  exact lds_row (row_range b) k.drop
theorem Mth.Ok.endr (k : m.Ok b) : Row b (lnd m.b (List.range m.b) m.ch.dropLast) := by
  rw [k.bl]
  exact lnd_row (row_range b) k.drop
theorem Mth.Ok.turn (k : m.Ok b) {c : List Nat} (h : c ∈ m.ends) : Row b (m.turn c) := by
  unfold Mth.turn
  have e := k.endr
  rw [k.bl] at e ⊢
  exact e.tms (ev_row (k.ends c h))
theorem Mth.Ok.turns (k : m.Ok b) : ∀ x ∈ m.turns, Row b x := fun x h => by
  obtain ⟨c, hc, rfl⟩ := List.mem_map.mp h
  exact k.turn hc
theorem Mth.Ok.bs (k : m.Ok b) : b = 3 ∨ b = 4 ∨ b = 5 ∨ b = 6 := ev_bells (k.ev _ k.last)
theorem Mth.Ok.le6 (k : m.Ok b) : b ≤ 6 := by
  have := k.bs
  omega
@[simp] theorem Mth.ends_len : m.ends.length = m.ca.length + 1 := rfl
@[simp] theorem Mth.turns_len : m.turns.length = m.ca.length + 1 := by unfold Mth.turns; simp
theorem Mth.Ok.lead_len (k : m.Ok b) : m.lead.length = m.ch.length := by
  unfold Mth.lead
  have := List.length_pos_iff.mpr k.ne
  rw [lds_len, List.length_dropLast]
  omega
end
end Pw

set_option Elab.async false
set_option linter.all false
set_option maxRecDepth 100000
set_option maxHeartbeats 2000000
/-! Px: sets, sortings and dicts of rows. -/
namespace Pw
open PySem PySem.Spec PyProof.Rows L2

abbrev iN (k : Nat) : Int := (k : Int)
/-- a row of numbers as the kit keys it -/
abbrev iE (r : List Nat) : List Int := r.map iN
theorem rE_tupI (r : List Nat) : rE r = tupI (iE r) := by
  show PyData.tuple (r.map nI) = .tuple ((r.map iN).map PyData.int)
  rw [List.map_map]
  rfl
theorem iE_inj {r s : List Nat} (h : iE r = iE s) : r = s := by
  have z : ∀ {l m : List Nat}, l.map iN = m.map iN → l = m := by
    intro l
    induction l with
    | nil => intro m e; cases m with | nil => rfl | cons => cases e
    | cons a l ih =>
      intro m e
      cases m with
      | nil => cases e
      | cons b m =>
        rw [List.map_cons, List.map_cons, List.cons.injEq] at e
        rw [ih e.2, Int.ofNat_inj.mp e.1]
  exact z h
theorem map_rE (l : List (List Nat)) : l.map rE = (l.map iE).map tupI := by
  rw [List.map_map]
  exact List.map_congr_left fun r _ => rE_tupI r
theorem map_nI (l : List Nat) : l.map nI = (l.map iN).map PyData.int := by
  rw [List.map_map]
  rfl
theorem ddG_map {α β : Type} [DecidableEq α] [DecidableEq β] {f : α → β} (hf : ∀ x y, f x = f y → x = y) (l : List α) : ddG (l.map f) = (ddG l).map f := by
  induction l with
  | nil => rfl
  | cons x l ih =>
    rw [List.map_cons]
    unfold ddG
    have z : f x ∈ l.map f ↔ x ∈ l := ⟨fun m => by obtain ⟨y, hy, e⟩ := List.mem_map.mp m; exact hf y x e ▸ hy, fun m => List.mem_map_of_mem m⟩
    by_cases c : x ∈ l
    · rw [if_pos c, if_pos (z.mpr c), ih]
    · rw [if_neg c, if_neg (fun m => c (z.mp m)), ih, List.map_cons]
theorem asInts_ints (ns : List Int) : asInts (ns.map PyData.int) = some ns := by
  induction ns with
  | nil => rfl
  | cons n ns ih =>
    show (asInts (ns.map PyData.int)).map (fun l => n :: l) = _
    rw [ih] <;> rfl
theorem tupIs_all (ks : List (List Int)) : tupIs (ks.map tupI) = some ks := by
  induction ks with
  | nil => rfl
  | cons k ks ih =>
    show (match asInts (k.map PyData.int), tupIs (ks.map tupI) with
    | some k, some ks => some (k :: ks)
    | _, _ => none) = _
    rw [ih, asInts_ints]
theorem setD_rows {x : D} {l : List (List Nat)} (h : seqD x = some (l.map rE)) (hl : l.length < 64) : setD x = some ((ddG l).map rE) := by
  unfold setD
  rw [h]
  cases l with
  | nil => rfl
  | cons r l =>
    have e : asInts ((r :: l).map rE) = none := rfl
    simp only [e]
    rw [map_rE, tupIs_all]
    simp only
    rw [if_pos (by simpa using hl), ddG_map (fun x y => iE_inj), map_rE]
theorem setD_nums {x : D} {l : List Nat} (h : seqD x = some (l.map nI)) (hl : l.length < 1000) : setD x = some ((ddG l).map nI) := by
  unfold setD
  rw [h]
  simp only
  rw [map_nI, asInts_ints]
  simp only
  rw [if_pos (by simpa using hl), ddG_map (fun x y => Int.ofNat_inj.mp), map_nI]
theorem lenSet_rows {x : D} {l : List (List Nat)} (h : seqD x = some (l.map rE)) (hl : l.length < 64) : lenSetA x = some (.d (nI (ddG l).length)) := by
  unfold lenSetA
  rw [setD_rows h hl]
  show some (R.d (.int (((ddG l).map rE).length : Nat))) = _
  rw [List.length_map] <;> rfl
theorem lenSet_nums {x : D} {l : List Nat} (h : seqD x = some (l.map nI)) (hl : l.length < 1000) : lenSetA x = some (.d (nI (ddG l).length)) := by
  unfold lenSetA
  rw [setD_nums h hl]
  show some (R.d (.int (((ddG l).map nI).length : Nat))) = _
  rw [List.length_map] <;> rfl
/-! ### sortings -/
theorem apart_rows (l : List (List Nat)) : Apart (l.map rE) := by rw [map_rE]; exact apart_tupI _
theorem apart_nums (l : List Nat) : Apart (l.map nI) := by rw [map_nI]; exact apart_int _
/-- rows in order -/
def srt (l : List (List Nat)) : List (List Nat) := l.mergeSort fun a b => leD (rE a) (rE b)
theorem srt_map (l : List (List Nat)) : (l.map rE).mergeSort leD = (srt l).map rE := by
  unfold srt
  exact (List.map_mergeSort (r := fun a b => leD (rE a) (rE b)) (s := leD) (f := rE) fun a _ b _ => rfl).symm
theorem srt_perm (l : List (List Nat)) : (srt l).Perm l := List.mergeSort_perm ..
theorem rE_inj {r s : List Nat} (h : rE r = rE s) : r = s := by
  rw [rE_tupI, rE_tupI] at h
  have h' : PyData.tuple ((iE r).map PyData.int) = .tuple ((iE s).map PyData.int) := h
  rw [PyData.tuple.injEq] at h'
  have z := congrArg asInts h'
  rw [asInts_ints, asInts_ints] at z
  exact iE_inj (Option.some.inj z)
theorem map_inj {α β : Type} {f : α → β} (hf : ∀ x y, f x = f y → x = y) : ∀ {l m : List α}, l.map f = m.map f → l = m
  | [], [], _ => rfl
  | a :: l, b :: m, e => by
    rw [List.map_cons, List.map_cons, List.cons.injEq] at e
    rw [hf _ _ e.1, map_inj hf e.2]
theorem srt_eq {l m : List (List Nat)} : srt l = srt m ↔ l.Perm m := by
  constructor
  · intro e
    exact (srt_perm l).symm.trans (e ▸ srt_perm m)
  · intro p
    have z := sort_perm (l := l.map rE) (m := m.map rE) (apart_rows l) (p.map rE)
    rw [srt_map, srt_map] at z
    exact map_inj (fun x y => rE_inj) z
theorem sortOk_rows (l : List (List Nat)) : sortOk (l.map rE) = true := by rw [map_rE]; exact sortOk_tupI _
@[simp] theorem pSortA_rows {l : List (List Nat)} : pSortA [.list (l.map rE)] = some (.ol ((srt l).map rE)) := by
  have e : pSorted [.list (l.map rE)] = some (.ol ((srt l).map rE)) := by
    show (if sortOk (l.map rE) = true then some (R.ol ((l.map rE).mergeSort leD)) else none) = _
    rw [if_pos (sortOk_rows l), srt_map]
  unfold pSortA
  rw [e]
theorem sortSet_rows {x : D} {l m : List (List Nat)} (h : seqD x = some (l.map rE)) (hl : l.length < 64) (p : (ddG l).Perm m) (hs : m.Pairwise fun a b => iE a ≤ iE b) :
    sortSet x = some (.ol (m.map rE)) := by
  unfold sortSet
  rw [setD_rows h hl]
  show some (R.ol (((ddG l).map rE).mergeSort leD)) = _
  rw [sort_eq (m := m.map rE) (apart_rows m) (p.symm.map rE)]
  rw [List.pairwise_map]
  exact hs.imp fun {a b} e => by rw [rE_tupI, rE_tupI, leD_tupI]; exact decide_eq_true e
theorem sortSet_nums {x : D} {l : List Nat} (h : seqD x = some (l.map nI)) (hl : l.length < 1000) : ∃ m : List Nat, (ddG l).Perm m ∧ sortSet x = some (.ol (m.map nI)) := by
  refine ⟨(ddG l).mergeSort fun a b => leD (nI a) (nI b), (List.mergeSort_perm ..).symm, ?_⟩
  unfold sortSet
  rw [setD_nums h hl]
  show some (R.ol (((ddG l).map nI).mergeSort leD)) = _
  rw [← List.map_mergeSort (r := fun a b => leD (nI a) (nI b)) (s := leD) (f := nI) fun a _ b _ => rfl]
/-! ### dicts with rows as keys -/
abbrev kN (k : Nat) : Key := .inl (k : Int)
abbrev kR (r : List Nat) : List Key := r.map kN
theorem keyD_kR (r : List Nat) : keyD (kR r) = rE r := by
  show PyData.tuple ((r.map kN).map kD) = .tuple (r.map nI)
  rw [List.map_map]
  rfl
theorem kR_inj {r s : List Nat} (h : kR r = kR s) : r = s := by
  have := congrArg keyD h
  rw [keyD_kR, keyD_kR] at this
  exact rE_inj this
theorem toKeys_rE (r : List Nat) : toKeys (rE r) = some (kR r) := by rw [← keyD_kR, toKeys_keyD]
/-- what an own dict with rows as keys holds -/
abbrev oR (L : List (List Nat × D)) : R := .oT (L.map fun p => (kR p.1, p.2))
abbrev dR (L : List (List Nat × D)) : D := .dict (L.map fun p => (rE p.1, p.2))
theorem fz_oR (L : List (List Nat × D)) : ((L.map fun p => (kR p.1, p.2)).map fun p => (keyD p.1, p.2)) = L.map fun p => (rE p.1, p.2) := by
  rw [List.map_map]
  exact List.map_congr_left fun p _ => by show (keyD (kR p.1), p.2) = _; rw [keyD_kR]
theorem putD_map {α β : Type} [DecidableEq α] [DecidableEq β] {f : α → β} (hf : ∀ x y, f x = f y → x = y) (L : List (α × D)) (k : α) (v : D) :
    putD (L.map fun p => (f p.1, p.2)) (f k) v = (putD L k v).map fun p => (f p.1, p.2) := by
  have e : ∀ p : α × D, (f p.1 = f k) ↔ (p.1 = k) := fun p => ⟨hf _ _, fun h => by rw [h]⟩
  unfold putD
  have a : ((L.map fun p => (f p.1, p.2)).any fun kv => decide (kv.1 = f k)) = L.any fun kv => decide (kv.1 = k) := by
    rw [List.any_map]
    congr 1
    funext p
    exact decide_eq_decide.mpr (e p)
  rw [a]
  split
  · rw [List.map_map, List.map_map]
    refine List.map_congr_left fun p _ => ?_
    show (if f p.1 = f k then (f p.1, v) else (f p.1, p.2)) = _
    by_cases c : p.1 = k
    · rw [if_pos ((e p).mpr c)]; show _ = (fun q : α × D => (f q.1, q.2)) (if p.1 = k then _ else _); rw [if_pos c]
    · rw [if_neg fun h => c ((e p).mp h)]; show _ = (fun q : α × D => (f q.1, q.2)) (if p.1 = k then _ else _); rw [if_neg c]
  · simp
theorem valD_map {α β : Type} [DecidableEq α] [DecidableEq β] {f : α → β} (hf : ∀ x y, f x = f y → x = y) (L : List (α × D)) (k : α) : valD (L.map fun p => (f p.1, p.2)) (f k) = valD L k := by
  have e : ∀ p : α × D, (f p.1 = f k) ↔ (p.1 = k) := fun p => ⟨hf _ _, fun h => by rw [h]⟩
  unfold valD
  rw [List.find?_map, Option.map_map]
  have z : ((fun kv : β × D => decide (kv.1 = f k)) ∘ fun p : α × D => (f p.1, p.2)) = fun kv : α × D => decide (kv.1 = k) := by
    funext p
    exact decide_eq_decide.mpr (e p)
  rw [z]
  rfl
theorem putD_len {α : Type} [DecidableEq α] (L : List (α × D)) (k : α) (v : D) : (putD L k v).length ≤ L.length + 1 := by
  unfold putD
  split
  · rw [List.length_map]; omega
  · simp
theorem valD_put {α : Type} [DecidableEq α] (L : List (α × D)) (k k' : α) (v : D) : valD (putD L k v) k' = if k' = k then some v else valD L k' := by
  unfold putD
  split
  · rename_i h
    unfold valD
    rw [List.find?_map, Option.map_map]
    have z : ((fun kv : α × D => decide (kv.1 = k')) ∘ fun kv : α × D => if kv.1 = k then (kv.1, v) else kv) = fun kv => decide (kv.1 = k') := by
      funext p
      show decide ((if p.1 = k then (p.1, v) else p).1 = k') = _
      split <;> rfl
    rw [z]
    by_cases c : k' = k
    · subst c
      rw [if_pos rfl]
      cases f : L.find? fun kv => decide (kv.1 = k') with
      | none =>
        rw [List.find?_eq_none] at f
        obtain ⟨p, hp, e⟩ := List.any_eq_true.mp h
        exact absurd e (f p hp)
      | some p =>
        have e := List.find?_some f
        have e' : p.1 = k' := by simpa using e
        show some (if p.1 = k' then (p.1, v) else p).2 = _
        rw [if_pos e']
    · rw [if_neg c]
      cases f : L.find? fun kv => decide (kv.1 = k') with
      | none => rfl
      | some p =>
        have e := List.find?_some f
        have e' : p.1 = k' := by simpa using e
        show some (if p.1 = k then (p.1, v) else p).2 = _
        rw [if_neg (e' ▸ c)] <;> rfl
  · rename_i h
    unfold valD
    rw [List.find?_append]
    by_cases c : k' = k
    · subst c
      rw [if_pos rfl]
      have f : L.find? (fun kv => decide (kv.1 = k')) = none := by
        rw [List.find?_eq_none]
        intro p hp e
        exact h (List.any_eq_true.mpr ⟨p, hp, e⟩)
      rw [f]
      simp
    · rw [if_neg c]
      have f : [(k, v)].find? (fun kv => decide (kv.1 = k')) = none := by
        rw [List.find?_eq_none]
        intro p hp
        rw [List.mem_singleton.mp hp]
        simpa using fun e => c e.symm
      rw [f, Option.or_none]
@[simp] theorem valD_nil {α : Type} [DecidableEq α] (k : α) : valD [] k = none := rfl
theorem put_oR {L : List (List Nat × D)} {r : List Nat} {x : D} (h : L.length < 16777216) : putAt (rE r) x (oR L) = some (oR (putD L r x)) := by
  show (if (L.map fun p => (kR p.1, p.2)).length < 16777216 then (toKeys (rE r)).map fun kk => R.oT (putD (L.map fun p => (kR p.1, p.2)) kk x) else none) = _
  rw [List.length_map, if_pos h, toKeys_rE]
  show some (R.oT (putD (L.map fun p : List Nat × D => (kR p.1, p.2)) (kR r) x)) = _
  rw [putD_map fun x y => kR_inj]
theorem look_dR (L : List (List Nat × D)) (r : List Nat) : lookD (L.map fun p : List Nat × D => (rE p.1, p.2)) (rE r) = some (valD L r) := by
  rw [← fz_oR]
  show (match toKeys (rE r) with
    | some k => match dTof ((L.map fun p : List Nat × D => (kR p.1, p.2)).map fun p : List Key × D => (keyD p.1, p.2)) with
      | some m => some (valD m k)
      | none => none
    | none => none) = _
  rw [toKeys_rE, dTof_map]
  simp only
  rw [valD_map fun x y => kR_inj]
theorem pIx_dR {L : List (List Nat × D)} {r : List Nat} {x : D} (h : valD L r = some x) : pIx (dR L) (rE r) = some (.d x) := by
  show (match lookD (L.map fun p : List Nat × D => (rE p.1, p.2)) (rE r) with
    | some (some d) => some (R.d d)
    | _ => none) = _
  rw [look_dR, h]
theorem pIn_dR {L : List (List Nat × D)} {r : List Nat} : pIn (rE r) (dR L) = some (.d (.bool (valD L r).isSome)) := by
  show ((lookD (L.map fun p : List Nat × D => (rE p.1, p.2)) (rE r)).map (·.isSome)).map bR = _
  rw [look_dR] <;> rfl
/-- dict([(row, 0) for ..]) -/
def putR (L : List (List Nat × D)) (r : List Nat) : List (List Nat × D) := putD L r (nI 0)
theorem pairs_rows (l : List (List Nat)) : pairsD (l.map fun r => PyData.tuple [rE r, nI 0]) = some (l.map fun r => (kR r, nI 0)) := by
  induction l with
  | nil => rfl
  | cons r l ih =>
    show (match toKeys (rE r), pairsD (l.map fun r => PyData.tuple [rE r, nI 0]) with
    | some ks, some ps => some ((ks, nI 0) :: ps)
    | _, _ => none) = _
    rw [toKeys_rE, ih]
    rfl
theorem valD_some {α : Type} [DecidableEq α] {L : List (α × D)} {k : α} : (valD L k).isSome = decide (k ∈ L.map (·.1)) := by
  unfold valD
  rw [Option.isSome_map, Bool.eq_iff_iff, List.find?_isSome, decide_eq_true_eq, List.mem_map]
  simp
theorem putD_keys {α : Type} [DecidableEq α] (L : List (α × D)) (k : α) (v : D) : (putD L k v).map (·.1) = if k ∈ L.map (·.1) then L.map (·.1) else L.map (·.1) ++ [k] := by
  unfold putD
  by_cases c : (L.any fun kv => decide (kv.1 = k)) = true
  · have m : k ∈ L.map (·.1) := by
      obtain ⟨p, hp, e⟩ := List.any_eq_true.mp c
      exact List.mem_map.mpr ⟨p, hp, by simpa using e⟩
    rw [if_pos c, if_pos m, List.map_map]
    refine List.map_congr_left fun p _ => ?_
    show (if p.1 = k then (p.1, v) else p).1 = p.1
    split <;> rfl
  · have m : ¬ k ∈ L.map (·.1) := fun m => by
      obtain ⟨p, hp, e⟩ := List.mem_map.mp m
      exact c (List.any_eq_true.mpr ⟨p, hp, by simpa using e⟩)
    rw [if_neg c, if_neg m, List.map_append]
    rfl
end Pw

set_option Elab.async false
set_option linter.all false
set_option maxRecDepth 100000
set_option maxHeartbeats 4000000
/-! Px: tuple * 1 is the tuple. -/
namespace Pw
open PySem PySem.Spec PyProof.Rows L2

theorem tuple_mul1W (l : Addr) (items : Array Value) (n : Nat) (dd : Option Addr) (sl : Array (Option Value)) (u : Tok) :
    Meets (Builtin.«tuple.__mul__» ⟨[.ref l, .int 1 u], []⟩) (fun _ R s => s.heap.get? l = some { cls := .type "tuple", dict := dd, data := .seq items n, slots := sl } ∧
      R (.ok (.ret (Value.ref l))) s) :=
  .of_wp fun prog w A R s h => by
    obtain ⟨hp, g, d, tk, os⟩ := s
    obtain ⟨hl, h⟩ := h
    have f1 := AutoSeq1.idx_int
    have c1 : (items.isEmpty || (1 : Int) == 1) = true := by simp
    wp_walk using wpAny_loadPart' hl
    repeat (first
      | (refine wpAny_ite_false (decide_eq_false (by decide)) ?_; wp_walk using wpAny_loadPart' hl)
      | (refine wpAny_ite_true (decide_eq_true c1) ?_; wp_walk using wpAny_loadPart' hl))
    exact ⟨_, rfl, h⟩
def rOneT (K : PySem.W.Frag) : R2 := fun x y H Q => ∃ l xs, x = .ref l ∧ y = .int 1 ∧ SqT K H l xs ∧ Q (.ref l) H
section
variable {X : Cx}
theorem op_oneT : OpR X (binaryOp .Mult) (rOneT X.K) := by
  intro pins s σ H x y v u Q I rx ry h
  obtain ⟨l, xs, rfl, rfl, hT, q⟩ := h
  cases rx
  obtain ⟨t, rfl⟩ := ry
  obtain ⟨its, r, ⟨⟨cls, dd, data, sl⟩, ho, hc, n, hd⟩, hs⟩ := I.tuple hT
  simp only at hc hd
  subst hc hd
  refine wpAny_binaryOp_repeat_ref (T := "tuple") (U := "int") (by decide) ⟨_, ho, rfl⟩ (fun s' => typeIs_int s' 1 t) noFill_tuple_mul F.fills_int_mul F.slot_int_rmul repeat_tuple F.slot_int_index.lookup
    (call_meets F.slot_int_rmul (typeIs_int s 1 t) F.entry_int_rmul (F.args_int_rmul_2 _ _) (int_rmul_tuple 1 t l its.toArray n dd sl)
      ⟨ho, rfl, ⟨_, ho, rfl⟩, call_meets F.slot_tuple_mul ⟨_, ho, rfl⟩ F.entry_tuple_mul (F.args_tuple_mul_2 _ _) (tuple_mul1W l its.toArray n dd sl t) ⟨ho, ?_⟩⟩)
  exact ⟨.ref l, _, I, rfl, q⟩
end
def pMulT (x y : D) : Option R := match pMul x y with
  | some r => some r
  | none => match x, y with
    | .tuple xs, .int 1 => some (.d (.tuple xs))
    | _, _ => none
theorem o_mulT {X : Cx} : OpR X (binaryOp .Mult) (fun x y H Q => rMul X.K x y H Q ∨ rOneT X.K x y H Q) := OpR.or o_mul op_oneT
theorem g_mulT {K : PySem.W.Frag} : Op2 K false (fun x y H Q => rMul K x y H Q ∨ rOneT K x y H Q) pMulT := by
  intro H v1 v2 x y res Q h1 h2 e q
  unfold pMulT at e
  cases h : pMul x y with
  | some r =>
    rw [h] at e
    cases e
    exact .inl (g_mul H v1 v2 x y _ Q h1 h2 h q)
  | none =>
    rw [h] at e
    simp only at e
    split at e
    · cases e
      obtain ⟨a, vs, rfl, ha, ra⟩ := h1
      cases h2
      exact .inr ⟨a, vs, rfl, rfl, .inl (.inl ha), q _ _ (Post.dat (RD.tup ha ra))⟩
    · cases e
theorem pMulT_2 {xs : List D} {n : Nat} (h : 2 ≤ n) (h2 : n ≤ 1000) (h3 : xs.length ≤ 1000) (h4 : xs ≠ []) : pMulT (.tuple xs) (nI n) = some (.d (.tuple (List.replicate n xs).flatten)) := by
  have e : pMul (.tuple xs) (nI n) = some (.d (.tuple (List.replicate n xs).flatten)) := by
    show (if decide ((2 : Int) ≤ (n : Int)) && decide ((n : Int) ≤ 1000) && decide (xs.length ≤ 1000) && !xs.isEmpty then some (R.d (.tuple (List.replicate (n : Int).toNat xs).flatten)) else none) = _
    have c : (decide ((2 : Int) ≤ (n : Int)) && decide ((n : Int) ≤ 1000) && decide (xs.length ≤ 1000) && !xs.isEmpty) = true := by
      simp only [Bool.and_eq_true, decide_eq_true_eq]
      refine ⟨⟨⟨by omega, by omega⟩, h3⟩, ?_⟩
      cases xs with
      | nil => exact absurd rfl h4
      | cons => rfl
    rw [if_pos c, Int.toNat_natCast]
  unfold pMulT
  rw [e]
@[simp] theorem pMulT_1 {xs : List D} : pMulT (.tuple xs) (nI 1) = some (.d (.tuple xs)) := by
  have e : pMul (.tuple xs) (.int 1) = none := by
    unfold pMul
    exact if_neg (by simp)
  have z : pMulT (.tuple xs) (.int 1) = some (.d (.tuple xs)) := by
    unfold pMulT
    rw [e] <;> rfl
  exact z
@[simp] theorem pMul_list {xs : List D} {n : Nat} (h : xs.length * n ≤ 16777216) (h2 : n ≤ 16777216) : pMul (.list xs) (nI n) = some (.ol (List.replicate n xs).flatten) := by
  have c : (decide (-(2 ^ 63) ≤ (n : Int)) && decide ((n : Int) < 2 ^ 63) && decide (xs.length * (n : Int).toNat ≤ 16777216)) = true := by
    simp only [Bool.and_eq_true, decide_eq_true_eq]
    exact ⟨⟨by omega, by omega⟩, by rw [Int.toNat_natCast]; exact h⟩
  have z : pMul (.list xs) (.int (n : Int)) = some (.ol (List.replicate n xs).flatten) := by
    unfold pMul
    simp only
    rw [if_pos c, Int.toNat_natCast]
  exact z
/-! ### slots that hold nothing or data -/
def sD (o : Option D) : Option R := o.map R.d
@[simp] theorem notPl_sD {o : Option D} : notPl (some (sD o)) = true := by cases o <;> rfl
@[simp] theorem sD_some {x : D} : sD (some x) = some (R.d x) := rfl
@[simp] theorem sD_none : sD none = none := rfl
/-! ### cuts -/
@[simp high] theorem cut_mapS {α β : Type} {l : List α} {f : α → β} {lo hi : Option Int} : cutL (l.map f) lo hi = (cutL l lo hi).map f := cut_map
section
variable {α : Type} {l : List α} {n : Nat}
theorem sIx_m1 {d : Nat} : HT.sIx n d (some (-1)) = n - 1 := by
  unfold HT.sIx
  simp only
  rw [if_pos (by decide)]
  omega
@[simp] theorem cut_dl : cutL l none (some (-1)) = l.dropLast := by
  unfold cutL
  rw [HT.sIx_none, sIx_m1, List.drop_zero, Nat.sub_zero, List.dropLast_eq_take]
@[simp] theorem cut_ls : cutL l (some (-1)) none = l.drop (l.length - 1) := by
  unfold cutL
  rw [HT.sIx_none, sIx_m1]
  exact List.take_of_length_le (by simp)
@[simp] theorem cut_tk : cutL l none (some (n : Int)) = l.take n := by
  unfold cutL
  rw [HT.sIx_none, HT.sIx_nat, List.drop_zero, Nat.sub_zero]
  by_cases h : n ≤ l.length
  · rw [Nat.min_eq_left h]
  · rw [Nat.min_eq_right (by omega), List.take_of_length_le (Nat.le_refl _), List.take_of_length_le (by omega)]
@[simp] theorem cut_dr : cutL l (some (n : Int)) none = l.drop n := by
  unfold cutL
  rw [HT.sIx_none, HT.sIx_nat]
  by_cases h : n ≤ l.length
  · rw [Nat.min_eq_left h]
    exact List.take_of_length_le (by simp)
  · rw [Nat.min_eq_right (by omega), List.drop_eq_nil_of_le (Nat.le_refl _), List.drop_eq_nil_of_le (by omega), List.take_nil]
end
@[simp] theorem cut_dr1 {α : Type} {l : List α} {n : Nat} : cutL l (some ((n : Int) + 1)) none = l.drop (n + 1) := cut_dr (n := n + 1)
@[simp] theorem cut_tk1 {α : Type} {l : List α} {n : Nat} : cutL l none (some ((n : Int) + 1)) = l.take (n + 1) := cut_tk (n := n + 1)
theorem Mth.Ok.last_cut {b : Nat} {m : Mth} (k : m.Ok b) : m.ch.drop (m.ch.length - 1) = [lastR m.ch] := by
  have z := k.ch_eq
  have e : m.ch.length - 1 = m.ch.dropLast.length := by simp
  rw [e]
  conv => lhs; arg 2; rw [z]
  rw [List.drop_left]
theorem map_snoc {α β : Type} {f : α → β} {l : List α} {a : α} : l.map f ++ [f a] = (l ++ [a]).map f := by simp
/-! ### all, any -/
@[simp] theorem pAll_m {bs : List Bool} : pAll [.list (bs.map PyData.bool)] = some (.d (.bool (bs.all id))) := pAll_map id bs
@[simp] theorem pAny_m {bs : List Bool} : pAny [.list (bs.map PyData.bool)] = some (.d (.bool (bs.any id))) := pAny_b (f := id) (l := bs)
/-! ### sets of rows, as simp wants them -/
@[simp] theorem lenSet_rl {l : List (List Nat)} (hl : l.length < 64) : lenSetA (.list (l.map rE)) = some (.d (nI (ddG l).length)) := lenSet_rows rfl hl
@[simp] theorem lenSet_rt {l : List (List Nat)} (hl : l.length < 64) : lenSetA (.tuple (l.map rE)) = some (.d (nI (ddG l).length)) := lenSet_rows rfl hl
@[simp] theorem lenSet_nl {l : List Nat} (hl : l.length < 1000) : lenSetA (.list (l.map nI)) = some (.d (nI (ddG l).length)) := lenSet_nums rfl hl
@[simp] theorem lenSet_nt {l : List Nat} (hl : l.length < 1000) : lenSetA (.tuple (l.map nI)) = some (.d (nI (ddG l).length)) := lenSet_nums rfl hl
/-! ### the last item -/
theorem pIx_last {α : Type} {f : α → D} {l : List α} {a : α} (h : l.getLast? = some a) : pIx (.list (l.map f)) (.int (-1)) = some (.d (f a)) := by
  have hn : l.map f ≠ [] := fun e => by rw [List.map_eq_nil_iff.mp e] at h; cases h
  rw [pIx_ll hn]
  congr 2
  have z : (l.map f).getLast? = some (f a) := by rw [List.getLast?_map, h] <;> rfl
  rw [List.getLast?_eq_some_getLast hn] at z
  exact Option.some.inj z
theorem lds_last? {b : Nat} {r : List Nat} {cs : List (List Nat)} : (lds b r cs).getLast? = some (lnd b r cs) := by
  rw [List.getLast?_eq_some_getLast lds_ne, lds_last]
/-! ### heads of a spliced touch -/
def turnAt (ms : List Mth) (p : Nat × Nat) : List Nat := nth (nth ms p.1).turns p.2
def hds (ms : List Mth) : List Nat → List (Nat × Nat) → List (List Nat)
  | h, [] => [h]
  | h, p :: t => h :: hds ms (tms h (turnAt ms p)) t
def hnd (ms : List Mth) : List Nat → List (Nat × Nat) → List Nat
  | h, [] => h
  | h, p :: t => hnd ms (tms h (turnAt ms p)) t
/-- a lead: the method's number, the call's -/
def LeadOk (ms : List Mth) (p : Nat × Nat) : Prop := p.1 < ms.length ∧ p.2 ≤ (nth ms p.1).ca.length
abbrev tcE : Nat × Nat → D := pE nI nI
section
variable {ms : List Mth} {h : List Nat} {t : List (Nat × Nat)} {p : Nat × Nat} {b : Nat}
theorem hds_snoc : hds ms h (t ++ [p]) = hds ms h t ++ [tms (hnd ms h t) (turnAt ms p)] := by
  induction t generalizing h with
  | nil => rfl
  | cons q t ih =>
    show h :: hds ms (tms h (turnAt ms q)) (t ++ [p]) = (h :: hds ms (tms h (turnAt ms q)) t) ++ _
    rw [ih]
    rfl
theorem hnd_snoc : hnd ms h (t ++ [p]) = tms (hnd ms h t) (turnAt ms p) := by
  induction t generalizing h with
  | nil => rfl
  | cons q t ih => exact ih
theorem hds_len : (hds ms h t).length = t.length + 1 := by
  induction t generalizing h with
  | nil => rfl
  | cons q t ih => simp [hds, ih]
theorem hds_last? : (hds ms h t).getLast? = some (hnd ms h t) := by
  induction t generalizing h with
  | nil => rfl
  | cons q t ih =>
    show (h :: hds ms (tms h (turnAt ms q)) t).getLast? = _
    rw [List.getLast?_cons, ih]
    rfl
theorem LeadOk.row (k : ∀ m ∈ ms, m.Ok b) (hp : LeadOk ms p) : Row b (turnAt ms p) := by
  have km := k _ (nth_mem hp.1)
  exact km.turns _ (nth_mem (by rw [Mth.turns_len]; have := hp.2; omega))
theorem hnd_row (k : ∀ m ∈ ms, m.Ok b) (hh : Row b h) (ht : ∀ p ∈ t, LeadOk ms p) : Row b (hnd ms h t) := by
  induction t generalizing h with
  | nil => exact hh
  | cons q t ih => exact ih (hh.tms ((ht q List.mem_cons_self).row k)) fun p m => ht p (List.mem_cons_of_mem _ m)
theorem hds_row (k : ∀ m ∈ ms, m.Ok b) (hh : Row b h) (ht : ∀ p ∈ t, LeadOk ms p) : ∀ x ∈ hds ms h t, Row b x := by
  induction t generalizing h with
  | nil => intro x m; rw [List.mem_singleton.mp m]; exact hh
  | cons q t ih =>
    intro x m
    rcases List.mem_cons.mp m with rfl | m
    · exact hh
    · exact ih (hh.tms ((ht q List.mem_cons_self).row k)) (fun p m => ht p (List.mem_cons_of_mem _ m)) x m
end
/-- two leads share a row -/
def meets (ms : List Mth) (h1 : List Nat) (n1 : Nat) (h2 : List Nat) (n2 : Nat) : Bool := (nth ms n1).lead.any fun x => (nth ms n2).lead.any fun y => decide (tms h1 x = tms h2 y)
/-- what a dict of false heads holds -/
def Btw (m o : Mth) (L : List (List Nat × D)) : Prop := ∀ r, (valD L r).isSome = true ↔ ∃ x ∈ m.lead, ∃ y ∈ o.lead, r = tms y (inv x)
theorem btw_meets {ms : List Mth} {b i j : Nat} {L : List (List Nat × D)} {h1 h2 : List Nat} (k : ∀ m ∈ ms, m.Ok b) (hi : i < ms.length) (hj : j < ms.length) (H : Btw (nth ms i) (nth ms j) L) (r1 : Row b h1) (r2 : Row b h2) :
    (valD L (tms (inv h2) h1)).isSome = meets ms h1 i h2 j := by
  rw [Bool.eq_iff_iff, H]
  unfold meets
  rw [List.any_eq_true]
  constructor
  · rintro ⟨x, hx, y, hy, e⟩
    refine ⟨x, hx, List.any_eq_true.mpr ⟨y, hy, decide_eq_true ?_⟩⟩
    exact (r2.meet r1 ((k _ (nth_mem hi)).lead x hx) ((k _ (nth_mem hj)).lead y hy)).mp e
  · rintro ⟨x, hx, e⟩
    obtain ⟨y, hy, e⟩ := List.any_eq_true.mp e
    exact ⟨x, hx, y, hy, (r2.meet r1 ((k _ (nth_mem hi)).lead x hx) ((k _ (nth_mem hj)).lead y hy)).mpr (of_decide_eq_true e)⟩
@[simp] theorem put_oR2 {L : List (List Nat × D)} {i j : Nat} {x : D} (h : L.length < 16777216) : putAt (.tuple [nI i, nI j]) x (oR L) = some (oR (putD L [i, j] x)) := put_oR (r := [i, j]) h
theorem pIx_dR2 {L : List (List Nat × D)} {i j : Nat} {x : D} (h : valD L [i, j] = some x) : pIx (dR L) (.tuple [nI i, nI j]) = some (.d x) := pIx_dR (r := [i, j]) h
/-- one that maps, where the slots may change as it goes -/
theorem lc_mpE {α β : Type} {f : α → D} {q : MQ} {tt : MT} {me : ME} {vs : List Nat} {e0 : En} {xs : List α} (F : β → D) (g : α → β) (P : En → Prop) (h0 : P e0)
    (h : ∀ a ∈ xs, ∀ e, P e → ∃ e', lcA (q (.d (f a)) e) tt me vs = some (some (F (g a)), e') ∧ P e') (hl : xs.length ≤ 16777216) :
    ∃ e', lcGo q tt me vs [] (xs.map f) e0 = .ok ((xs.map g).map F) e' ∧ P e' := by
  obtain ⟨ys, e', h1, h2, h3⟩ := lc_ex (f := f) (q := q) (tt := tt) (me := me) (vs := vs) (e0 := e0) (xs := xs) (fun done acc e => acc = (done.map g).map F ∧ P e) ⟨rfl, h0⟩ (by
    rintro done a rest acc e hx ⟨rfl, hp⟩
    obtain ⟨e1, h1, p1⟩ := h a (by rw [← hx]; simp) e hp
    exact ⟨_, e1, h1, by simp, p1⟩) hl
  subst h2
  exact ⟨e', h1, h3⟩
/-! ### the pot -/
theorem rn_of {m : MS} {n : Nat} {rs : List R} {r : R} (h : ((m (env0 n rs)).fin.map (·.1)) = some r) : rn m n rs = some r := h
theorem rnP_of {m : MS} {n : Nat} {xs ys : List D} {rest : List R} {r : R} {e : En} (h : (m (env0 n (.pl xs :: rest))).fin = some (r, some (.pl ys) :: e)) : rnP m n xs rest = some (r, ys) := by
  unfold rnP
  rw [h]
  rfl
def Pot (l : List D) : Prop := ∃ a b : Nat, l = [nI a, nI b] ∧ b < 4294967296
@[simp] theorem pDivmod_n {a n : Nat} (h1 : 0 < n) (h2 : n < 1073741824) : pDivmod [nI a, nI n] = some (.d (.tuple [nI (a / n), nI (a % n)])) := by
  have z : pDivmod [.int a, .int n] = some (.d (.tuple [.int ((a : Int) / n), .int ((a : Int) % n)])) := by
    unfold pDivmod
    exact if_pos (by simp [h2]; omega)
  rw [← Int.natCast_ediv, ← Int.natCast_emod] at z
  exact z
theorem seqIx_n {n k : Nat} (h : n < k) : PySem.seqIndex? (n : Int) k = some n := by
  unfold PySem.seqIndex?
  have e : (if (n : Int) < 0 then (n : Int) + (k : Int) else (n : Int)) = (n : Int) := if_neg (by omega)
  simp only [e]
  rw [if_pos (by simp only [Bool.and_eq_true, decide_eq_true_eq]; omega), Int.toNat_natCast]
@[simp] theorem gPop_n {xs : List D} {n : Nat} (h : n < xs.length) (h2 : xs.length ≤ 16777216) : gPop (.ol xs) [nI n] = some (nth xs n, .ol (xs.eraseIdx n)) := by
  have z : gPop (.ol xs) [.int n] = some (nth xs n, .ol (xs.eraseIdx n)) := by
    unfold gPop
    simp only
    rw [if_pos (by simp only [Bool.and_eq_true, decide_eq_true_eq]; omega), seqIx_n h]
    simp only
    rw [nth_get h]
  exact z
end Pw

set_option Elab.async false
set_option linter.all false
set_option maxRecDepth 100000
set_option maxHeartbeats 4000000
namespace Pwk85
open PySem PySem.Spec PyProof.Rows L2 Pw
def topS (i : Nat) : Stmt := PySem.Challenge.pw_pealworks_k85_whole_methods_that_stand_i.main.body.getD i (.Pass ⟨0, 0, 0, 0⟩)
abbrev s__law_pot : Stmt := topS 51
abbrev nm__law_pot : List Str := ["script", "k", "cell"]
abbrev n__law_pot : Nat := 3
def ow__law_pot : Nat → Bool := fun i => [0].contains i
def m__law_pot : MS := (mSeq (mSet (qN 2 false) (mIf (mTst (m2 true pLt (mVar 1) (mN true pLen (mACons (mVar 0) mANil)))) (mN true pAbs (mACons (m2 true pIx (mVar 0) (mVar 1)) mANil)) (m2 false pAdd (m2 false pAdd (m2 false pMul (mC (nI 2837)) (mVar 1)) (mC (nI 2087))) (m2 true pMod (mN true pInt (mACons (mN true pSum (mACons (mCut (mVar 0) mNo (mSo (mC (nI 1)))) mANil)) mANil)) (mC (nI 1000003)))))) (mRet (mLst (mACons (mN true pMax2 (mACons (mC (nI 0)) (mACons (m2 true pSub (mVar 2) (m2 true pPow (mC (nI 10)) (mC (nI 18)))) mANil))) (mACons (m2 false pAdd (m2 true pMod (mN true pInt (mACons (m2 false pAdd (m2 false pAdd (m2 false pMul (m2 true pMod (mN true pInt (mACons (mVar 2) mANil)) (mC (nI 2147483549))) (mC (nI 40253))) (m2 false pMul (mC (nI 9203)) (mVar 1))) (mC (nI 71))) mANil)) (mC (nI 2147483563))) (mC (nI 1))) mANil)))))
abbrev s__law_draw : Stmt := topS 52
abbrev nm__law_draw : List Str := ["pot", "size", "digit"]
abbrev n__law_draw : Nat := 3
def ow__law_draw : Nat → Bool := fun i => [0].contains i
def m__law_draw : MS := (mSeq (mIfS (mTst (m2 true pGt (m2 true pIx (mVar 0) (mC (nI 0))) (mC (nI 0)))) (mSeq (mSet (qTup 2 (qCons (qSub (mVar 0) (mC (nI 0))) (qCons (qN 2 false) qNil))) (mN true pDivmod (mACons (m2 true pIx (mVar 0) (mC (nI 0))) (mACons (mVar 1) mANil)))) (mRet (mVar 2))) mNext) (mSeq (mSet (qSub (mVar 0) (mC (nI 1))) (m2 true pMod (mN true pInt (mACons (m2 false pAdd (m2 false pMul (m2 true pIx (mVar 0) (mC (nI 1))) (mC (nI 40692))) (mC (nI 9203))) mANil)) (mC (nI 2147483587)))) (mRet (m2 true pMod (mN true pInt (mACons (m2 true pDiv (m2 true pMod (mN true pInt (mACons (m2 false pMul (m2 true pIx (mVar 0) (mC (nI 1))) (m2 true pIx (mVar 0) (mC (nI 1)))) mANil)) (mC (nI 2147483549))) (mC (nI 43))) mANil)) (mVar 1)))))
abbrev s_is_tuple : Stmt := topS 4
abbrev nm_is_tuple : List Str := ["value", "many"]
abbrev n_is_tuple : Nat := 2
def ow_is_tuple : Nat → Bool := fun i => [0].contains i
def m_is_tuple : MS := (mRet (mAndV (mTst (m1 false (isiD "tuple") (mVar 0))) (m2 true pEqT (mN true pLen (mACons (mVar 0) mANil)) (mVar 1))))
abbrev s_is_integer : Stmt := topS 1
abbrev nm_is_integer : List Str := ["value"]
abbrev n_is_integer : Nat := 1
def ow_is_integer : Nat → Bool := fun i => [0].contains i
def m_is_integer : MS := (mRet (mAndV (mTst (m1 false (isiD "int") (mVar 0))) (mBV (mNotT (mTst (m1 false (isiD "bool") (mVar 0)))))))
abbrev s_is_within : Stmt := topS 2
abbrev nm_is_within : List Str := ["value", "least", "most"]
abbrev n_is_within : Nat := 3
def ow_is_within : Nat → Bool := fun i => [0].contains i
def m_is_within : MS := (mRet (mAndV (mTst (mCall n_is_integer m_is_integer (mACons (mVar 0) mANil))) (mCh pLe pLe true true (mVar 1) (mVar 0) (mVar 2))))
abbrev s_is_bells : Stmt := topS 20
abbrev nm_is_bells : List Str := ["value"]
abbrev n_is_bells : Nat := 1
def ow_is_bells : Nat → Bool := fun i => [0].contains i
def m_is_bells : MS := (mRet (mCall n_is_within m_is_within (mACons (mVar 0) (mACons (mC (nI 3)) (mACons (mC (nI 6)) mANil)))))
abbrev s_are_rising : Stmt := topS 5
abbrev nm_are_rising : List Str := ["values", "near", "far"]
abbrev n_are_rising : Nat := 3
def ow_are_rising : Nat → Bool := fun i => [0].contains i
def m_are_rising : MS := (mRet (mN true pAll (mACons (mLc (mZip (mVar 0) (mFrz (mCut (mVar 0) (mSo (mC (nI 1))) mNo))) (qTup 2 (qCons (qN 1 false) (qCons (qN 2 false) qNil))) mYes (m2 true pLt (mVar 1) (mVar 2)) [1, 2]) mANil)))
abbrev s_is_lot : Stmt := topS 6
abbrev nm_is_lot : List Str := ["value", "most", "one"]
abbrev n_is_lot : Nat := 3
def ow_is_lot : Nat → Bool := fun i => [0].contains i
def m_is_lot : MS := (mRet (mAndV (mTst (m1 false (isiD "tuple") (mVar 0))) (mAndV (mTst (mN true pAll (mACons (mLc (mSq (mVar 0)) (qN 2 false) mYes (mCall n_is_within m_is_within (mACons (mVar 2) (mACons (mC (nI 0)) (mACons (mVar 1) mANil)))) [2]) mANil))) (mCall n_are_rising m_are_rising (mACons (mVar 0) mANil)))))
abbrev s_pairs_of : Stmt := topS 18
abbrev nm_pairs_of : List Str := ["bells", "change", "found", "place"]
abbrev n_pairs_of : Nat := 4
def ow_pairs_of : Nat → Bool := fun i => [0, 2].contains i
def m_pairs_of : MS := (mSeq (mPar 2 3 true false (mACons (mLst mANil) (mACons (mC (nI 0)) mANil))) (mSeq (mWh 100000 (mTst (m2 true pLt (mVar 3) (mVar 0))) (mIfS (mTst (m2 false pIn (mVar 3) (mVar 1))) (mSet (qN 3 false) (m2 false pAdd (mVar 3) (mC (nI 1)))) (mIfS (mAndT (mTst (m2 true pLt (m2 false pAdd (mVar 3) (mC (nI 1))) (mVar 0))) (mTst (m2 false pNotIn (m2 false pAdd (mVar 3) (mC (nI 1))) (mVar 1)))) (mSeq (mDrp (mMtL gApp (mVar 2) (mACons (mVar 3) mANil))) (mSet (qN 3 false) (m2 false pAdd (mVar 3) (mC (nI 2))))) (mRet (mC .none))))) (mRet (mVar 2))))
abbrev s_is_change_of : Stmt := topS 21
abbrev nm_is_change_of : List Str := ["bells", "value"]
abbrev n_is_change_of : Nat := 2
def ow_is_change_of : Nat → Bool := fun i => [0].contains i
def m_is_change_of : MS := (mSeq (mIfS (mOrT (mNotT (mTst (mCall n_is_lot m_is_lot (mACons (mVar 1) (mACons (m2 true pSub (mVar 0) (mC (nI 1))) mANil))))) (mTst (m2 true pEqT (mN true pLen (mACons (mVar 1) mANil)) (mVar 0)))) (mRet (mC (.bool false))) mNext) (mRet (m2 true pIsNot (mCall n_pairs_of m_pairs_of (mACons (mVar 0) (mACons (mVar 1) mANil))) (mC .none))))
abbrev s_is_method_any : Stmt := topS 26
abbrev nm_is_method_any : List Str := ["value", "word", "bells", "changes", "calls", "one"]
abbrev n_is_method_any : Nat := 6
def ow_is_method_any : Nat → Bool := fun i => [0].contains i
def m_is_method_any : MS := (mSeq (mIfS (mOrT (mNotT (mTst (mCall n_is_tuple m_is_tuple (mACons (mVar 0) (mACons (mC (nI 4)) mANil))))) (mOrT (mNotT (mTst (m1 false (isiD "str") (m2 true pIx (mVar 0) (mC (nI 0)))))) (mOrT (mTst (m2 true pNeT (m2 true pIx (mVar 0) (mC (nI 0))) (mC (.str "method")))) (mNotT (mTst (mCall n_is_bells m_is_bells (mACons (m2 true pIx (mVar 0) (mC (nI 1))) mANil))))))) (mRet (mC (.bool false))) mNext) (mSeq (mSet (qTup 4 (qCons (qN 1 false) (qCons (qN 2 false) (qCons (qN 3 false) (qCons (qN 4 false) qNil))))) (mVar 0)) (mSeq (mIfS (mOrT (mNotT (mTst (m1 false (isiD "tuple") (mVar 3)))) (mNotT (mTst (mCh pLe pLe true true (mC (nI 1)) (mN true pLen (mACons (mVar 3) mANil)) (mC (nI 40)))))) (mRet (mC (.bool false))) mNext) (mSeq (mIfS (mOrT (mNotT (mTst (m1 false (isiD "tuple") (mVar 4)))) (mTst (m2 true pGt (mN true pLen (mACons (mVar 4) mANil)) (mC (nI 3))))) (mRet (mC (.bool false))) mNext) (mSeq (mIfS (mNotT (mTst (mN true pAll (mACons (mLc (mSq (mFrz (m2 false pAdd (mVar 3) (mVar 4)))) (qN 5 false) mYes (mCall n_is_change_of m_is_change_of (mACons (mVar 2) (mACons (mVar 5) mANil))) [5]) mANil)))) (mRet (mC (.bool false))) mNext) (mRet (m2 true pEqT (m1 true lenSetA (m2 false pAdd (mVar 4) (mCut (mVar 3) (mSo (m1 true pNeg (mC (nI 1)))) mNo))) (m2 false pAdd (mN true pLen (mACons (mVar 4) mANil)) (mC (nI 1))))))))))
abbrev s_is_splice_any : Stmt := topS 34
abbrev nm_is_splice_any : List Str := ["value", "one"]
abbrev n_is_splice_any : Nat := 2
def ow_is_splice_any : Nat → Bool := fun i => [0].contains i
def m_is_splice_any : MS := (mSeq (mIfS (mOrT (mNotT (mTst (mCall n_is_tuple m_is_tuple (mACons (mVar 0) (mACons (mC (nI 2)) mANil))))) (mOrT (mNotT (mTst (m1 false (isiD "str") (m2 true pIx (mVar 0) (mC (nI 0)))))) (mTst (m2 true pNeT (m2 true pIx (mVar 0) (mC (nI 0))) (mC (.str "splice")))))) (mRet (mC (.bool false))) mNext) (mSeq (mIfS (mOrT (mNotT (mTst (m1 false (isiD "tuple") (m2 true pIx (mVar 0) (mC (nI 1)))))) (mNotT (mTst (mCh pLe pLe true true (mC (nI 1)) (mN true pLen (mACons (m2 true pIx (mVar 0) (mC (nI 1))) mANil)) (mC (nI 4)))))) (mRet (mC (.bool false))) mNext) (mSeq (mIfS (mNotT (mTst (mN true pAll (mACons (mLc (mSq (m2 true pIx (mVar 0) (mC (nI 1)))) (qN 1 false) mYes (mCall n_is_method_any m_is_method_any (mACons (mVar 1) mANil)) [1]) mANil)))) (mRet (mC (.bool false))) mNext) (mRet (m2 true pEqT (m1 true lenSetA (mLc (mSq (m2 true pIx (mVar 0) (mC (nI 1)))) (qN 1 false) mYes (m2 true pIx (mVar 1) (mC (nI 1))) [1])) (mC (nI 1)))))))
abbrev s_want_splice : Stmt := topS 35
abbrev nm_want_splice : List Str := ["splice"]
abbrev n_want_splice : Nat := 1
def ow_want_splice : Nat → Bool := fun i => [0].contains i
def m_want_splice : MS := (mIfS (mNotT (mTst (mCall n_is_splice_any m_is_splice_any (mACons (mVar 0) mANil)))) mStop mNext)
abbrev s_is_list : Stmt := topS 3
abbrev nm_is_list : List Str := ["value"]
abbrev n_is_list : Nat := 1
def ow_is_list : Nat → Bool := fun i => [0].contains i
def m_is_list : MS := (mRet (m1 false (isi2D "list" "tuple") (mVar 0)))
abbrev s_is_lead_any : Stmt := topS 36
abbrev nm_is_lead_any : List Str := ["splice", "value"]
abbrev n_is_lead_any : Nat := 2
def ow_is_lead_any : Nat → Bool := fun i => [0].contains i
def m_is_lead_any : MS := (mSeq (mIfS (mOrT (mNotT (mTst (mCall n_is_tuple m_is_tuple (mACons (mVar 1) (mACons (mC (nI 2)) mANil))))) (mNotT (mTst (mCall n_is_within m_is_within (mACons (m2 true pIx (mVar 1) (mC (nI 0))) (mACons (mC (nI 0)) (mACons (m2 true pSub (mN true pLen (mACons (m2 true pIx (mVar 0) (mC (nI 1))) mANil)) (mC (nI 1))) mANil))))))) (mRet (mC (.bool false))) mNext) (mRet (mCall n_is_within m_is_within (mACons (m2 true pIx (mVar 1) (mC (nI 1))) (mACons (mC (nI 0)) (mACons (mN true pLen (mACons (m2 true pIx (m2 true pIx (m2 true pIx (mVar 0) (mC (nI 1))) (m2 true pIx (mVar 1) (mC (nI 0)))) (mC (nI 3))) mANil)) mANil))))))
abbrev s_is_spliced_any : Stmt := topS 37
abbrev nm_is_spliced_any : List Str := ["splice", "value", "one"]
abbrev n_is_spliced_any : Nat := 3
def ow_is_spliced_any : Nat → Bool := fun i => [0].contains i
def m_is_spliced_any : MS := (mRet (mAndV (mTst (mCall n_is_list m_is_list (mACons (mVar 1) mANil))) (mAndV (mTst (m2 true pLe (mN true pLen (mACons (mVar 1) mANil)) (mC (nI 800)))) (mN true pAll (mACons (mLc (mSq (mVar 1)) (qN 2 false) mYes (mCall n_is_lead_any m_is_lead_any (mACons (mVar 0) (mACons (mVar 2) mANil))) [2]) mANil)))))
abbrev s_want_spliced : Stmt := topS 38
abbrev nm_want_spliced : List Str := ["splice", "touch"]
abbrev n_want_spliced : Nat := 2
def ow_want_spliced : Nat → Bool := fun i => [0].contains i
def m_want_spliced : MS := (mSeq (mDrp (mCall n_want_splice m_want_splice (mACons (mVar 0) mANil))) (mIfS (mNotT (mTst (mCall n_is_spliced_any m_is_spliced_any (mACons (mVar 0) (mACons (mVar 1) mANil))))) mStop mNext))
abbrev s_rounds_of : Stmt := topS 15
abbrev nm_rounds_of : List Str := ["bells"]
abbrev n_rounds_of : Nat := 1
def ow_rounds_of : Nat → Bool := fun i => [0].contains i
def m_rounds_of : MS := (mRet (mRgT (mG1 (mVar 0))))
abbrev s_times : Stmt := topS 16
abbrev nm_times : List Str := ["row", "other", "place"]
abbrev n_times : Nat := 3
def ow_times : Nat → Bool := fun i => [0].contains i
def m_times : MS := (mRet (mN true pTup (mACons (mLc (mSq (mVar 1)) (qN 2 false) mYes (m2 true pIx (mVar 0) (mVar 2)) [2]) mANil)))
abbrev s_change_row : Stmt := topS 19
abbrev nm_change_row : List Str := ["bells", "change", "found", "place"]
abbrev n_change_row : Nat := 4
def ow_change_row : Nat → Bool := fun i => [0, 2].contains i
def m_change_row : MS := (mSeq (mSet (qN 2 true) (mRgL (mG1 (mVar 0)))) (mSeq (mFor (mSq (mFrz (mCall n_pairs_of m_pairs_of (mACons (mVar 0) (mACons (mVar 1) mANil))))) (qN 3 false) (mSet (qTup 2 (qCons (qSub (mVar 2) (mVar 3)) (qCons (qSub (mVar 2) (m2 false pAdd (mVar 3) (mC (nI 1)))) qNil))) (mTup (mACons (m2 false pAdd (mVar 3) (mC (nI 1))) (mACons (mVar 3) mANil))))) (mRet (mN true pTup (mACons (mVar 2) mANil)))))
abbrev s_lead_of : Stmt := topS 27
abbrev nm_lead_of : List Str := ["method", "found", "change"]
abbrev n_lead_of : Nat := 3
def ow_lead_of : Nat → Bool := fun i => [0, 1].contains i
def m_lead_of : MS := (mSeq (mSet (qN 1 true) (mLst (mACons (mCall n_rounds_of m_rounds_of (mACons (m2 true pIx (mVar 0) (mC (nI 1))) mANil)) mANil))) (mSeq (mFor (mSq (mFrz (mCut (m2 true pIx (mVar 0) (mC (nI 2))) mNo (mSo (m1 true pNeg (mC (nI 1))))))) (qN 2 false) (mDrp (mMtL gApp (mVar 1) (mACons (mCall n_times m_times (mACons (m2 true pIx (mVar 1) (m1 true pNeg (mC (nI 1)))) (mACons (mCall n_change_row m_change_row (mACons (m2 true pIx (mVar 0) (mC (nI 1))) (mACons (mVar 2) mANil))) mANil))) mANil)))) (mRet (mVar 1))))
abbrev s_turns_of : Stmt := topS 28
abbrev nm_turns_of : List Str := ["method", "last", "change"]
abbrev n_turns_of : Nat := 3
def ow_turns_of : Nat → Bool := fun i => [0].contains i
def m_turns_of : MS := (mSeq (mSet (qN 1 false) (m2 true pIx (mCall n_lead_of m_lead_of (mACons (mVar 0) mANil)) (m1 true pNeg (mC (nI 1))))) (mRet (mN true pTup (mACons (mLc (mSq (mFrz (m2 false pAdd (mCut (m2 true pIx (mVar 0) (mC (nI 2))) (mSo (m1 true pNeg (mC (nI 1)))) mNo) (m2 true pIx (mVar 0) (mC (nI 3)))))) (qN 2 false) mYes (mCall n_times m_times (mACons (mVar 1) (mACons (mCall n_change_row m_change_row (mACons (m2 true pIx (mVar 0) (mC (nI 1))) (mACons (mVar 2) mANil))) mANil))) [2]) mANil))))
abbrev s_all_turns_of : Stmt := topS 40
abbrev nm_all_turns_of : List Str := ["splice", "method"]
abbrev n_all_turns_of : Nat := 2
def ow_all_turns_of : Nat → Bool := fun i => [0].contains i
def m_all_turns_of : MS := (mRet (mLc (mSq (m2 true pIx (mVar 0) (mC (nI 1)))) (qN 1 false) mYes (mCall n_turns_of m_turns_of (mACons (mVar 1) mANil)) [1]))
abbrev s_spliced_heads_of : Stmt := topS 41
abbrev nm_spliced_heads_of : List Str := ["splice", "touch", "turns", "found", "number", "call"]
abbrev n_spliced_heads_of : Nat := 6
def ow_spliced_heads_of : Nat → Bool := fun i => [0, 2, 3].contains i
def m_spliced_heads_of : MS := (mSeq (mPar 2 3 true true (mACons (mCall n_all_turns_of m_all_turns_of (mACons (mVar 0) mANil)) (mACons (mLst (mACons (mCall n_rounds_of m_rounds_of (mACons (m2 true pIx (m2 true pIx (m2 true pIx (mVar 0) (mC (nI 1))) (mC (nI 0))) (mC (nI 1))) mANil)) mANil)) mANil))) (mSeq (mFor (mSq (mVar 1)) (qTup 2 (qCons (qN 4 false) (qCons (qN 5 false) qNil))) (mDrp (mMtL gApp (mVar 3) (mACons (mCall n_times m_times (mACons (m2 true pIx (mVar 3) (m1 true pNeg (mC (nI 1)))) (mACons (m2 true pIx (m2 true pIx (mVar 2) (mVar 4)) (mVar 5)) mANil))) mANil)))) (mRet (mVar 3))))
abbrev s_is_lead_true : Stmt := topS 29
abbrev nm_is_lead_true : List Str := ["method", "lead"]
abbrev n_is_lead_true : Nat := 2
def ow_is_lead_true : Nat → Bool := fun i => [0, 1].contains i
def m_is_lead_true : MS := (mSeq (mSet (qN 1 true) (mCall n_lead_of m_lead_of (mACons (mVar 0) mANil))) (mRet (m2 true pEqT (m1 true lenSetA (mVar 1)) (mN true pLen (mACons (mVar 1) mANil)))))
abbrev s_inverse_of : Stmt := topS 17
abbrev nm_inverse_of : List Str := ["row", "found", "place", "bell"]
abbrev n_inverse_of : Nat := 4
def ow_inverse_of : Nat → Bool := fun i => [0, 1].contains i
def m_inverse_of : MS := (mSeq (mSet (qN 1 true) (m2 false pMul (mLst (mACons (mC (nI 0)) mANil)) (mN true pLen (mACons (mVar 0) mANil)))) (mSeq (mFor (mEnum (mVar 0)) (qTup 2 (qCons (qN 2 false) (qCons (qN 3 false) qNil))) (mSet (qSub (mVar 1) (mVar 3)) (mVar 2))) (mRet (mN true pTup (mACons (mVar 1) mANil)))))
abbrev s_between_of : Stmt := topS 43
abbrev nm_between_of : List Str := ["method", "other", "found", "row", "one"]
abbrev n_between_of : Nat := 5
def ow_between_of : Nat → Bool := fun i => [0, 2].contains i
def m_between_of : MS := (mSeq (mSet (qN 2 true) mDT) (mSeq (mFor (mSq (mFrz (mCall n_lead_of m_lead_of (mACons (mVar 0) mANil)))) (qN 3 false) (mFor (mSq (mFrz (mCall n_lead_of m_lead_of (mACons (mVar 1) mANil)))) (qN 4 false) (mSet (qSub (mVar 2) (mCall n_times m_times (mACons (mVar 4) (mACons (mCall n_inverse_of m_inverse_of (mACons (mVar 3) mANil)) mANil)))) (mC (.bool true))))) (mRet (mVar 2))))
abbrev s_all_between : Stmt := topS 44
abbrev nm_all_between : List Str := ["splice", "found", "number", "method", "at", "other"]
abbrev n_all_between : Nat := 6
def ow_all_between : Nat → Bool := fun i => [0, 1].contains i
def m_all_between : MS := (mSeq (mSet (qN 1 true) mDT) (mSeq (mFor (mEnum (m2 true pIx (mVar 0) (mC (nI 1)))) (qTup 2 (qCons (qN 2 false) (qCons (qN 3 false) qNil))) (mFor (mEnum (m2 true pIx (mVar 0) (mC (nI 1)))) (qTup 2 (qCons (qN 4 false) (qCons (qN 5 false) qNil))) (mSet (qSub (mVar 1) (mTup (mACons (mVar 2) (mACons (mVar 4) mANil)))) (mFrz (mCall n_between_of m_between_of (mACons (mVar 3) (mACons (mVar 5) mANil))))))) (mRet (mVar 1))))
abbrev s_is_apart : Stmt := topS 45
abbrev nm_is_apart : List Str := ["between", "head", "number", "heads", "numbers", "back", "one", "at"]
abbrev n_is_apart : Nat := 8
def ow_is_apart : Nat → Bool := fun i => [0].contains i
def m_is_apart : MS := (mSeq (mSet (qN 5 false) (mCall n_inverse_of m_inverse_of (mACons (mVar 1) mANil))) (mRet (mBV (mNotT (mTst (mN true pAny (mACons (mLc (mZip (mVar 3) (mVar 4)) (qTup 2 (qCons (qN 6 false) (qCons (qN 7 false) qNil))) mYes (m2 false pIn (mCall n_times m_times (mACons (mVar 5) (mACons (mVar 6) mANil))) (m2 true pIx (mVar 0) (mTup (mACons (mVar 7) (mACons (mVar 2) mANil))))) [6, 7]) mANil)))))))
abbrev s_is_true_of : Stmt := topS 46
abbrev nm_is_true_of : List Str := ["splice", "touch", "heads", "numbers", "between", "number", "call", "at"]
abbrev n_is_true_of : Nat := 8
def ow_is_true_of : Nat → Bool := fun i => [0, 3, 4].contains i
def m_is_true_of : MS := (mSeq (mParT [(3, true), (4, true)] (mACons (mLc (mSq (mVar 1)) (qTup 2 (qCons (qN 5 false) (qCons (qN 6 false) qNil))) mYes (mVar 5) [5, 6]) (mACons (mCall n_all_between m_all_between (mACons (mVar 0) mANil)) mANil))) (mSeq (mIfS (mNotT (mTst (mN true pAll (mACons (mLc (mSq (mFrz (m1 true sortSet (mVar 3)))) (qN 5 false) mYes (mCall n_is_lead_true m_is_lead_true (mACons (m2 true pIx (m2 true pIx (mVar 0) (mC (nI 1))) (mVar 5)) mANil)) [5]) mANil)))) (mRet (mC (.bool false))) mNext) (mRet (mN true pAll (mACons (mLc (mRgI (mG1 (mN true pLen (mACons (mVar 1) mANil)))) (qN 7 false) mYes (mCall n_is_apart m_is_apart (mACons (mFrz (mVar 4)) (mACons (m2 true pIx (mVar 2) (mVar 7)) (mACons (m2 true pIx (mVar 3) (mVar 7)) (mACons (mFrz (mCut (mVar 2) mNo (mSo (mVar 7)))) (mACons (mFrz (mCut (mVar 3) mNo (mSo (mVar 7)))) mANil)))))) [7]) mANil)))))
abbrev s_is_spliced_true : Stmt := topS 47
abbrev nm_is_spliced_true : List Str := ["splice", "touch"]
abbrev n_is_spliced_true : Nat := 2
def ow_is_spliced_true : Nat → Bool := fun i => [0].contains i
def m_is_spliced_true : MS := (mSeq (mDrp (mCall n_want_spliced m_want_spliced (mACons (mVar 0) (mACons (mVar 1) mANil)))) (mRet (mCall n_is_true_of m_is_true_of (mACons (mVar 0) (mACons (mVar 1) (mACons (mFrz (mCall n_spliced_heads_of m_spliced_heads_of (mACons (mVar 0) (mACons (mVar 1) mANil)))) mANil))))))
abbrev s_want_number : Stmt := topS 39
abbrev nm_want_number : List Str := ["splice", "number"]
abbrev n_want_number : Nat := 2
def ow_want_number : Nat → Bool := fun i => [0].contains i
def m_want_number : MS := (mIfS (mNotT (mTst (mCall n_is_within m_is_within (mACons (mVar 1) (mACons (mC (nI 0)) (mACons (m2 true pSub (mN true pLen (mACons (m2 true pIx (mVar 0) (mC (nI 1))) mANil)) (mC (nI 1))) mANil)))))) mStop mNext)
abbrev s_stand_ins : Stmt := topS 48
abbrev nm_stand_ins : List Str := ["splice", "touch", "number", "turns", "found", "at", "own", "call", "late"]
abbrev n_stand_ins : Nat := 9
def ow_stand_ins : Nat → Bool := fun i => [0, 3, 4, 8].contains i
def m_stand_ins : MS := (mSeq (mDrp (mCall n_want_spliced m_want_spliced (mACons (mVar 0) (mACons (mVar 1) mANil)))) (mSeq (mDrp (mCall n_want_number m_want_number (mACons (mVar 0) (mACons (mVar 2) mANil)))) (mSeq (mPar 3 4 true true (mACons (mCall n_all_turns_of m_all_turns_of (mACons (mVar 0) mANil)) (mACons (mLst mANil) mANil))) (mSeq (mFor (mEnum (mVar 1)) (qTup 2 (qCons (qN 5 false) (qCons (qTup 2 (qCons (qN 6 false) (qCons (qN 7 false) qNil))) qNil))) (mIfS (mAndT (mTst (m2 true pLt (mVar 7) (mN true pLen (mACons (m2 true pIx (mVar 3) (mVar 2)) mANil)))) (mTst (m2 true pEqT (m2 true pIx (m2 true pIx (mVar 3) (mVar 2)) (mVar 7)) (m2 true pIx (m2 true pIx (mVar 3) (mVar 6)) (mVar 7))))) (mSeq (mSet (qN 8 true) (m2 false pAdd (m2 false pAdd (mN true pLst (mACons (mCut (mVar 1) mNo (mSo (mVar 5))) mANil)) (mLst (mACons (mTup (mACons (mVar 2) (mACons (mVar 7) mANil))) mANil))) (mN true pLst (mACons (mCut (mVar 1) (mSo (m2 false pAdd (mVar 5) (mC (nI 1)))) mNo) mANil)))) (mIfS (mTst (mCall n_is_true_of m_is_true_of (mACons (mVar 0) (mACons (mFrz (mVar 8)) (mACons (mFrz (mCall n_spliced_heads_of m_spliced_heads_of (mACons (mVar 0) (mACons (mFrz (mVar 8)) mANil)))) mANil))))) (mDrp (mMtL gApp (mVar 4) (mACons (mVar 5) mANil))) mNext)) mNext)) (mRet (mVar 4))))))
abbrev s_may_always : Stmt := topS 49
abbrev nm_may_always : List Str := ["splice", "number", "other", "turns", "near", "far"]
abbrev n_may_always : Nat := 6
def ow_may_always : Nat → Bool := fun i => [0, 3, 4, 5].contains i
def m_may_always : MS := (mSeq (mDrp (mCall n_want_splice m_want_splice (mACons (mVar 0) mANil))) (mSeq (mDrp (mCall n_want_number m_want_number (mACons (mVar 0) (mACons (mVar 1) mANil)))) (mSeq (mDrp (mCall n_want_number m_want_number (mACons (mVar 0) (mACons (mVar 2) mANil)))) (mSeq (mSet (qN 3 true) (mCall n_all_turns_of m_all_turns_of (mACons (mVar 0) mANil))) (mSeq (mPar 4 5 true true (mACons (mCall n_lead_of m_lead_of (mACons (m2 true pIx (m2 true pIx (mVar 0) (mC (nI 1))) (mVar 1)) mANil)) (mACons (mCall n_lead_of m_lead_of (mACons (m2 true pIx (m2 true pIx (mVar 0) (mC (nI 1))) (mVar 2)) mANil)) mANil))) (mRet (mAndV (mTst (m2 true pEqT (m2 true pIx (mVar 3) (mVar 1)) (m2 true pIx (mVar 3) (mVar 2)))) (m2 true pEqT (mN false pSortA (mACons (mVar 4) mANil)) (mN false pSortA (mACons (mVar 5) mANil))))))))))
abbrev s__law_changed : Stmt := topS 56
abbrev nm__law_changed : List Str := ["row", "change", "found", "place"]
abbrev n__law_changed : Nat := 4
def ow__law_changed : Nat → Bool := fun i => [0, 2].contains i
def m__law_changed : MS := (mSeq (mPar 2 3 true false (mACons (mN true pLst (mACons (mVar 0) mANil)) (mACons (mC (nI 0)) mANil))) (mSeq (mWh 100000 (mTst (m2 true pLt (mVar 3) (mN true pLen (mACons (mVar 0) mANil)))) (mIfS (mTst (m2 false pIn (mVar 3) (mVar 1))) (mSet (qN 3 false) (m2 false pAdd (mVar 3) (mC (nI 1)))) (mSeq (mSet (qTup 2 (qCons (qSub (mVar 2) (mVar 3)) (qCons (qSub (mVar 2) (m2 false pAdd (mVar 3) (mC (nI 1)))) qNil))) (mTup (mACons (m2 true pIx (mVar 0) (m2 false pAdd (mVar 3) (mC (nI 1)))) (mACons (m2 true pIx (mVar 0) (mVar 3)) mANil)))) (mSet (qN 3 false) (m2 false pAdd (mVar 3) (mC (nI 2))))))) (mRet (mN true pTup (mACons (mVar 2) mANil)))))
abbrev s__law_lead : Stmt := topS 57
abbrev nm__law_lead : List Str := ["method", "head", "call", "found", "here", "last", "change"]
abbrev n__law_lead : Nat := 7
def ow__law_lead : Nat → Bool := fun i => [0, 3].contains i
def m__law_lead : MS := (mSeq (mPar 3 4 true false (mACons (mLst mANil) (mACons (mVar 1) mANil))) (mSeq (mSet (qN 5 false) (m2 true pIx (m2 false pAdd (mCut (m2 true pIx (mVar 0) (mC (nI 2))) (mSo (m1 true pNeg (mC (nI 1)))) mNo) (m2 true pIx (mVar 0) (mC (nI 3)))) (mVar 2))) (mSeq (mFor (mSq (m2 false pAdd (mCut (m2 true pIx (mVar 0) (mC (nI 2))) mNo (mSo (m1 true pNeg (mC (nI 1))))) (mTup (mACons (mVar 5) mANil)))) (qN 6 false) (mSeq (mDrp (mMtL gApp (mVar 3) (mACons (mVar 4) mANil))) (mSet (qN 4 false) (mCall n__law_changed m__law_changed (mACons (mVar 4) (mACons (mVar 6) mANil)))))) (mRet (mTup (mACons (mFrz (mVar 3)) (mACons (mVar 4) mANil)))))))
abbrev s__law_pick : Stmt := topS 53
abbrev nm__law_pick : List Str := ["pot", "some"]
abbrev n__law_pick : Nat := 2
def ow__law_pick : Nat → Bool := fun i => [0].contains i
def m__law_pick : MS := (mRet (m2 true pIx (mVar 1) (mCallP n__law_draw m__law_draw (mACons (mVar 0) (mACons (mN true pLen (mACons (mVar 1) mANil)) mANil)))))
abbrev s__law_mixed : Stmt := topS 54
abbrev nm__law_mixed : List Str := ["pot", "some", "left", "found"]
abbrev n__law_mixed : Nat := 4
def ow__law_mixed : Nat → Bool := fun i => [0, 2, 3].contains i
def m__law_mixed : MS := (mSeq (mPar 2 3 true true (mACons (mN true pLst (mACons (mVar 1) mANil)) (mACons (mLst mANil) mANil))) (mSeq (mWh 100000 (mTst (m2 true pNeT (mVar 2) (mLst mANil))) (mDrp (mMtL gApp (mVar 3) (mACons (mMtL gPop (mVar 2) (mACons (mCallP n__law_draw m__law_draw (mACons (mVar 0) (mACons (mN true pLen (mACons (mVar 2) mANil)) mANil))) mANil)) mANil)))) (mRet (mVar 3))))
abbrev s__law_changes : Stmt := topS 55
abbrev nm__law_changes : List Str := ["bells", "found", "turn", "longer", "made", "place"]
abbrev n__law_changes : Nat := 6
def ow__law_changes : Nat → Bool := fun i => [0, 1, 3].contains i
def m__law_changes : MS := (mSeq (mSet (qN 1 true) (mLst (mACons (mTup (mACons (mTup mANil) (mACons (mC (nI 0)) mANil))) mANil))) (mSeq (mFor (mRgI (mG1 (mVar 0))) (qN 2 false) (mSeq (mSet (qN 3 true) (mLst mANil)) (mSeq (mFor (mSq (mFrz (mVar 1))) (qTup 2 (qCons (qN 4 false) (qCons (qN 5 false) qNil))) (mIfS (mTst (m2 true pLt (mVar 5) (mVar 0))) (mSeq (mDrp (mMtL gApp (mVar 3) (mACons (mTup (mACons (m2 false pAdd (mVar 4) (mTup (mACons (mVar 5) mANil))) (mACons (m2 false pAdd (mVar 5) (mC (nI 1))) mANil))) mANil))) (mDrp (mMtL gExt (mVar 3) (mACons (mFrz (mIf (mTst (m2 true pLe (m2 false pAdd (mVar 5) (mC (nI 2))) (mVar 0))) (mLst (mACons (mTup (mACons (mVar 4) (mACons (m2 false pAdd (mVar 5) (mC (nI 2))) mANil))) mANil)) (mLst mANil))) mANil)))) (mDrp (mMtL gApp (mVar 3) (mACons (mTup (mACons (mVar 4) (mACons (mVar 5) mANil))) mANil))))) (mSet (qN 1 true) (mFrz (mVar 3)))))) (mRet (m1 true sortSet (mLc (mSq (mFrz (mVar 1))) (qTup 2 (qCons (qN 4 false) (qCons (qN 5 false) qNil))) (mAndT (mTst (m2 true pEqT (mVar 5) (mVar 0))) (mTst (m2 true pLt (mN true pLen (mACons (mVar 4) mANil)) (mVar 0)))) (mVar 4) [4, 5])))))
abbrev s__law_splice : Stmt := topS 58
abbrev nm__law_splice : List Str := ["pot", "bells", "most", "long", "found", "every", "turn", "many", "way", "changes", "near", "far", "left", "step", "one"]
abbrev n__law_splice : Nat := 15
def ow__law_splice : Nat → Bool := fun i => [0, 4, 5, 9, 12].contains i
def m__law_splice : MS := (mSeq (mParT [(4, true), (5, true)] (mACons (mLst mANil) (mACons (mCall n__law_changes m__law_changes (mACons (mVar 1) mANil)) mANil))) (mSeq (mFor (mRgI (mG1 (m2 false pAdd (mC (nI 1)) (mCallP n__law_draw m__law_draw (mACons (mVar 0) (mACons (mVar 2) mANil)))))) (qN 6 false) (mSeq (mPar 7 8 false false (mACons (m2 false pAdd (mC (nI 1)) (mCallP n__law_draw m__law_draw (mACons (mVar 0) (mACons (mVar 3) mANil)))) (mACons (mCallP n__law_draw m__law_draw (mACons (mVar 0) (mACons (mC (nI 4)) mANil))) mANil))) (mSeq (mSet (qN 9 true) (mLc (mRgI (mG1 (mVar 7))) (qN 13 false) mYes (mCallP n__law_pick m__law_pick (mACons (mVar 0) (mACons (mFrz (mVar 5)) mANil))) [13])) (mSeq (mIfS (mAndT (mTst (m2 true pEqT (mVar 8) (mC (nI 0)))) (mTst (m2 true pNeT (mVar 4) (mLst mANil)))) (mSet (qN 9 true) (mN true pLst (mACons (m2 false pAdd (mRev (mCut (m2 true pIx (m2 true pIx (mVar 4) (m1 true pNeg (mC (nI 1)))) (mC (nI 2))) mNo (mSo (m1 true pNeg (mC (nI 1)))))) (mCut (m2 true pIx (m2 true pIx (mVar 4) (m1 true pNeg (mC (nI 1)))) (mC (nI 2))) (mSo (m1 true pNeg (mC (nI 1)))) mNo)) mANil))) mNext) (mSeq (mIfS (mTst (m2 true pEqT (mVar 8) (mC (nI 1)))) (mSeq (mPar 10 11 false false (mACons (mCallP n__law_pick m__law_pick (mACons (mVar 0) (mACons (mFrz (mVar 5)) mANil))) (mACons (mCallP n__law_pick m__law_pick (mACons (mVar 0) (mACons (mFrz (mVar 5)) mANil))) mANil))) (mSet (qN 9 true) (m2 false pMul (mLst (mACons (mVar 10) (mACons (mVar 11) mANil))) (m2 false pAdd (mC (nI 1)) (mCallP n__law_draw m__law_draw (mACons (mVar 0) (mACons (mC (nI 3)) mANil))))))) mNext) (mSeq (mSet (qN 12 true) (mCallP n__law_mixed m__law_mixed (mACons (mVar 0) (mACons (mFrz (mLc (mSq (mFrz (mVar 5))) (qN 14 false) (mTst (m2 true pNeT (mVar 14) (m2 true pIx (mVar 9) (m1 true pNeg (mC (nI 1)))))) (mVar 14) [14])) mANil)))) (mSeq (mDrp (mMtL gApp (mVar 4) (mACons (mTup (mACons (mC (.str "method")) (mACons (mVar 1) (mACons (mN true pTup (mACons (mVar 9) mANil)) (mACons (mN true pTup (mACons (mCut (mVar 12) mNo (mSo (mCallP n__law_draw m__law_draw (mACons (mVar 0) (mACons (mC (nI 2)) mANil))))) mANil)) mANil))))) mANil))) (mIfS (mAndT (mTst (m2 true pEqT (mVar 8) (mC (nI 2)))) (mTst (m2 true pGt (mN true pLen (mACons (mVar 4) mANil)) (mC (nI 1))))) (mSet (qSub (mVar 4) (m1 true pNeg (mC (nI 1)))) (m2 true pIx (mVar 4) (mC (nI 0)))) mNext)))))))) (mRet (mTup (mACons (mC (.str "splice")) (mACons (mN true pTup (mACons (mVar 4) mANil)) mANil))))))
abbrev s__law_touch : Stmt := topS 59
abbrev nm__law_touch : List Str := ["pot", "splice", "most", "found", "step", "number"]
abbrev n__law_touch : Nat := 6
def ow__law_touch : Nat → Bool := fun i => [0, 3].contains i
def m__law_touch : MS := (mSeq (mSet (qN 3 true) (mLst mANil)) (mSeq (mFor (mRgI (mG1 (mCallP n__law_draw m__law_draw (mACons (mVar 0) (mACons (m2 false pAdd (mVar 2) (mC (nI 1))) mANil))))) (qN 4 false) (mSeq (mSet (qN 5 false) (mCallP n__law_draw m__law_draw (mACons (mVar 0) (mACons (mN true pLen (mACons (m2 true pIx (mVar 1) (mC (nI 1))) mANil)) mANil)))) (mDrp (mMtL gApp (mVar 3) (mACons (mTup (mACons (mVar 5) (mACons (mCallP n__law_draw m__law_draw (mACons (mVar 0) (mACons (m2 false pAdd (mN true pLen (mACons (m2 true pIx (m2 true pIx (m2 true pIx (mVar 1) (mC (nI 1))) (mVar 5)) (mC (nI 3))) mANil)) (mC (nI 1))) mANil))) mANil))) mANil))))) (mRet (mVar 3))))
abbrev s__law_rung : Stmt := topS 60
abbrev nm__law_rung : List Str := ["splice", "touch", "here", "rows", "heads", "number", "call", "some"]
abbrev n__law_rung : Nat := 8
def ow__law_rung : Nat → Bool := fun i => [0, 3, 4].contains i
def m__law_rung : MS := (mSeq (mSet (qN 2 false) (mRgT (mG1 (m2 true pIx (m2 true pIx (m2 true pIx (mVar 0) (mC (nI 1))) (mC (nI 0))) (mC (nI 1)))))) (mSeq (mPar 3 4 true true (mACons (mLst mANil) (mACons (mLst (mACons (mVar 2) mANil)) mANil))) (mSeq (mFor (mSq (mVar 1)) (qTup 2 (qCons (qN 5 false) (qCons (qN 6 false) qNil))) (mSeq (mSet (qTup 2 (qCons (qN 7 false) (qCons (qN 2 false) qNil))) (mCall n__law_lead m__law_lead (mACons (m2 true pIx (m2 true pIx (mVar 0) (mC (nI 1))) (mVar 5)) (mACons (mVar 2) (mACons (mVar 6) mANil))))) (mPar 3 4 true true (mACons (m2 false pAdd (mVar 3) (mVar 7)) (mACons (m2 false pAdd (mVar 4) (mLst (mACons (mVar 2) mANil))) mANil))))) (mRet (mTup (mACons (mFrz (mVar 3)) (mACons (mFrz (mVar 4)) mANil)))))))
abbrev s__law_is_true : Stmt := topS 61
abbrev nm__law_is_true : List Str := ["rows", "row"]
abbrev n__law_is_true : Nat := 2
def ow__law_is_true : Nat → Bool := fun i => [0].contains i
def m__law_is_true : MS := (mRet (m2 true pEqT (mN true pLen (mACons (mN false pDictP (mACons (mLc (mSq (mVar 0)) (qN 1 false) mYes (mTup (mACons (mVar 1) (mACons (mC (nI 0)) mANil))) [1]) mANil)) mANil)) (mN true pLen (mACons (mVar 0) mANil))))
abbrev s__law_near : Stmt := topS 62
abbrev nm__law_near : List Str := ["pot", "method", "word", "bells", "changes", "calls", "at", "way", "late"]
abbrev n__law_near : Nat := 9
def ow__law_near : Nat → Bool := fun i => [0, 8].contains i
def m__law_near : MS := (mSeq (mSet (qTup 4 (qCons (qN 2 false) (qCons (qN 3 false) (qCons (qN 4 false) (qCons (qN 5 false) qNil))))) (mVar 1)) (mSeq (mPar3 6 7 8 false false true (mACons (mCallP n__law_draw m__law_draw (mACons (mVar 0) (mACons (mN true pLen (mACons (mVar 4) mANil)) mANil))) (mACons (mCallP n__law_draw m__law_draw (mACons (mVar 0) (mACons (mC (nI 4)) mANil))) (mACons (mN true pLst (mACons (mVar 4) mANil)) mANil)))) (mSeq (mIfS (mAndT (mTst (m2 true pEqT (mVar 7) (mC (nI 0)))) (mTst (m2 true pLt (m2 false pAdd (mVar 6) (mC (nI 2))) (mN true pLen (mACons (mVar 8) mANil))))) (mSet (qTup 2 (qCons (qSub (mVar 8) (mVar 6)) (qCons (qSub (mVar 8) (m2 false pAdd (mVar 6) (mC (nI 1)))) qNil))) (mTup (mACons (m2 true pIx (mVar 8) (m2 false pAdd (mVar 6) (mC (nI 1)))) (mACons (m2 true pIx (mVar 8) (mVar 6)) mANil)))) mNext) (mSeq (mIfS (mTst (m2 true pEqT (mVar 7) (mC (nI 1)))) (mSet (qN 8 true) (m2 false pAdd (mRev (mCut (mVar 8) mNo (mSo (m1 true pNeg (mC (nI 1)))))) (mCut (mVar 8) (mSo (m1 true pNeg (mC (nI 1)))) mNo))) mNext) (mSeq (mIfS (mTst (m2 true pEqT (mVar 7) (mC (nI 2)))) (mRet (mTup (mACons (mVar 2) (mACons (mVar 3) (mACons (m2 false pMulT (mN true pTup (mACons (mVar 8) mANil)) (mIf (mTst (m2 true pLt (mN true pLen (mACons (mVar 8) mANil)) (mC (nI 4)))) (mC (nI 2)) (mC (nI 1)))) (mACons (mVar 5) mANil)))))) mNext) (mRet (mTup (mACons (mVar 2) (mACons (mVar 3) (mACons (mN true pTup (mACons (mVar 8) mANil)) (mACons (mVar 5) mANil)))))))))))
abbrev s__law_right : Stmt := topS 63
abbrev nm__law_right : List Str := ["pot", "bells", "splice", "touch", "rounds", "shown", "number", "one", "call", "turns", "due", "at", "own", "late", "told", "other", "rows", "always"]
abbrev n__law_right : Nat := 18
def ow__law_right : Nat → Bool := fun i => [0, 3, 9, 10, 13, 14, 16].contains i
def m__law_right : MS := (mSeq (mSet (qN 2 false) (mCallP n__law_splice m__law_splice (mACons (mVar 0) (mACons (mVar 1) (mACons (mC (nI 2)) (mACons (mC (nI 5)) mANil)))))) (mSeq (mSet (qN 2 false) (mTup (mACons (mC (.str "splice")) (mACons (m2 false pAdd (m2 false pAdd (m2 true pIx (mVar 2) (mC (nI 1))) (mTup (mACons (mCallP n__law_near m__law_near (mACons (mVar 0) (mACons (m2 true pIx (m2 true pIx (mVar 2) (mC (nI 1))) (mC (nI 0))) mANil))) mANil))) (mCut (m2 true pIx (mVar 2) (mC (nI 1))) mNo (mSo (mC (nI 1))))) mANil)))) (mSeq (mParT [(3, true), (4, false)] (mACons (mCallP n__law_touch m__law_touch (mACons (mVar 0) (mACons (mVar 2) (mACons (mIf (mTst (m2 true pEqT (mCallP n__law_draw m__law_draw (mACons (mVar 0) (mACons (mC (nI 2)) mANil))) (mC (nI 0)))) (mC (nI 8)) (mC (nI 3))) mANil)))) (mACons (mRgT (mG1 (mVar 1))) mANil))) (mSeq (mPar 5 6 false false (mACons (mShowL (mACons (mVar 2) (mACons (mVar 3) mANil))) (mACons (mCallP n__law_draw m__law_draw (mACons (mVar 0) (mACons (mN true pLen (mACons (m2 true pIx (mVar 2) (mC (nI 1))) mANil)) mANil))) mANil))) (mSeq (mSet (qN 9 true) (mLc (mSq (m2 true pIx (mVar 2) (mC (nI 1)))) (qN 7 false) mYes (mFrz (mLc (mRgI (mG1 (m2 false pAdd (mN true pLen (mACons (m2 true pIx (mVar 7) (mC (nI 3))) mANil)) (mC (nI 1))))) (qN 8 false) mYes (m2 true pIx (mCall n__law_lead m__law_lead (mACons (mVar 7) (mACons (mVar 4) (mACons (mVar 8) mANil)))) (mC (nI 1))) [8])) [7])) (mSeq (mSet (qN 10 true) (mLst mANil)) (mSeq (mFor (mEnum (mFrz (mVar 3))) (qTup 2 (qCons (qN 11 false) (qCons (qTup 2 (qCons (qN 12 false) (qCons (qN 8 false) qNil))) qNil))) (mSeq (mSet (qN 13 true) (m2 false pAdd (m2 false pAdd (mCut (mVar 3) mNo (mSo (mVar 11))) (mLst (mACons (mTup (mACons (mVar 6) (mACons (mVar 8) mANil))) mANil))) (mCut (mVar 3) (mSo (m2 false pAdd (mVar 11) (mC (nI 1)))) mNo))) (mIfS (mAndT (mTst (m2 true pLt (mVar 8) (mN true pLen (mACons (m2 true pIx (mVar 9) (mVar 6)) mANil)))) (mAndT (mTst (m2 true pEqT (m2 true pIx (m2 true pIx (mVar 9) (mVar 6)) (mVar 8)) (m2 true pIx (m2 true pIx (mVar 9) (mVar 12)) (mVar 8)))) (mTst (mCall n__law_is_true m__law_is_true (mACons (m2 true pIx (mCall n__law_rung m__law_rung (mACons (mVar 2) (mACons (mFrz (mVar 13)) mANil))) (mC (nI 0))) mANil))))) (mDrp (mMtL gApp (mVar 10) (mACons (mVar 11) mANil))) mNext))) (mSeq (mSet (qN 14 true) (mCall n_stand_ins m_stand_ins (mACons (mVar 2) (mACons (mFrz (mVar 3)) (mACons (mVar 6) mANil))))) (mSeq (mIfS (mTst (m2 true pNeT (mShowL (mACons (mVar 14) (mACons (mCallK [2, 1, 0] n_stand_ins m_stand_ins (mACons (mVar 6) (mACons (mN true pTup (mACons (mVar 3) mANil)) (mACons (mVar 2) mANil)))) mANil))) (mShowL (mACons (mVar 10) (mACons (mVar 10) mANil))))) (mRet (mC (.bool false))) mNext) (mSeq (mDrp (mMtL gApp (mVar 14) (mACons (mC .none) mANil))) (mSeq (mFor (mRgI (mG1 (mN true pLen (mACons (m2 true pIx (mVar 2) (mC (nI 1))) mANil)))) (qN 7 false) (mFor (mRgI (mG1 (mN true pLen (mACons (m2 true pIx (mVar 2) (mC (nI 1))) mANil)))) (qN 15 false) (mSeq (mSet (qN 16 true) (mLc (mSq (mTup (mACons (mVar 7) (mACons (mVar 15) mANil)))) (qN 11 false) mYes (mFrz (mN false pSortA (mACons (m2 true pIx (mCall n__law_lead m__law_lead (mACons (m2 true pIx (m2 true pIx (mVar 2) (mC (nI 1))) (mVar 11)) (mACons (mVar 4) (mACons (mC (nI 0)) mANil)))) (mC (nI 0))) mANil))) [11])) (mSeq (mSet (qN 17 false) (mAndV (mTst (m2 true pEqT (m2 true pIx (mVar 9) (mVar 7)) (m2 true pIx (mVar 9) (mVar 15)))) (m2 true pEqT (m2 true pIx (mVar 16) (mC (nI 0))) (m2 true pIx (mVar 16) (mC (nI 1)))))) (mSeq (mIfS (mTst (m2 true pNeT (mShowL (mACons (mCall n_may_always m_may_always (mACons (mVar 2) (mACons (mVar 7) (mACons (mVar 15) mANil)))) (mACons (mCallK [2, 1, 0] n_may_always m_may_always (mACons (mVar 15) (mACons (mVar 7) (mACons (mVar 2) mANil)))) mANil))) (mShowL (mACons (mVar 17) (mACons (mVar 17) mANil))))) (mRet (mC (.bool false))) mNext) (mIfS (mTst (mVar 17)) (mSeq (mSet (qN 13 true) (mLc (mSq (mFrz (mVar 3))) (qTup 2 (qCons (qN 12 false) (qCons (qN 8 false) qNil))) mYes (mIf (mAndT (mTst (m2 true pEqT (mVar 12) (mVar 15))) (mTst (m2 true pEqT (mCallP n__law_draw m__law_draw (mACons (mVar 0) (mACons (mC (nI 2)) mANil))) (mC (nI 0))))) (mTup (mACons (mVar 7) (mACons (mVar 8) mANil))) (mTup (mACons (mVar 12) (mACons (mVar 8) mANil)))) [12, 8])) (mIfS (mTst (m2 true pNeT (mCall n_is_spliced_true m_is_spliced_true (mACons (mVar 2) (mACons (mFrz (mVar 13)) mANil))) (mCall n_is_spliced_true m_is_spliced_true (mACons (mVar 2) (mACons (mFrz (mVar 3)) mANil))))) (mRet (mC (.bool false))) mNext)) mNext)))))) (mRet (m2 true pEqT (mShowL (mACons (mVar 2) (mACons (mVar 3) mANil))) (mVar 5))))))))))))))
abbrev s_law : Stmt := topS 64
abbrev nm_law : List Str := ["script", "pot", "late"]
abbrev n_law : Nat := 3
def ow_law : Nat → Bool := fun i => [0, 1, 2].contains i
def m_law : MS := (mSeq (mPar 1 2 true true (mACons (mCall n__law_pot m__law_pot (mACons (mVar 0) (mACons (mC (nI 0)) mANil))) (mACons (mCall n__law_pot m__law_pot (mACons (mVar 0) (mACons (mC (nI 1)) mANil))) mANil))) (mRet (mAndV (mTst (mCallP n__law_right m__law_right (mACons (mVar 1) (mACons (m2 false pAdd (mC (nI 3)) (mCallP n__law_draw m__law_draw (mACons (mVar 1) (mACons (mC (nI 2)) mANil)))) mANil)))) (mCallP n__law_right m__law_right (mACons (mVar 2) (mACons (m2 false pAdd (mC (nI 4)) (mCallP n__law_draw m__law_draw (mACons (mVar 2) (mACons (mC (nI 2)) mANil)))) mANil))))))
end Pwk85

set_option Elab.async false
set_option linter.all false
set_option maxRecDepth 100000
set_option maxHeartbeats 4000000
/-! what the program's defs answer: rows, changes -/
namespace Pwk85
open PySem PySem.Spec PyProof.Rows L2 Pw
theorem rn_of {m : MS} {n : Nat} {rs : List R} {r : R} (h : ((m (env0 n rs)).fin.map (·.1)) = some r) : rn m n rs = some r := h
theorem r_times {r s : List Nat} (h : ∀ x ∈ s, x < r.length) (hl : s.length ≤ 16777216) : rn m_times 3 [.d (rE r), .d (rE s)] = some (.d (rE (tms r s))) := by
  refine rn_of ?_
  simp [-List.map_map, -List.map_append, m_times, env0]
  rw [lc_mp nI (nth r)]
  · simp [-List.map_map, -List.map_append, tms]
  · intro a m
    have := h a m
    simp [-List.map_map, -List.map_append, this]
  · exact hl
theorem r_timesR {b : Nat} {r s : List Nat} (h : Row b r) (k : Row b s) (hb : b ≤ 6) : rn m_times 3 [.d (rE r), .d (rE s)] = some (.d (rE (tms r s))) :=
  r_times (k.ltl h) (by rw [k.len]; omega)
theorem r_is_tuple {xs : List D} {k : Nat} : rn m_is_tuple 2 [.d (.tuple xs), .d (nI k)] = some (.d (.bool (decide (xs.length = k)))) := by
  refine rn_of ?_
  simp [-List.map_map, -List.map_append, m_is_tuple, env0]
theorem r_is_within {a b c : Nat} : rn m_is_within 3 [.d (nI a), .d (nI b), .d (nI c)] = some (.d (.bool (decide (b ≤ a) && decide (a ≤ c)))) := by
  refine rn_of ?_
  have z : rn m_is_integer 1 [.d (nI a)] = some (.d (.bool true)) := rfl
  simp [-List.map_map, -List.map_append, m_is_within, env0, z]
theorem r_rounds {n : Nat} (h : n ≤ 1000000) : rn m_rounds_of 1 [.d (nI n)] = some (.d (rE (List.range n))) := by
  refine rn_of ?_
  simp [-List.map_map, -List.map_append, m_rounds_of, env0, h]
theorem r_change_row {b : Nat} {c : List Nat} (h : c ∈ evB b) : rn m_change_row 4 [.d (nI b), .d (rE c)] = some (.d (rE (chR b c))) := by
  rcases ev_bells h with rfl | rfl | rfl | rfl
  all_goals
    simp only [evB, List.mem_cons, List.not_mem_nil, or_false] at h
  · rcases h with rfl | rfl <;> rfl
  · rcases h with rfl | rfl | rfl | rfl <;> rfl
  · rcases h with rfl | rfl | rfl | rfl | rfl | rfl | rfl <;> rfl
  · rcases h with rfl | rfl | rfl | rfl | rfl | rfl | rfl | rfl | rfl | rfl | rfl | rfl <;> rfl
theorem r_is_change {b : Nat} {c : List Nat} (h : c ∈ evB b) : rn m_is_change_of 2 [.d (nI b), .d (rE c)] = some (.d (.bool true)) := by
  rcases ev_bells h with rfl | rfl | rfl | rfl
  all_goals
    simp only [evB, List.mem_cons, List.not_mem_nil, or_false] at h
  · rcases h with rfl | rfl <;> rfl
  · rcases h with rfl | rfl | rfl | rfl <;> rfl
  · rcases h with rfl | rfl | rfl | rfl | rfl | rfl | rfl <;> rfl
  · rcases h with rfl | rfl | rfl | rfl | rfl | rfl | rfl | rfl | rfl | rfl | rfl | rfl <;> rfl
theorem r_is_bells {b : Nat} (h : b = 3 ∨ b = 4 ∨ b = 5 ∨ b = 6) : rn m_is_bells 1 [.d (nI b)] = some (.d (.bool true)) := by
  rcases h with rfl | rfl | rfl | rfl <;> rfl
theorem r_inverse {b : Nat} {r : List Nat} (h : Row b r) (hb : b ≤ 6) : rn m_inverse_of 4 [.d (rE r)] = some (.d (rE (inv r))) := by
  have hl := h.len
  obtain ⟨e', g, F, s2, s3, rfl, hF, hv⟩ := for_rg (f := fun i => PyData.tuple [nI i, nI (nth r i)]) (q := qTup 2 (qCons (qN 2 false) (qCons (qN 3 false) qNil))) (b := mSet (qSub (mVar 1) (mVar 3)) (mVar 2)) (n := b)
    (e0 := [some (.d (rE r)), some (.ol (List.replicate b (nI 0))), none, none])
    (fun k e => ∃ (F : List Nat) (s2 s3 : Option D), e = [some (.d (rE r)), some (.ol (F.map nI)), sD s2, sD s3] ∧ F.length = b ∧ ∀ j, j < k → nth F (nth r j) = j)
    ⟨List.replicate b 0, none, none, by simp [-List.map_map, -List.map_append], by simp [-List.map_map, -List.map_append], fun j hj => by omega⟩ (by
      rintro k _ hk ⟨F, s2, s3, rfl, hF, hv⟩
      have hn := h.nthlt hk
      refine ⟨_, ?_, F.set (nth r k) k, some (nI k), some (nI (nth r k)), rfl, by simpa [-List.map_map, -List.map_append] using hF, fun j hj => ?_⟩
      · simp [-List.map_map, -List.map_append, hF, hn]
      · by_cases c : j = k
        · subst c
          rw [nth_set_self (by omega)]
        · rw [nth_set_ne, hv j (by omega)]
          exact fun e => c (nth_inj h.nd (by omega) (by omega) e).symm)
  have hz : F = inv r := nth_ext (by rw [hF, h.inv.len]) fun v hv2 => by
    rw [hF] at hv2
    have z := hv _ (h.idx hv2).1
    rw [(h.idx hv2).2] at z
    rw [z, h.nth_inv hv2]
  refine rn_of ?_
  simp [-List.map_map, -List.map_append, m_inverse_of, env0, hl, pMul_list (xs := [nI 0]) (n := b) (by simp [-List.map_map, -List.map_append]; omega) (by omega), numD_map, g, hz]
theorem r_is_method {b : Nat} {m : Mth} (k : m.Ok b) : rn m_is_method_any 6 [.d (mE m)] = some (.d (.bool true)) := by
  have hm := k.ml
  have hc := k.cl
  have hp := List.length_pos_iff.mpr k.ne
  have hb := r_is_bells k.bs
  have hr : ∀ c ∈ m.ch ++ m.ca, rn m_is_change_of 2 [.d (nI b), .d (rE c)] = some (.d (.bool true)) := fun c hcm => r_is_change ((List.mem_append.mp hcm).elim (k.ev c) (k.ec c))
  have hs : m.ch.length + m.ca.length ≤ 16777216 := by omega
  have hs2 : m.ca.length + 1 ≤ 16777216 := by omega
  have hs3 : m.ca.length + 1 < 64 := by omega
  have hn : (ddG (m.ca ++ [lastR m.ch])).length = m.ca.length + 1 := by rw [ddG_len_iff.mpr k.nd]; simp [-List.map_map, -List.map_append]
  refine rn_of ?_
  simp [-List.map_map, -List.map_append, m_is_method_any, env0, r_is_tuple, k.bl, hb, hm, Nat.not_lt.mpr hc, k.ne, hs, ← List.map_append]
  rw [lc_mp PyData.bool (fun _ => true) (fun c hc => by simp [-List.map_map, -List.map_append, hr c hc]) (by simpa [-List.map_map, -List.map_append] using hs)]
  simp [-List.map_map, -List.map_append, hs2, hs3, hn, k.last_cut, map_snoc, ← List.map_append]
theorem r_is_splice {b : Nat} {ms : List Mth} (k : ∀ m ∈ ms, m.Ok b) (h1 : ms ≠ []) (h4 : ms.length ≤ 4) : rn m_is_splice_any 2 [.d (sE ms)] = some (.d (.bool true)) := by
  have hp := List.length_pos_iff.mpr h1
  have hk : ∀ m ∈ ms, rn m_is_method_any 6 [.d (mE m)] = some (.d (.bool true)) := fun m h => r_is_method (k m h)
  have hd : (ddG (ms.map fun m => m.b)).length = 1 := by
    obtain ⟨m, hm⟩ := List.exists_mem_of_ne_nil ms h1
    refine ((ddG_perm (k := [b]) (by simp [-List.map_map, -List.map_append]) fun y => ?_).length_eq).symm
    rw [List.mem_singleton, List.mem_map]
    exact ⟨fun e => ⟨m, hm, by rw [(k m hm).bl, e]⟩, fun ⟨x, hx, e⟩ => by rw [← e, (k x hx).bl]⟩
  refine rn_of ?_
  simp [-List.map_map, -List.map_append, m_is_splice_any, env0, r_is_tuple, hp, h1, h4]
  rw [lc_mp PyData.bool (fun _ => true) (fun c hc => by simp [-List.map_map, -List.map_append, hk c hc]) (by omega)]
  simp [-List.map_map, -List.map_append]
  rw [lc_mp nI (fun m => m.b) (fun c hc => by simp [-List.map_map, -List.map_append]) (by omega)]
  simp [-List.map_map, -List.map_append, hd, show ms.length < 1000 by omega]
theorem r_want_splice {b : Nat} {ms : List Mth} (k : ∀ m ∈ ms, m.Ok b) (h1 : ms ≠ []) (h4 : ms.length ≤ 4) : rn m_want_splice 1 [.d (sE ms)] = some (.d .none) := by
  refine rn_of ?_
  simp [-List.map_map, -List.map_append, m_want_splice, env0, r_is_splice k h1 h4]
theorem r_want_number {ms : List Mth} {n : Nat} (h : n < ms.length) : rn m_want_number 2 [.d (sE ms), .d (nI n)] = some (.d .none) := by
  refine rn_of ?_
  simp [-List.map_map, -List.map_append, m_want_number, env0, r_is_within, show 1 ≤ ms.length by omega, show n ≤ ms.length - 1 by omega]
theorem r_is_lead {ms : List Mth} {p : Nat × Nat} (h : LeadOk ms p) : rn m_is_lead_any 2 [.d (sE ms), .d (tcE p)] = some (.d (.bool true)) := by
  obtain ⟨h1, h2⟩ := h
  refine rn_of ?_
  simp [-List.map_map, -List.map_append, m_is_lead_any, env0, r_is_tuple, r_is_within, h1, h2, show 1 ≤ ms.length by omega, show p.1 ≤ ms.length - 1 by omega]
theorem r_is_spliced {ms : List Mth} {t : List (Nat × Nat)} {x : D} (hx : x = .list (t.map tcE) ∨ x = .tuple (t.map tcE)) (h : ∀ p ∈ t, LeadOk ms p) (hl : t.length ≤ 800) : rn m_is_spliced_any 3 [.d (sE ms), .d x] = some (.d (.bool true)) := by
  have hz : rn m_is_list 1 [.d x] = some (.d (.bool true)) := by
    refine rn_of ?_
    rcases hx with rfl | rfl <;> simp [-List.map_map, -List.map_append, m_is_list, env0]
  refine rn_of ?_
  rcases hx with rfl | rfl
  all_goals
    simp [-List.map_map, -List.map_append, m_is_spliced_any, env0, hz, hl]
    rw [lc_mp PyData.bool (fun _ => true) (fun c hc => by simp [-List.map_map, -List.map_append, r_is_lead (h c hc)]) (by omega)]
    simp [-List.map_map, -List.map_append]
theorem r_want_spliced {b : Nat} {ms : List Mth} (k : ∀ m ∈ ms, m.Ok b) (h1 : ms ≠ []) (h4 : ms.length ≤ 4) {t : List (Nat × Nat)} {x : D} (hx : x = .list (t.map tcE) ∨ x = .tuple (t.map tcE)) (h : ∀ p ∈ t, LeadOk ms p) (hl : t.length ≤ 800) :
    rn m_want_spliced 2 [.d (sE ms), .d x] = some (.d .none) := by
  refine rn_of ?_
  simp [-List.map_map, -List.map_append, m_want_spliced, env0, r_want_splice k h1 h4, r_is_spliced hx h hl]
end Pwk85

set_option Elab.async false
set_option linter.all false
set_option maxRecDepth 100000
set_option maxHeartbeats 4000000
/-! what the program's defs answer: leads, heads, truth -/
namespace Pwk85
open PySem PySem.Spec PyProof.Rows L2 Pw
theorem r_lead {b : Nat} {m : Mth} (k : m.Ok b) : rn m_lead_of 3 [.d (mE m)] = some (.ol (m.lead.map rE)) := by
  have hb := k.le6
  have hml := k.ml
  obtain ⟨e', g, s2, rfl⟩ := for_ex (f := rE) (xs := m.ch.dropLast) (q := qN 2 false)
    (b := mDrp (mMtL gApp (mVar 1) (mACons (mCall n_times m_times (mACons (m2 true pIx (mVar 1) (m1 true pNeg (mC (nI 1)))) (mACons (mCall n_change_row m_change_row (mACons (m2 true pIx (mVar 0) (mC (nI 1))) (mACons (mVar 2) mANil))) mANil))) mANil)))
    (e0 := [some (.d (mE m)), some (.ol [rE (List.range b)]), none])
    (fun done e => ∃ s2 : Option D, e = [some (.d (mE m)), some (.ol ((lds b (List.range b) done).map rE)), sD s2]) ⟨none, rfl⟩ (by
      rintro done c rest _ hx ⟨s2, rfl⟩
      have hc : c ∈ evB b := k.drop c (by rw [← hx]; simp [-List.map_map, -List.map_append, -List.map_dropLast, -List.map_take, -List.map_drop, -List.map_reverse])
      have hd : ∀ c ∈ done, c ∈ evB b := fun c h => k.drop c (by rw [← hx]; simp [-List.map_map, -List.map_append, -List.map_dropLast, -List.map_take, -List.map_drop, -List.map_reverse, h])
      have hl : done.length < 40 := by
        have := congrArg List.length hx
        simp [-List.map_map, -List.map_append, -List.map_dropLast, -List.map_take, -List.map_drop, -List.map_reverse] at this
        omega
      refine ⟨_, ?_, some (rE c), rfl⟩
      simp [-List.map_map, -List.map_append, -List.map_dropLast, -List.map_take, -List.map_drop, -List.map_reverse, k.bl, pIx_last lds_last?, r_change_row hc, r_timesR (lnd_row (row_range b) hd) (ev_row hc) hb, lds_len, show done.length + 1 < 16777216 by omega, lds_snoc, map_snoc])
  refine rn_of ?_
  simp [-List.map_map, -List.map_append, -List.map_dropLast, -List.map_take, -List.map_drop, -List.map_reverse, m_lead_of, env0, k.bl, r_rounds (n := b) (by omega), g, Mth.lead]
theorem r_turns {b : Nat} {m : Mth} (k : m.Ok b) : rn m_turns_of 3 [.d (mE m)] = some (.d (.tuple (m.turns.map rE))) := by
  have hb := k.le6
  have hc := k.cl
  have hla : m.lead.getLast? = some (lnd m.b (List.range m.b) m.ch.dropLast) := lds_last?
  have hr := k.endr
  have he : rE (lastR m.ch) :: m.ca.map rE = m.ends.map rE := rfl
  refine rn_of ?_
  simp [-List.map_map, -List.map_append, -List.map_dropLast, -List.map_take, -List.map_drop, -List.map_reverse, m_turns_of, env0, r_lead k, pIx_last hla, k.last_cut, show 1 + m.ca.length ≤ 16777216 by omega, he]
  rw [lc_mp rE m.turn (fun c hcm => by
    have hc2 := k.ends c hcm
    rw [← k.bl] at hc2
    rw [← k.bl] at hr
    simp [-List.map_map, -List.map_append, -List.map_dropLast, -List.map_take, -List.map_drop, -List.map_reverse, r_change_row hc2, r_timesR hr (ev_row hc2) (by rw [k.bl]; exact hb)]
    rfl) (by simp [-List.map_map, -List.map_append, -List.map_dropLast, -List.map_take, -List.map_drop, -List.map_reverse]; omega)]
  simp [-List.map_map, -List.map_append, -List.map_dropLast, -List.map_take, -List.map_drop, -List.map_reverse, Mth.turns]
abbrev tsE : List (List Nat) → D := tE rE
theorem r_all_turns {b : Nat} {ms : List Mth} (k : ∀ m ∈ ms, m.Ok b) (h4 : ms.length ≤ 4) : rn m_all_turns_of 2 [.d (sE ms)] = some (.ol ((ms.map Mth.turns).map tsE)) := by
  refine rn_of ?_
  simp [-List.map_map, -List.map_append, -List.map_dropLast, -List.map_take, -List.map_drop, -List.map_reverse, m_all_turns_of, env0]
  rw [lc_mp tsE Mth.turns (fun m hm => by simp [-List.map_map, -List.map_append, -List.map_dropLast, -List.map_take, -List.map_drop, -List.map_reverse, r_turns (k m hm)]) (by omega)]
  simp [-List.map_map, -List.map_append, -List.map_dropLast, -List.map_take, -List.map_drop, -List.map_reverse]
theorem r_heads {b : Nat} {ms : List Mth} (k : ∀ m ∈ ms, m.Ok b) (h1 : ms ≠ []) (h4 : ms.length ≤ 4) {t : List (Nat × Nat)} {x : D} (hx : x = .list (t.map tcE) ∨ x = .tuple (t.map tcE)) (ht : ∀ p ∈ t, LeadOk ms p) (hl : t.length ≤ 800) :
    rn m_spliced_heads_of 6 [.d (sE ms), .d x] = some (.ol ((hds ms (List.range b) t).map rE)) := by
  have hp := List.length_pos_iff.mpr h1
  have h0 := k _ (nth_mem hp)
  have hb := h0.le6
  obtain ⟨e', g, s4, s5, rfl⟩ := for_ex (f := tcE) (xs := t) (q := qTup 2 (qCons (qN 4 false) (qCons (qN 5 false) qNil)))
    (b := mDrp (mMtL gApp (mVar 3) (mACons (mCall n_times m_times (mACons (m2 true pIx (mVar 3) (m1 true pNeg (mC (nI 1)))) (mACons (m2 true pIx (m2 true pIx (mVar 2) (mVar 4)) (mVar 5)) mANil))) mANil)))
    (e0 := [some (.d (sE ms)), some (.d x), some (.ol ((ms.map Mth.turns).map tsE)), some (.ol [rE (List.range b)]), none, none])
    (fun done e => ∃ s4 s5 : Option D, e = [some (.d (sE ms)), some (.d x), some (.ol ((ms.map Mth.turns).map tsE)), some (.ol ((hds ms (List.range b) done).map rE)), sD s4, sD s5]) ⟨none, none, rfl⟩ (by
      rintro done p rest _ hx ⟨s4, s5, rfl⟩
      have hpo : LeadOk ms p := ht p (by rw [← hx]; simp [-List.map_map, -List.map_append, -List.map_dropLast, -List.map_take, -List.map_drop, -List.map_reverse])
      have hd : ∀ c ∈ done, LeadOk ms c := fun c h => ht c (by rw [← hx]; simp [-List.map_map, -List.map_append, -List.map_dropLast, -List.map_take, -List.map_drop, -List.map_reverse, h])
      have hl2 : done.length < 800 := by
        have := congrArg List.length hx
        simp [-List.map_map, -List.map_append, -List.map_dropLast, -List.map_take, -List.map_drop, -List.map_reverse] at this
        omega
      have hq : p.2 < (nth ms p.1).ca.length + 1 := by have := hpo.2; omega
      refine ⟨_, ?_, some (nI p.1), some (nI p.2), rfl⟩
      have hz := r_timesR (hnd_row k (row_range b) hd) (hpo.row k) hb
      unfold turnAt at hz
      simp [-List.map_map, -List.map_append, -List.map_dropLast, -List.map_take, -List.map_drop, -List.map_reverse, pIx_last hds_last?, hpo.1, hq, hz, hds_len, show done.length + 1 < 16777216 by omega, hds_snoc, map_snoc, turnAt])
  refine rn_of ?_
  rcases hx with rfl | rfl <;> simp [-List.map_map, -List.map_append, -List.map_dropLast, -List.map_take, -List.map_drop, -List.map_reverse, m_spliced_heads_of, env0, r_all_turns k h4, hp, h0.bl, r_rounds (n := b) (by omega), g]
theorem r_is_lead_true {b : Nat} {m : Mth} (k : m.Ok b) : rn m_is_lead_true 2 [.d (mE m)] = some (.d (.bool (decide m.lead.Nodup))) := by
  have hml := k.ml
  refine rn_of ?_
  simp [-List.map_map, -List.map_append, -List.map_dropLast, -List.map_take, -List.map_drop, -List.map_reverse, m_is_lead_true, env0, r_lead k, k.lead_len, show m.ch.length < 64 by omega]
  rw [← k.lead_len, ddG_len_iff]
end Pwk85

set_option Elab.async false
set_option linter.all false
set_option maxRecDepth 100000
set_option maxHeartbeats 4000000
/-! what the program's defs answer: false heads, truth -/
namespace Pwk85
open PySem PySem.Spec PyProof.Rows L2 Pw
theorem r_between {b : Nat} {m o : Mth} (k : m.Ok b) (ko : o.Ok b) : ∃ L, Btw m o L ∧ rn m_between_of 5 [.d (mE m), .d (mE o)] = some (oR L) := by
  have hb := k.le6
  have hm := k.ml
  have ho := ko.ml
  have l1 := k.lead_len
  have l2 := ko.lead_len
  obtain ⟨e', g, L, s3, s4, rfl, hL, hv⟩ := for_ex (f := rE) (xs := m.lead) (q := qN 3 false)
    (b := mFor (mSq (mFrz (mCall n_lead_of m_lead_of (mACons (mVar 1) mANil)))) (qN 4 false) (mSet (qSub (mVar 2) (mCall n_times m_times (mACons (mVar 4) (mACons (mCall n_inverse_of m_inverse_of (mACons (mVar 3) mANil)) mANil)))) (mC (.bool true))))
    (e0 := [some (.d (mE m)), some (.d (mE o)), some (.oT []), none, none])
    (fun done e => ∃ (L : List (List Nat × D)) (s3 s4 : Option D), e = [some (.d (mE m)), some (.d (mE o)), some (oR L), sD s3, sD s4] ∧ L.length ≤ done.length * 40 ∧
      ∀ r, (valD L r).isSome = true ↔ ∃ x ∈ done, ∃ y ∈ o.lead, r = tms y (inv x))
    ⟨[], none, none, rfl, by simp [-List.map_map, -List.map_append, -List.map_dropLast, -List.map_take, -List.map_drop, -List.map_reverse], fun r => by simp [-List.map_map, -List.map_append, -List.map_dropLast, -List.map_take, -List.map_drop, -List.map_reverse]⟩ (by
      rintro done x rest _ hx ⟨L, s3, s4, rfl, hL, hv⟩
      have hxr : Row b x := k.lead x (by rw [← hx]; simp [-List.map_map, -List.map_append, -List.map_dropLast, -List.map_take, -List.map_drop, -List.map_reverse])
      have hdl : done.length < 40 := by
        have := congrArg List.length hx
        simp [-List.map_map, -List.map_append, -List.map_dropLast, -List.map_take, -List.map_drop, -List.map_reverse] at this
        omega
      obtain ⟨e2, g2, L2, s4', rfl, hL2, hv2⟩ := for_ex (f := rE) (xs := o.lead) (q := qN 4 false)
        (b := mSet (qSub (mVar 2) (mCall n_times m_times (mACons (mVar 4) (mACons (mCall n_inverse_of m_inverse_of (mACons (mVar 3) mANil)) mANil)))) (mC (.bool true)))
        (e0 := [some (.d (mE m)), some (.d (mE o)), some (oR L), some (.d (rE x)), sD s4])
        (fun dn e => ∃ (L2 : List (List Nat × D)) (s4 : Option D), e = [some (.d (mE m)), some (.d (mE o)), some (oR L2), some (.d (rE x)), sD s4] ∧ L2.length ≤ L.length + dn.length ∧
          ∀ r, (valD L2 r).isSome = true ↔ (valD L r).isSome = true ∨ ∃ y ∈ dn, r = tms y (inv x))
        ⟨L, s4, rfl, by simp [-List.map_map, -List.map_append, -List.map_dropLast, -List.map_take, -List.map_drop, -List.map_reverse], fun r => by simp [-List.map_map, -List.map_append, -List.map_dropLast, -List.map_take, -List.map_drop, -List.map_reverse]⟩ (by
          rintro dn y rs _ hy ⟨L2, s4, rfl, hL2, hv2⟩
          have hyr : Row b y := ko.lead y (by rw [← hy]; simp [-List.map_map, -List.map_append, -List.map_dropLast, -List.map_take, -List.map_drop, -List.map_reverse])
          have hdn : dn.length < 40 := by
            have := congrArg List.length hy
            simp [-List.map_map, -List.map_append, -List.map_dropLast, -List.map_take, -List.map_drop, -List.map_reverse] at this
            omega
          refine ⟨_, ?_, putD L2 (tms y (inv x)) (.bool true), some (rE y), rfl, ?_, fun r => ?_⟩
          · simp [-List.map_map, -List.map_append, -List.map_dropLast, -List.map_take, -List.map_drop, -List.map_reverse, r_inverse hxr hb, r_timesR hyr hxr.inv hb, put_oR (L := L2) (r := tms y (inv x)) (x := .bool true) (by omega)]
          · have := putD_len L2 (tms y (inv x)) (.bool true)
            simp [-List.map_map, -List.map_append, -List.map_dropLast, -List.map_take, -List.map_drop, -List.map_reverse]
            omega
          · rw [valD_put]
            by_cases c : r = tms y (inv x)
            · rw [if_pos c]
              simp [-List.map_map, -List.map_append, -List.map_dropLast, -List.map_take, -List.map_drop, -List.map_reverse, c]
            · rw [if_neg c, hv2]
              simp [-List.map_map, -List.map_append, -List.map_dropLast, -List.map_take, -List.map_drop, -List.map_reverse, c])
      refine ⟨_, ?_, L2, some (rE x), s4', rfl, ?_, fun r => ?_⟩
      · simp [-List.map_map, -List.map_append, -List.map_dropLast, -List.map_take, -List.map_drop, -List.map_reverse, r_lead ko, g2]
      · simp [-List.map_map, -List.map_append, -List.map_dropLast, -List.map_take, -List.map_drop, -List.map_reverse]
        omega
      · rw [hv2, hv]
        constructor
        · rintro (⟨z, hz, w⟩ | ⟨y, hy, e⟩)
          · exact ⟨z, by simp [-List.map_map, -List.map_append, -List.map_dropLast, -List.map_take, -List.map_drop, -List.map_reverse, hz], w⟩
          · exact ⟨x, by simp [-List.map_map, -List.map_append, -List.map_dropLast, -List.map_take, -List.map_drop, -List.map_reverse], y, hy, e⟩
        · rintro ⟨z, hz, y, hy, e⟩
          rcases List.mem_append.mp hz with hz | hz
          · exact .inl ⟨z, hz, y, hy, e⟩
          · rw [List.mem_singleton] at hz
            exact .inr ⟨y, hy, hz ▸ e⟩)
  refine ⟨L, hv, rn_of ?_⟩
  simp [-List.map_map, -List.map_append, -List.map_dropLast, -List.map_take, -List.map_drop, -List.map_reverse, m_between_of, env0, r_lead k, g]
/-- what all_between answers -/
def Btws (ms : List Mth) (A : List (List Nat × D)) : Prop := ∀ i j, i < ms.length → j < ms.length → ∃ L, valD A [i, j] = some (dR L) ∧ Btw (nth ms i) (nth ms j) L
theorem r_all_between {b : Nat} {ms : List Mth} (k : ∀ m ∈ ms, m.Ok b) (h4 : ms.length ≤ 4) : ∃ A, Btws ms A ∧ rn m_all_between 6 [.d (sE ms)] = some (oR A) := by
  obtain ⟨e', g, A, s2, s3, s4, s5, rfl, hL, hv⟩ := for_rg (f := fun i => PyData.tuple [nI i, mE (nth ms i)]) (n := ms.length) (q := qTup 2 (qCons (qN 2 false) (qCons (qN 3 false) qNil)))
    (b := mFor (mEnum (m2 true pIx (mVar 0) (mC (nI 1)))) (qTup 2 (qCons (qN 4 false) (qCons (qN 5 false) qNil))) (mSet (qSub (mVar 1) (mTup (mACons (mVar 2) (mACons (mVar 4) mANil)))) (mFrz (mCall n_between_of m_between_of (mACons (mVar 3) (mACons (mVar 5) mANil))))))
    (e0 := [some (.d (sE ms)), some (.oT []), none, none, none, none])
    (fun i e => ∃ (A : List (List Nat × D)) (s2 s3 s4 s5 : Option D), e = [some (.d (sE ms)), some (oR A), sD s2, sD s3, sD s4, sD s5] ∧ A.length ≤ i * 4 ∧
      ∀ i', i' < i → ∀ j, j < ms.length → ∃ L, valD A [i', j] = some (dR L) ∧ Btw (nth ms i') (nth ms j) L)
    ⟨[], none, none, none, none, rfl, by simp [-List.map_map, -List.map_append, -List.map_dropLast, -List.map_take, -List.map_drop, -List.map_reverse], fun i' hi => by omega⟩ (by
      rintro i _ hi ⟨A, s2, s3, s4, s5, rfl, hA, hv⟩
      have ki := k _ (nth_mem hi)
      obtain ⟨e2, g2, A2, s4', s5', rfl, hA2, hv2, hw2⟩ := for_rg (f := fun i => PyData.tuple [nI i, mE (nth ms i)]) (n := ms.length) (q := qTup 2 (qCons (qN 4 false) (qCons (qN 5 false) qNil)))
        (b := mSet (qSub (mVar 1) (mTup (mACons (mVar 2) (mACons (mVar 4) mANil)))) (mFrz (mCall n_between_of m_between_of (mACons (mVar 3) (mACons (mVar 5) mANil)))))
        (e0 := [some (.d (sE ms)), some (oR A), some (.d (nI i)), some (.d (mE (nth ms i))), sD s4, sD s5])
        (fun j e => ∃ (A2 : List (List Nat × D)) (s4 s5 : Option D), e = [some (.d (sE ms)), some (oR A2), some (.d (nI i)), some (.d (mE (nth ms i))), sD s4, sD s5] ∧ A2.length ≤ A.length + j ∧
          (∀ i', i' < i → ∀ j, j < ms.length → ∃ L, valD A2 [i', j] = some (dR L) ∧ Btw (nth ms i') (nth ms j) L) ∧ ∀ j', j' < j → ∃ L, valD A2 [i, j'] = some (dR L) ∧ Btw (nth ms i) (nth ms j') L)
        ⟨A, s4, s5, rfl, by simp [-List.map_map, -List.map_append, -List.map_dropLast, -List.map_take, -List.map_drop, -List.map_reverse], hv, fun j' h => by omega⟩ (by
          rintro j _ hj ⟨A2, s4, s5, rfl, hA2, hv2, hw2⟩
          obtain ⟨L, hL, hr⟩ := r_between ki (k _ (nth_mem hj))
          refine ⟨_, ?_, putD A2 [i, j] (dR L), some (nI j), some (mE (nth ms j)), rfl, ?_, fun i' hi' j' hj' => ?_, fun j' hj' => ?_⟩
          · have := put_oR2 (L := A2) (i := i) (j := j) (x := dR L) (by omega)
            simp [-List.map_map, -List.map_append, -List.map_dropLast, -List.map_take, -List.map_drop, -List.map_reverse, hr, fz_oR, this]
          · have := putD_len A2 [i, j] (dR L)
            omega
          · rw [valD_put, if_neg (by simp [-List.map_map, -List.map_append, -List.map_dropLast, -List.map_take, -List.map_drop, -List.map_reverse]; omega)]
            exact hv2 i' hi' j' hj'
          · rw [valD_put]
            by_cases c : j' = j
            · subst c
              rw [if_pos rfl]
              exact ⟨L, rfl, hL⟩
            · rw [if_neg (by simp [-List.map_map, -List.map_append, -List.map_dropLast, -List.map_take, -List.map_drop, -List.map_reverse, c])]
              exact hw2 j' (by omega))
      refine ⟨_, ?_, A2, some (nI i), some (mE (nth ms i)), s4', s5', rfl, ?_, fun i' hi' j hj => ?_⟩
      · simp [-List.map_map, -List.map_append, -List.map_dropLast, -List.map_take, -List.map_drop, -List.map_reverse, numD_map, g2]
      · omega
      · by_cases c : i' = i
        · subst c
          exact hw2 j hj
        · exact hv2 i' (by omega) j hj)
  refine ⟨A, fun i j hi hj => hv i hi j hj, rn_of ?_⟩
  simp [-List.map_map, -List.map_append, -List.map_dropLast, -List.map_take, -List.map_drop, -List.map_reverse, m_all_between, env0, numD_map, g]
/-- no earlier lead meets this one -/
def apart (ms : List Mth) (h : List Nat) (n : Nat) (hs : List (List Nat)) (ns : List Nat) : Bool := !((hs.zip ns).map fun p => meets ms p.1 p.2 h n).any id
theorem r_apart {b : Nat} {ms : List Mth} (k : ∀ m ∈ ms, m.Ok b) (hb : b ≤ 6) {A : List (List Nat × D)} (hA : Btws ms A) {h : List Nat} {n : Nat} {hs : List (List Nat)} {ns : List Nat} (hr : Row b h) (hn : n < ms.length) (hhs : ∀ x ∈ hs, Row b x) (hns : ∀ x ∈ ns, x < ms.length) (hl : hs.length ≤ 1000) :
    rn m_is_apart 8 [.d (dR A), .d (rE h), .d (nI n), .d (.list (hs.map rE)), .d (.list (ns.map nI))] = some (.d (.bool (apart ms h n hs ns))) := by
  refine rn_of ?_
  simp [-List.map_map, -List.map_append, -List.map_dropLast, -List.map_take, -List.map_drop, -List.map_reverse, m_is_apart, env0, r_inverse hr hb, zipD_map]
  rw [lc_mp PyData.bool (fun p : List Nat × Nat => meets ms p.1 p.2 h n) (fun p hp => by
    have h1 : p.1 ∈ hs := (List.of_mem_zip hp).1
    have h2 : p.2 ∈ ns := (List.of_mem_zip hp).2
    obtain ⟨L, hL, hw⟩ := hA p.2 n (hns _ h2) hn
    have z1 := pIx_dR2 hL
    have z2 := pIn_dR (L := L) (r := tms (inv h) p.1)
    rw [btw_meets k (hns _ h2) hn hw (hhs _ h1) hr] at z2
    simp [-List.map_map, -List.map_append, -List.map_dropLast, -List.map_take, -List.map_drop, -List.map_reverse, r_timesR hr.inv (hhs _ h1) hb, z1, z2]) (by simp [-List.map_map, -List.map_append, -List.map_dropLast, -List.map_take, -List.map_drop, -List.map_reverse, List.length_zip]; omega)]
  simp [-List.map_map, -List.map_append, -List.map_dropLast, -List.map_take, -List.map_drop, -List.map_reverse, apart]
/-- is_true_of by what it asks -/
def tru (ms : List Mth) (t : List (Nat × Nat)) (hs : List (List Nat)) : Bool :=
  (t.all fun p => decide (nth ms p.1).lead.Nodup) && (List.range t.length).all fun i => apart ms (nth hs i) (nth t i).1 (hs.take i) ((t.take i).map (·.1))
theorem r_true {b : Nat} {ms : List Mth} (k : ∀ m ∈ ms, m.Ok b) (hb : b ≤ 6) (h4 : ms.length ≤ 4) {t : List (Nat × Nat)} {x : D} (hx : x = .list (t.map tcE) ∨ x = .tuple (t.map tcE)) (ht : ∀ p ∈ t, LeadOk ms p) (hl : t.length ≤ 800) {hs : List (List Nat)} (hhs : ∀ x ∈ hs, Row b x) (hn : t.length ≤ hs.length) (hn2 : hs.length ≤ 1000) :
    rn m_is_true_of 8 [.d (sE ms), .d x, .d (.list (hs.map rE))] = some (.d (.bool (tru ms t hs))) := by
  obtain ⟨A, hA, hra⟩ := r_all_between k h4
  obtain ⟨S, hS, hso⟩ := sortSet_nums (x := .list ((t.map (·.1)).map nI)) rfl (by simp [-List.map_map, -List.map_append, -List.map_dropLast, -List.map_take, -List.map_drop, -List.map_reverse]; omega)
  have hSt : ∀ n, n ∈ S ↔ ∃ p ∈ t, p.1 = n := fun n => by
    rw [← hS.mem_iff, mem_ddG, List.mem_map]
  have hSl : S.length ≤ 800 := by
    rw [← hS.length_eq]
    have := ddG_le (t.map (·.1))
    simp [-List.map_map, -List.map_append, -List.map_dropLast, -List.map_take, -List.map_drop, -List.map_reverse] at this
    omega
  have hall : ((S.map fun n => decide (nth ms n).lead.Nodup).all id) = t.all fun p => decide (nth ms p.1).lead.Nodup := by
    rw [Bool.eq_iff_iff, List.all_eq_true, List.all_eq_true]
    constructor
    · intro h p hp
      exact h _ (List.mem_map.mpr ⟨p.1, (hSt _).mpr ⟨p, hp, rfl⟩, rfl⟩)
    · intro h c hc
      obtain ⟨n, hn, rfl⟩ := List.mem_map.mp hc
      obtain ⟨p, hp, rfl⟩ := (hSt n).mp hn
      exact h p hp
  have e1 : ∀ p ∈ S, rn m_is_lead_true 2 [.d (mE (nth ms p))] = some (.d (.bool (decide (nth ms p).lead.Nodup))) ∧ p < ms.length := fun p hp => by
    obtain ⟨q, hq, rfl⟩ := (hSt p).mp hp
    exact ⟨r_is_lead_true (k _ (nth_mem (ht q hq).1)), (ht q hq).1⟩
  have e2 : ∀ i ∈ List.range t.length, rn m_is_apart 8 [.d (dR A), .d (rE (nth hs i)), .d (nI (nth t i).1), .d (.list ((hs.take i).map rE)), .d (.list (((t.take i).map (·.1)).map nI))] = some (.d (.bool (apart ms (nth hs i) (nth t i).1 (hs.take i) ((t.take i).map (·.1))))) := fun i hi => by
    have hi' : i < t.length := List.mem_range.mp hi
    refine r_apart k hb hA (hhs _ (nth_mem (by omega))) (ht _ (nth_mem hi')).1 (fun x hx => hhs x (List.mem_of_mem_take hx)) (fun x hx => ?_) (by simp [-List.map_map, -List.map_append, -List.map_dropLast, -List.map_take, -List.map_drop, -List.map_reverse]; omega)
    obtain ⟨p, hp, rfl⟩ := List.mem_map.mp hx
    exact (ht p (List.mem_of_mem_take hp)).1
  have key : ∀ (x : D), (mSq (mVar 1) [some (.d (sE ms)), some (.d x), some (.d (.list (hs.map rE))), none, none, none, none, none] = .ok (t.map tcE) [some (.d (sE ms)), some (.d x), some (.d (.list (hs.map rE))), none, none, none, none, none]) → pLen [x] = some (.d (nI t.length)) →
      rn m_is_true_of 8 [.d (sE ms), .d x, .d (.list (hs.map rE))] = some (.d (.bool (tru ms t hs))) := fun x hsq hle => by
    refine rn_of ?_
    rw [x_sq] at hsq
    simp [-List.map_map, -List.map_append, -List.map_dropLast, -List.map_take, -List.map_drop, -List.map_reverse] at hsq
    simp [-List.map_map, -List.map_append, -List.map_dropLast, -List.map_take, -List.map_drop, -List.map_reverse, m_is_true_of, env0, hsq]
    rw [lc_mp nI (fun p : Nat × Nat => p.1) (fun p hp => by simp [-List.map_map, -List.map_append, -List.map_dropLast, -List.map_take, -List.map_drop, -List.map_reverse]) (by omega)]
    simp [-List.map_map, -List.map_append, -List.map_dropLast, -List.map_take, -List.map_drop, -List.map_reverse, hra, fz_oR, hso]
    rw [lc_mp PyData.bool (fun n => decide (nth ms n).lead.Nodup) (fun n hn => by simp [-List.map_map, -List.map_append, -List.map_dropLast, -List.map_take, -List.map_drop, -List.map_reverse, (e1 n hn).1, (e1 n hn).2]) (by omega)]
    obtain ⟨e', g, s4, -, rfl⟩ := lc_mpE (f := nI) (q := qN 7 false) (tt := mYes) (vs := [7]) (xs := List.range t.length) (e0 := [some (.d (sE ms)), some (.d x), some (.d (.list (hs.map rE))), some (.ol ((t.map fun p => p.1).map nI)), some (oR A), none, none, none])
      (me := mCall n_is_apart m_is_apart (mACons (mFrz (mVar 4)) (mACons (m2 true pIx (mVar 2) (mVar 7)) (mACons (m2 true pIx (mVar 3) (mVar 7)) (mACons (mFrz (mCut (mVar 2) mNo (mSo (mVar 7)))) (mACons (mFrz (mCut (mVar 3) mNo (mSo (mVar 7)))) mANil))))))
      PyData.bool (fun i => apart ms (nth hs i) (nth t i).1 (hs.take i) ((t.take i).map (·.1)))
      (fun e => ∃ s4, (s4 = oR A ∨ s4 = .d (dR A)) ∧ e = [some (.d (sE ms)), some (.d x), some (.d (.list (hs.map rE))), some (.ol ((t.map fun p => p.1).map nI)), some s4, none, none, none]) ⟨_, .inl rfl, rfl⟩ (by
        rintro i hi _ ⟨s4, hs4, rfl⟩
        have hi' : i < t.length := List.mem_range.mp hi
        refine ⟨_, ?_, .d (dR A), .inr rfl, rfl⟩
        rcases hs4 with rfl | rfl <;> simp [-List.map_map, -List.map_append, -List.map_dropLast, -List.map_take, -List.map_drop, -List.map_reverse, fz_oR, e2 i hi, hi', show i < hs.length by omega]) (by simp [-List.map_map, -List.map_append, -List.map_dropLast, -List.map_take, -List.map_drop, -List.map_reverse]; omega)
    by_cases c : (t.all fun p => decide (nth ms p.1).lead.Nodup) = true
    · simp [-List.map_map, -List.map_append, -List.map_dropLast, -List.map_take, -List.map_drop, -List.map_reverse, hall, c, hle, show t.length ≤ 1000000 by omega, g, tru]
    · simp [-List.map_map, -List.map_append, -List.map_dropLast, -List.map_take, -List.map_drop, -List.map_reverse, hall, c, tru]
  rcases hx with rfl | rfl
  · exact key _ (by simp [-List.map_map, -List.map_append, -List.map_dropLast, -List.map_take, -List.map_drop, -List.map_reverse]) (by simp [-List.map_map, -List.map_append, -List.map_dropLast, -List.map_take, -List.map_drop, -List.map_reverse])
  · exact key _ (by simp [-List.map_map, -List.map_append, -List.map_dropLast, -List.map_take, -List.map_drop, -List.map_reverse]) (by simp [-List.map_map, -List.map_append, -List.map_dropLast, -List.map_take, -List.map_drop, -List.map_reverse])
end Pwk85

set_option Elab.async false
set_option linter.all false
set_option maxRecDepth 100000
set_option maxHeartbeats 4000000
/-! what the program's defs answer: truth, stand_ins, may_always -/
namespace Pwk85
open PySem PySem.Spec PyProof.Rows L2 Pw
/-- a splice of b bells -/
structure Spl (b : Nat) (ms : List Mth) : Prop where
  ok : ∀ m ∈ ms, m.Ok b
  ne : ms ≠ []
  four : ms.length ≤ 4
/-- a touch of it -/
structure Tch (ms : List Mth) (t : List (Nat × Nat)) : Prop where
  ok : ∀ p ∈ t, LeadOk ms p
  len : t.length ≤ 800
abbrev Tx (t : List (Nat × Nat)) (x : D) : Prop := x = .list (t.map tcE) ∨ x = .tuple (t.map tcE)
section
variable {b : Nat} {ms : List Mth} {t : List (Nat × Nat)} {x : D}
theorem Spl.pos (s : Spl b ms) : 0 < ms.length := List.length_pos_iff.mpr s.ne
theorem Spl.le6 (s : Spl b ms) : b ≤ 6 := (s.ok _ (nth_mem s.pos)).le6
/-- true, as the program has it -/
def truS (b : Nat) (ms : List Mth) (t : List (Nat × Nat)) : Bool := tru ms t (hds ms (List.range b) t)
theorem r_true' (s : Spl b ms) (h : Tch ms t) (hx : Tx t x) : rn m_is_true_of 8 [.d (sE ms), .d x, .d (.list ((hds ms (List.range b) t).map rE))] = some (.d (.bool (truS b ms t))) :=
  r_true s.ok s.le6 s.four hx h.ok h.len (hds_row s.ok (row_range b) h.ok) (by rw [hds_len]; omega) (by rw [hds_len]; have := h.len; omega)
theorem r_heads' (s : Spl b ms) (h : Tch ms t) (hx : Tx t x) : rn m_spliced_heads_of 6 [.d (sE ms), .d x] = some (.ol ((hds ms (List.range b) t).map rE)) := r_heads s.ok s.ne s.four hx h.ok h.len
theorem r_spliced_true (s : Spl b ms) (h : Tch ms t) (hx : Tx t x) : rn m_is_spliced_true 2 [.d (sE ms), .d x] = some (.d (.bool (truS b ms t))) := by
  refine rn_of ?_
  simp [-List.map_map, -List.map_append, -List.map_dropLast, -List.map_take, -List.map_drop, -List.map_reverse, m_is_spliced_true, env0, r_want_spliced s.ok s.ne s.four hx h.ok h.len, r_heads' s h hx, r_true' s h hx]
/-- the touch with another method at a place -/
def late (t : List (Nat × Nat)) (i n : Nat) : List (Nat × Nat) := t.take i ++ [(n, (nth t i).2)] ++ t.drop (i + 1)
/-- the method stands in there -/
def fits (b : Nat) (ms : List Mth) (t : List (Nat × Nat)) (n i : Nat) : Bool :=
  decide ((nth t i).2 < (nth ms n).ca.length + 1) && decide (turnAt ms (n, (nth t i).2) = turnAt ms (nth t i)) && truS b ms (late t i n)
theorem late_ok (h : Tch ms t) {i n : Nat} (hi : i < t.length) (hn : n < ms.length) (hc : (nth t i).2 < (nth ms n).ca.length + 1) : Tch ms (late t i n) := by
  refine ⟨fun p hp => ?_, ?_⟩
  · unfold late at hp
    rcases List.mem_append.mp hp with hp | hp
    · rcases List.mem_append.mp hp with hp | hp
      · exact h.ok p (List.mem_of_mem_take hp)
      · rw [List.mem_singleton.mp hp]
        exact ⟨hn, by simp [-List.map_map, -List.map_append, -List.map_dropLast, -List.map_take, -List.map_drop, -List.map_reverse]; omega⟩
    · exact h.ok p (List.mem_of_mem_drop hp)
  · unfold late
    have := h.len
    simp [-List.map_map, -List.map_append, -List.map_dropLast, -List.map_take, -List.map_drop, -List.map_reverse]
    omega
theorem r_stand_ins (s : Spl b ms) (h : Tch ms t) (hx : Tx t x) {n : Nat} (hn : n < ms.length) : rn m_stand_ins 9 [.d (sE ms), .d x, .d (nI n)] = some (.ol (((List.range t.length).filter (fits b ms t n)).map nI)) := by
  have hl := h.len
  have four := s.four
  obtain ⟨e', g, s5, s6, s7, s8, rfl⟩ := for_rg (f := fun i => PyData.tuple [nI i, tcE (nth t i)]) (n := t.length) (q := qTup 2 (qCons (qN 5 false) (qCons (qTup 2 (qCons (qN 6 false) (qCons (qN 7 false) qNil))) qNil)))
    (b := mIfS (mAndT (mTst (m2 true pLt (mVar 7) (mN true pLen (mACons (m2 true pIx (mVar 3) (mVar 2)) mANil)))) (mTst (m2 true pEqT (m2 true pIx (m2 true pIx (mVar 3) (mVar 2)) (mVar 7)) (m2 true pIx (m2 true pIx (mVar 3) (mVar 6)) (mVar 7))))) (mSeq (mSet (qN 8 true) (m2 false pAdd (m2 false pAdd (mN true pLst (mACons (mCut (mVar 1) mNo (mSo (mVar 5))) mANil)) (mLst (mACons (mTup (mACons (mVar 2) (mACons (mVar 7) mANil))) mANil))) (mN true pLst (mACons (mCut (mVar 1) (mSo (m2 false pAdd (mVar 5) (mC (nI 1)))) mNo) mANil)))) (mIfS (mTst (mCall n_is_true_of m_is_true_of (mACons (mVar 0) (mACons (mFrz (mVar 8)) (mACons (mFrz (mCall n_spliced_heads_of m_spliced_heads_of (mACons (mVar 0) (mACons (mFrz (mVar 8)) mANil)))) mANil))))) (mDrp (mMtL gApp (mVar 4) (mACons (mVar 5) mANil))) mNext)) mNext)
    (e0 := [some (.d (sE ms)), some (.d x), some (.d (nI n)), some (.ol ((ms.map Mth.turns).map tsE)), some (.ol []), none, none, none, none])
    (fun i e => ∃ s5 s6 s7 s8 : Option D, e = [some (.d (sE ms)), some (.d x), some (.d (nI n)), some (.ol ((ms.map Mth.turns).map tsE)), some (.ol (((List.range i).filter (fits b ms t n)).map nI)), sD s5, sD s6, sD s7, sD s8])
    ⟨none, none, none, none, rfl⟩ (by
      rintro i _ hi ⟨s5, s6, s7, s8, rfl⟩
      have hp := h.ok _ (nth_mem hi)
      have h1 := hp.1
      have h2 : (nth t i).2 < (nth ms (nth t i).1).ca.length + 1 := by have := hp.2; omega
      have hfl : ((List.range i).filter (fits b ms t n)).length < 16777216 := by
        have := List.length_filter_le (fits b ms t n) (List.range i)
        simp [-List.map_map, -List.map_append, -List.map_dropLast, -List.map_take, -List.map_drop, -List.map_reverse] at this
        omega
      have hr : (List.range (i + 1)).filter (fits b ms t n) = if fits b ms t n i = true then (List.range i).filter (fits b ms t n) ++ [i] else (List.range i).filter (fits b ms t n) := by
        rw [List.range_succ, List.filter_append]
        by_cases c : fits b ms t n i = true
        · rw [if_pos c, List.filter_cons_of_pos c, List.filter_nil]
        · rw [if_neg c, List.filter_cons_of_neg c, List.filter_nil, List.append_nil]
      rw [hr]
      by_cases c1 : (nth t i).2 < (nth ms n).ca.length + 1
      · by_cases c2 : turnAt ms (n, (nth t i).2) = turnAt ms (nth t i)
        · have hL := late_ok h hi hn c1
          have c3 : fits b ms t n i = truS b ms (late t i n) := by simp [-List.map_map, -List.map_append, -List.map_dropLast, -List.map_take, -List.map_drop, -List.map_reverse, fits, c1, c2]
          have z1 := r_true' s hL (.inl rfl)
          have z2 := r_heads' s hL (.inl rfl)
          have c2' := c2
          unfold turnAt at c2'
          simp only at c2'
          rw [c3]
          have hlate : (t.take i).map tcE ++ PyData.tuple [nI n, nI (nth t i).2] :: (t.drop (i + 1)).map tcE = (late t i n).map tcE := by
            unfold late
            simp [-List.map_map, -List.map_dropLast, -List.map_take, -List.map_drop, -List.map_reverse, List.map_append]
          have a1 : min i t.length + 1 ≤ 16777216 := by omega
          have a2 : min i t.length ≤ 16777215 := by omega
          have a3 : min i t.length + 1 + (t.length - (i + 1)) ≤ 16777216 := by omega
          have a4 : min i t.length + (t.length - (i + 1) + 1) ≤ 16777216 := by omega
          cases hb : truS b ms (late t i n)
          · refine ⟨_, ?_, some (nI i), some (nI (nth t i).1), some (nI (nth t i).2), some (.list ((late t i n).map tcE)), rfl⟩
            rcases hx with rfl | rfl <;> simp [-List.map_map, -List.map_append, -List.map_dropLast, -List.map_take, -List.map_drop, -List.map_reverse, hn, h1, h2, c1, pEqT_tt, c2', a1, a2, a3, a4, hlate, z1, z2, hb]
          · refine ⟨_, ?_, some (nI i), some (nI (nth t i).1), some (nI (nth t i).2), some (.list ((late t i n).map tcE)), rfl⟩
            rcases hx with rfl | rfl <;> simp [-List.map_map, -List.map_append, -List.map_dropLast, -List.map_take, -List.map_drop, -List.map_reverse, hn, h1, h2, c1, pEqT_tt, c2', a1, a2, a3, a4, hlate, z1, z2, hb, hfl, map_snoc]
        · have c3 : fits b ms t n i = false := by simp [-List.map_map, -List.map_append, -List.map_dropLast, -List.map_take, -List.map_drop, -List.map_reverse, fits, c2]
          have c2' := c2
          unfold turnAt at c2'
          simp only at c2'
          refine ⟨_, ?_, some (nI i), some (nI (nth t i).1), some (nI (nth t i).2), s8, rfl⟩
          simp [-List.map_map, -List.map_append, -List.map_dropLast, -List.map_take, -List.map_drop, -List.map_reverse, hn, h1, h2, c1, pEqT_tt, c2', c3]
      · have c3 : fits b ms t n i = false := by simp [-List.map_map, -List.map_append, -List.map_dropLast, -List.map_take, -List.map_drop, -List.map_reverse, fits, c1]
        refine ⟨_, ?_, some (nI i), some (nI (nth t i).1), some (nI (nth t i).2), s8, rfl⟩
        simp [-List.map_map, -List.map_append, -List.map_dropLast, -List.map_take, -List.map_drop, -List.map_reverse, hn, h1, h2, c1, c3])
  refine rn_of ?_
  rcases hx with rfl | rfl <;> simp [-List.map_map, -List.map_append, -List.map_dropLast, -List.map_take, -List.map_drop, -List.map_reverse, m_stand_ins, env0, r_want_spliced s.ok s.ne s.four _ h.ok h.len, r_want_number hn, r_all_turns s.ok s.four, numD_map, g]
/-- the two stand for each other anywhere -/
def always (ms : List Mth) (n o : Nat) : Bool := decide ((nth ms n).turns = (nth ms o).turns) && decide (srt (nth ms n).lead = srt (nth ms o).lead)
theorem r_may_always (s : Spl b ms) {n o : Nat} (hn : n < ms.length) (ho : o < ms.length) : rn m_may_always 6 [.d (sE ms), .d (nI n), .d (nI o)] = some (.d (.bool (always ms n o))) := by
  refine rn_of ?_
  simp [-List.map_map, -List.map_append, -List.map_dropLast, -List.map_take, -List.map_drop, -List.map_reverse, m_may_always, env0, r_want_splice s.ok s.ne s.four, r_want_number hn, r_want_number ho, r_all_turns s.ok s.four, r_lead (s.ok _ (nth_mem hn)), r_lead (s.ok _ (nth_mem ho)), hn, ho, pEqT_tt, pEqT_ll, always]
end
end Pwk85

set_option Elab.async false
set_option linter.all false
set_option maxRecDepth 100000
set_option maxHeartbeats 4000000
/-! what the law's defs answer: draws, changes -/
namespace Pwk85
open PySem PySem.Spec PyProof.Rows L2 Pw
theorem r_draw {l : List D} {n : Nat} (h : Pot l) (h1 : 0 < n) (h2 : n < 1073741824) : ∃ d l', Pot l' ∧ d < n ∧ rnP m__law_draw 3 l [.d (nI n)] = some (.d (nI d), l') := by
  obtain ⟨a, b, rfl, hb⟩ := h
  by_cases ha : 0 < a
  · refine ⟨a % n, _, ⟨a / n, b, rfl, hb⟩, Nat.mod_lt _ h1, rnP_of (e := [some (.d (nI n)), some (.d (nI (a % n)))]) ?_⟩
    simp [-List.map_map, -List.map_append, -List.map_dropLast, -List.map_take, -List.map_drop, -List.map_reverse, m__law_draw, env0, ha, h1, h2]
  · have hc : (b * 40692 + 9203) % 2147483587 < 2147483587 := Nat.mod_lt _ (by decide)
    have hb' : b < 18446744073709551616 := by omega
    generalize hce : (b * 40692 + 9203) % 2147483587 = c at hc
    have hc' : c < 18446744073709551616 := by omega
    refine ⟨c * c % 2147483549 / 43 % n, _, ⟨a, c, rfl, by omega⟩, Nat.mod_lt _ h1, rnP_of (e := [some (.d (nI n)), none]) ?_⟩
    simp [-List.map_map, -List.map_append, -List.map_dropLast, -List.map_take, -List.map_drop, -List.map_reverse, m__law_draw, env0, ha, h1, h2, hb', hc', hce]
theorem r_pick {α : Type} [Inhabited α] {f : α → D} {l : List D} {xs : List α} {x : D} (h : Pot l) (hx : x = .list (xs.map f) ∨ x = .tuple (xs.map f)) (h1 : xs ≠ []) (h2 : xs.length < 1073741824) : ∃ y ∈ xs, ∃ l', Pot l' ∧ rnP m__law_pick 2 l [.d x] = some (.d (f y), l') := by
  obtain ⟨d, l', hp, hd, hr⟩ := r_draw h (List.length_pos_iff.mpr h1) h2
  refine ⟨nth xs d, nth_mem hd, l', hp, rnP_of (e := [some (.d x)]) ?_⟩
  rcases hx with rfl | rfl <;> simp [-List.map_map, -List.map_append, -List.map_dropLast, -List.map_take, -List.map_drop, -List.map_reverse, m__law_pick, env0, hr, hd]
theorem r_pot {ns : List Int} {k : Nat} (hk : k ≤ 1) : ∃ l, Pot l ∧ rn m__law_pot 3 [.kl (ns.map PyData.int), .d (nI k)] = some (.ol l) := by
  have q1 : ∀ z : Int, pMod (.int z) (nI 2147483549) = some (.d (nI (z % 2147483549).toNat)) ∧ (z % 2147483549).toNat < 2147483549 := fun z => by
    have e : pMod (.int z) (.int 2147483549) = some (.d (.int (z % 2147483549))) := pMod_int (by decide)
    have h0 := Int.emod_nonneg z (b := 2147483549) (by decide)
    have h1 := Int.emod_lt_of_pos z (b := 2147483549) (by decide)
    exact ⟨by rw [← Int.toNat_of_nonneg h0] at e; exact e, by omega⟩
  have q2 : ∀ z : Int, pMod (.int z) (nI 1000003) = some (.d (nI (z % 1000003).toNat)) := fun z => by
    have e : pMod (.int z) (.int 1000003) = some (.d (.int (z % 1000003))) := pMod_int (by decide)
    have h0 := Int.emod_nonneg z (b := 1000003) (by decide)
    rw [← Int.toNat_of_nonneg h0] at e
    exact e
  have q3 : pPow (nI 10) (nI 18) = some (.d (nI 1000000000000000000)) := by
    show pPow (.int 10) (.int 18) = some (.d (.int 1000000000000000000))
    rfl
  have q4 : ∀ z : Int, pSub (.int z) (nI 1000000000000000000) = some (.d (.int (z - 1000000000000000000))) := fun z => rfl
  have q5 : ∀ z : Int, pMax2 [nI 0, .int z] = some (.d (nI z.toNat)) := fun z => by
    have e : pMax2 [.int 0, .int z] = some (.d (.int (if z > 0 then z else 0))) := rfl
    have h : (if z > 0 then z else 0) = (z.toNat : Int) := by split <;> omega
    rw [h] at e
    exact e
  have qI : ∀ z : Int, pInt [.int z] = some (.d (.int z)) := fun z => rfl
  have fin : ∀ z : Int, ∃ l, Pot l ∧ ((mRet (mLst (mACons (mN true pMax2 (mACons (mC (nI 0)) (mACons (m2 true pSub (mVar 2) (m2 true pPow (mC (nI 10)) (mC (nI 18)))) mANil))) (mACons (m2 false pAdd (m2 true pMod (mN true pInt (mACons (m2 false pAdd (m2 false pAdd (m2 false pMul (m2 true pMod (mN true pInt (mACons (mVar 2) mANil)) (mC (nI 2147483549))) (mC (nI 40253))) (m2 false pMul (mC (nI 9203)) (mVar 1))) (mC (nI 71))) mANil)) (mC (nI 2147483563))) (mC (nI 1))) mANil)))) [some (.kl (ns.map PyData.int)), some (.d (nI k)), some (.d (.int z))]).fin.map (·.1) = some (.ol l) := fun z => by
    have hz := (q1 z).2
    have hm : ((z % 2147483549).toNat * 40253 + 9203 * k + 71) % 2147483563 < 2147483563 := Nat.mod_lt _ (by decide)
    refine ⟨[nI (z - 1000000000000000000).toNat, nI (((z % 2147483549).toNat * 40253 + 9203 * k + 71) % 2147483563 + 1)], ⟨_, _, rfl, by omega⟩, ?_⟩
    simp [-List.map_map, -List.map_append, -List.map_dropLast, -List.map_take, -List.map_drop, -List.map_reverse, q3, q4, q5, qI, (q1 z).1, show (z % 2147483549).toNat < 18446744073709551616 by omega]
  have go : ∃ (z : Int) (x : D), x = .int z ∧ (mIf (mTst (m2 true pLt (mVar 1) (mN true pLen (mACons (mVar 0) mANil)))) (mN true pAbs (mACons (m2 true pIx (mVar 0) (mVar 1)) mANil)) (m2 false pAdd (m2 false pAdd (m2 false pMul (mC (nI 2837)) (mVar 1)) (mC (nI 2087))) (m2 true pMod (mN true pInt (mACons (mN true pSum (mACons (mCut (mVar 0) mNo (mSo (mC (nI 1)))) mANil)) mANil)) (mC (nI 1000003))))) [some (.kl (ns.map PyData.int)), some (.d (nI k)), none] = .ok (.d x) [some (.kl (ns.map PyData.int)), some (.d (nI k)), none] := by
    by_cases hlt : k < ns.length
    · refine ⟨if nth ns k < 0 then - nth ns k else nth ns k, _, rfl, ?_⟩
      have ha : ∀ i : Int, pAbs [.int i] = some (.d (.int (if i < 0 then -i else i))) := fun i => rfl
      simp [-List.map_map, -List.map_append, -List.map_dropLast, -List.map_take, -List.map_drop, -List.map_reverse, hlt, ha]
    · have hs : pSum [.list ((ns.take 1).map PyData.int)] = some (.d (.int (ns.take 1).sum)) := by
        show (asInts ((ns.take 1).map PyData.int)).map (fun ns => R.d (.int ns.sum)) = _
        rw [asInts_ints]
        rfl
      refine ⟨_, nI (2837 * k + 2087 + ((ns.take 1).sum % 1000003).toNat), rfl, ?_⟩
      have c1 : cutL ns none (some 1) = ns.take 1 := cut_tk (n := 1)
      simp [-List.map_map, -List.map_append, -List.map_dropLast, -List.map_take, -List.map_drop, -List.map_reverse, hlt, c1, hs, qI, q2]
  obtain ⟨z, _, rfl, hz⟩ := go
  obtain ⟨l, hl, hf⟩ := fin z
  refine ⟨l, hl, rn_of ?_⟩
  simp only [m__law_pot, x_seq, x_set, env0, List.map_cons, List.map_nil, List.length_cons, List.length_nil, List.replicate, List.cons_append, List.nil_append]
  rw [hz]
  simpa [-List.map_map, -List.map_append, -List.map_dropLast, -List.map_take, -List.map_drop, -List.map_reverse] using hf
theorem r_changed {b : Nat} {r c : List Nat} (hr : Row b r) (hc : c ∈ evB b) (h5 : b ≤ 5) : rn m__law_changed 4 [.d (rE r), .d (rE c)] = some (.d (rE (tms r (chR b c)))) := by
  have hl := hr.len
  rcases ev_bells hc with rfl | rfl | rfl | rfl
  all_goals
    simp only [evB, List.mem_cons, List.not_mem_nil, or_false] at hc
  · match r, hl with
    | [x0, x1, x2], _ => rcases hc with rfl | rfl <;> rfl
  · match r, hl with
    | [x0, x1, x2, x3], _ => rcases hc with rfl | rfl | rfl | rfl <;> rfl
  · match r, hl with
    | [x0, x1, x2, x3, x4], _ => rcases hc with rfl | rfl | rfl | rfl | rfl | rfl | rfl <;> rfl
  · omega
theorem erase_map {α β : Type} {f : α → β} : ∀ (l : List α) (d : Nat), (l.map f).eraseIdx d = (l.eraseIdx d).map f
  | [], _ => rfl
  | _ :: _, 0 => rfl
  | a :: l, d + 1 => by
    rw [List.map_cons, List.eraseIdx_cons_succ, List.eraseIdx_cons_succ, List.map_cons, erase_map l d]
theorem r_mixed {α : Type} [Inhabited α] {f : α → D} {l : List D} {xs : List α} {x : D} (h : Pot l) (hx : x = .list (xs.map f) ∨ x = .tuple (xs.map f)) (hl : xs.length ≤ 1000) (nc : ∀ ys : List α, pNeT (.list (ys.map f)) (.list []) = some (.d (.bool (!decide (ys = []))))) :
    ∃ (ys : List α) (l' : List D), Pot l' ∧ (∀ y ∈ ys, y ∈ xs) ∧ ys.length = xs.length ∧ rnP m__law_mixed 4 l [.d x] = some (.ol (ys.map f), l') := by
  have go := wh_ex (n := 100000) (c := mTst (m2 true pNeT (mVar 2) (mLst mANil)))
    (b := mDrp (mMtL gApp (mVar 3) (mACons (mMtL gPop (mVar 2) (mACons (mCallP n__law_draw m__law_draw (mACons (mVar 0) (mACons (mN true pLen (mACons (mVar 2) mANil)) mANil))) mANil)) mANil)))
    (fun k e => ∃ (l : List D) (left found : List α), Pot l ∧ left.length = k ∧ k + found.length = xs.length ∧ (∀ y ∈ left, y ∈ xs) ∧ (∀ y ∈ found, y ∈ xs) ∧ e = [some (.pl l), some (.d x), some (.ol (left.map f)), some (.ol (found.map f))])
    (fun e => ∃ (l : List D) (found : List α), Pot l ∧ found.length = xs.length ∧ (∀ y ∈ found, y ∈ xs) ∧ e = [some (.pl l), some (.d x), some (.ol []), some (.ol (found.map f))])
    (by
      rintro e ⟨l, left, found, hp, h1, h2, h3, h4, rfl⟩
      have : left = [] := List.length_eq_zero_iff.mp h1
      subst this
      have z := nc []
      simp [-List.map_map, -List.map_append, -List.map_dropLast, -List.map_take, -List.map_drop, -List.map_reverse] at z
      exact ⟨[some (.pl l), some (.d x), some (.ol []), some (.ol (found.map f))], by simp [-List.map_map, -List.map_append, -List.map_dropLast, -List.map_take, -List.map_drop, -List.map_reverse, z], l, found, hp, by omega, h4, rfl⟩)
    (by
      rintro k e ⟨l, left, found, hp, h1, h2, h3, h4, rfl⟩
      have hne : left ≠ [] := fun e => by rw [e] at h1; cases h1
      obtain ⟨d, l', hp', hd, hr⟩ := r_draw (n := left.length) hp (by omega) (by omega)
      refine ⟨[some (.pl l), some (.d x), some (.ol (left.map f)), some (.ol (found.map f))], [some (.pl l'), some (.d x), some (.ol ((left.eraseIdx d).map f)), some (.ol ((found ++ [nth left d]).map f))], by simp [-List.map_map, -List.map_append, -List.map_dropLast, -List.map_take, -List.map_drop, -List.map_reverse, nc, hne], ?_, l', left.eraseIdx d, found ++ [nth left d], hp', ?_, ?_, fun y hy => h3 y (List.mem_of_mem_eraseIdx hy), fun y hy => ?_, rfl⟩
      · simp [-List.map_map, -List.map_append, -List.map_dropLast, -List.map_take, -List.map_drop, -List.map_reverse, hr, hd, show left.length ≤ 16777216 by omega, show found.length < 16777216 by omega, map_snoc, erase_map]
      · rw [List.length_eraseIdx, if_pos hd]; omega
      · simp [-List.map_map, -List.map_append, -List.map_dropLast, -List.map_take, -List.map_drop, -List.map_reverse]; omega
      · rcases List.mem_append.mp hy with hy | hy
        · exact h4 y hy
        · rw [List.mem_singleton.mp hy]
          exact h3 _ (nth_mem hd))
    (k := xs.length) (e := [some (.pl l), some (.d x), some (.ol (xs.map f)), some (.ol ([] : List D))]) (by omega) ⟨l, xs, [], h, rfl, by simp [-List.map_map, -List.map_append, -List.map_dropLast, -List.map_take, -List.map_drop, -List.map_reverse], fun y hy => hy, fun y hy => absurd hy List.not_mem_nil, rfl⟩
  obtain ⟨e', g, l', ys, hp, h1, h2, rfl⟩ := go
  refine ⟨ys, l', hp, h2, h1, rnP_of (e := [some (.d x), some (.ol []), none]) ?_⟩
  rcases hx with rfl | rfl <;> simp [-List.map_map, -List.map_append, -List.map_dropLast, -List.map_take, -List.map_drop, -List.map_reverse, m__law_mixed, env0, g]
end Pwk85

set_option Elab.async false
set_option linter.all false
set_option maxRecDepth 100000
set_option maxHeartbeats 4000000
/-! what the law's defs answer: changes, leads, rows -/
namespace Pwk85
open PySem PySem.Spec PyProof.Rows L2 Pw
theorem r_changes {b : Nat} (h : b = 3 ∨ b = 4 ∨ b = 5) : rn m__law_changes 6 [.d (nI b)] = some (.ol ((evB b).map rE)) := by
  have go : ∀ {A B : MS} {L : ME} {e e1 e2 e3 : En} {xs : List D} {out : List D}, A e = .nx e1 → B e1 = .nx e2 → L e2 = .ok (.ol xs) e3 → sortSet (.list xs) = some (.ol out) →
      ((mSeq A (mSeq B (mRet (m1 true sortSet L)))) e).fin.map (·.1) = some (.ol out) := fun {A B L e e1 e2 e3 xs out} h1 h2 h3 h4 => by
    simp [-List.map_map, -List.map_append, -List.map_dropLast, -List.map_take, -List.map_drop, -List.map_reverse, h1, h2, h3, h4]
  rcases h with rfl | rfl | rfl
  · exact go rfl rfl rfl (sortSet_rows (x := .list ([[0], [2]].map rE)) (l := [[0], [2]]) (m := evB 3) rfl (by decide) (by decide) (by decide))
  · exact go rfl rfl rfl (sortSet_rows (x := .list (([[0, 1], [0, 3], [2, 3], []] : List (List Nat)).map rE)) (l := [[0, 1], [0, 3], [2, 3], []]) (m := evB 4) rfl (by decide) (by decide) (by decide))
  · exact go rfl rfl rfl (sortSet_rows (x := .list (([[0, 1, 2], [0, 1, 4], [0, 3, 4], [0], [2, 3, 4], [2], [4]] : List (List Nat)).map rE)) (l := [[0, 1, 2], [0, 1, 4], [0, 3, 4], [0], [2, 3, 4], [2], [4]]) (m := evB 5) rfl (by decide) (by decide) (by decide))
/-- the rows of the lead from a head -/
def ldr (m : Mth) (h : List Nat) : List (List Nat) := m.lead.map (tms h)
theorem r_law_lead {b : Nat} {m : Mth} (k : m.Ok b) (h5 : b ≤ 5) {h : List Nat} (hh : Row b h) {c : Nat} (hc : c < m.ca.length + 1) :
    rn m__law_lead 7 [.d (mE m), .d (rE h), .d (nI c)] = some (.d (.tuple [.list ((ldr m h).map rE), rE (tms h (nth m.turns c))])) := by
  have hml := k.ml
  have hcl := k.cl
  have hce : nth m.ends c ∈ m.ends := nth_mem (by simpa [-List.map_map, -List.map_append, -List.map_dropLast, -List.map_take, -List.map_drop, -List.map_reverse] using hc)
  have hev : ∀ x ∈ m.ch.dropLast ++ [nth m.ends c], x ∈ evB b := fun x hx => by
    rcases List.mem_append.mp hx with hx | hx
    · exact k.drop x hx
    · rw [List.mem_singleton.mp hx]
      exact k.ends _ hce
  have hlen : (m.ch.dropLast ++ [nth m.ends c]).length ≤ 40 := by
    have := List.length_pos_iff.mpr k.ne
    simp [-List.map_map, -List.map_append, -List.map_dropLast, -List.map_take, -List.map_drop, -List.map_reverse]
    omega
  obtain ⟨e', g, s6, rfl⟩ := for_ex (f := rE) (xs := m.ch.dropLast ++ [nth m.ends c]) (q := qN 6 false)
    (b := mSeq (mDrp (mMtL gApp (mVar 3) (mACons (mVar 4) mANil))) (mSet (qN 4 false) (mCall n__law_changed m__law_changed (mACons (mVar 4) (mACons (mVar 6) mANil)))))
    (e0 := [some (.d (mE m)), some (.d (rE h)), some (.d (nI c)), some (.ol []), some (.d (rE h)), some (.d (rE (nth m.ends c))), none])
    (fun done e => ∃ s6 : Option D, e = [some (.d (mE m)), some (.d (rE h)), some (.d (nI c)), some (.ol ((lds b h done).dropLast.map rE)), some (.d (rE (lnd b h done))), some (.d (rE (nth m.ends c))), sD s6])
    ⟨none, rfl⟩ (by
      rintro done x rest _ hx ⟨s6, rfl⟩
      have hxe : x ∈ evB b := hev x (by rw [← hx]; simp [-List.map_map, -List.map_append, -List.map_dropLast, -List.map_take, -List.map_drop, -List.map_reverse])
      have hd : ∀ c ∈ done, c ∈ evB b := fun c h => hev c (by rw [← hx]; simp [-List.map_map, -List.map_append, -List.map_dropLast, -List.map_take, -List.map_drop, -List.map_reverse, h])
      have hl : done.length < 40 := by
        have := congrArg List.length hx
        simp [-List.map_map, -List.map_append, -List.map_dropLast, -List.map_take, -List.map_drop, -List.map_reverse] at this hlen
        omega
      refine ⟨_, ?_, some (rE x), rfl⟩
      have e1 : (lds b h (done ++ [x])).dropLast = (lds b h done).dropLast ++ [lnd b h done] := by
        rw [lds_snoc, List.dropLast_concat]
        have := List.dropLast_concat_getLast (lds_ne (b := b) (r := h) (cs := done))
        rw [lds_last] at this
        exact this.symm
      simp [-List.map_map, -List.map_append, -List.map_dropLast, -List.map_take, -List.map_drop, -List.map_reverse, r_changed (lnd_row hh hd) hxe h5, lnd_snoc, e1, map_snoc, lds_len, show done.length < 16777216 by omega])
  have z1 : (lds b h (m.ch.dropLast ++ [nth m.ends c])).dropLast = ldr m h := by
    rw [lds_snoc, List.dropLast_concat]
    unfold ldr Mth.lead
    rw [k.bl, ← lds_tms hh (row_range b) k.drop, tms_range hh.len]
  have z2 : lnd b h (m.ch.dropLast ++ [nth m.ends c]) = tms h (nth m.turns c) := by
    rw [lnd_snoc]
    have hr := k.endr
    have he := ev_row (k.ends _ hce)
    unfold Mth.turns
    rw [nth_map (by simpa [-List.map_map, -List.map_append, -List.map_dropLast, -List.map_take, -List.map_drop, -List.map_reverse] using hc)]
    unfold Mth.turn
    rw [k.bl] at hr ⊢
    rw [← tms_assoc (he.ltl hr), ← lnd_tms hh (row_range b) k.drop, tms_range hh.len]
  have he : rE (lastR m.ch) :: m.ca.map rE = m.ends.map rE := rfl
  have hend : m.ends.length = m.ca.length + 1 := rfl
  rw [z1, z2] at g
  refine rn_of ?_
  simp [-List.map_map, -List.map_append, -List.map_dropLast, -List.map_take, -List.map_drop, -List.map_reverse, m__law_lead, env0, k.last_cut, he, hc, map_snoc, g, nth_map (f := rE) (xs := m.ends) (i := c) (by simpa [-List.map_map, -List.map_append, -List.map_dropLast, -List.map_take, -List.map_drop, -List.map_reverse] using hc), show 1 + m.ca.length ≤ 16777216 by omega, show m.ch.length - 1 + 1 ≤ 16777216 by omega]
/-- what is put into a dict, row by row -/
def inR (L : List (List Nat × D)) (l : List (List Nat)) : List (List Nat × D) := l.foldl (fun L r => putD L r (nI 0)) L
theorem inR_keys (l : List (List Nat)) (L : List (List Nat × D)) : (L.map (·.1)).Nodup → ((inR L l).map (·.1)).Nodup ∧ (∀ r, r ∈ (inR L l).map (·.1) ↔ r ∈ L.map (·.1) ∨ r ∈ l) := by
  induction l generalizing L with
  | nil => intro h; exact ⟨h, fun r => by simp [-List.map_map, -List.map_append, -List.map_dropLast, -List.map_take, -List.map_drop, -List.map_reverse, inR]⟩
  | cons a l ih =>
    intro h
    have hk := putD_keys L a (nI 0)
    have hn : ((putD L a (nI 0)).map (·.1)).Nodup := by
      rw [hk]
      by_cases c : a ∈ L.map (·.1)
      · rw [if_pos c]; exact h
      · rw [if_neg c, List.nodup_append]
        exact ⟨h, by simp [-List.map_map, -List.map_append, -List.map_dropLast, -List.map_take, -List.map_drop, -List.map_reverse], fun x hx y hy e => c (by rw [List.mem_singleton.mp hy] at e; exact e ▸ hx)⟩
    obtain ⟨h1, h2⟩ := ih (putD L a (nI 0)) hn
    refine ⟨h1, fun r => ?_⟩
    have z := h2 r
    show r ∈ (inR (putD L a (nI 0)) l).map (·.1) ↔ _
    rw [z, hk, List.mem_cons]
    by_cases c : a ∈ L.map (·.1)
    · rw [if_pos c]
      constructor
      · rintro (h | h)
        · exact .inl h
        · exact .inr (.inr h)
      · rintro (h | rfl | h)
        · exact .inl h
        · exact .inl c
        · exact .inr h
    · rw [if_neg c, List.mem_append, List.mem_singleton, or_assoc]
theorem inR_len (l : List (List Nat)) : (inR [] l).length = (ddG l).length := by
  obtain ⟨h1, h2⟩ := inR_keys l [] (by simp [-List.map_map, -List.map_append, -List.map_dropLast, -List.map_take, -List.map_drop, -List.map_reverse])
  have z := (ddG_perm (l := l) h1 fun y => by rw [h2]; simp [-List.map_map, -List.map_append, -List.map_dropLast, -List.map_take, -List.map_drop, -List.map_reverse]).length_eq
  rw [List.length_map] at z
  exact z
theorem merge_inR (l : List (List Nat)) (L : List (List Nat × D)) : mergeD (L.map fun p => (kR p.1, p.2)) (l.map fun r => (kR r, nI 0)) = (inR L l).map fun p => (kR p.1, p.2) := by
  induction l generalizing L with
  | nil => rfl
  | cons a l ih =>
    show mergeD (putD (L.map fun p => (kR p.1, p.2)) (kR a) (nI 0)) (l.map fun r => (kR r, nI 0)) = _
    rw [putD_map fun x y => kR_inj, ih]
    rfl
theorem pDict_rows (l : List (List Nat)) : pDictP [.list (l.map fun r => PyData.tuple [rE r, nI 0])] = some (oR (inR [] l)) := by
  show (pairsD (l.map fun r => PyData.tuple [rE r, nI 0])).map (fun qs => R.oT (mergeD [] qs)) = _
  rw [pairs_rows]
  show some (R.oT (mergeD ([].map fun p : List Nat × D => (kR p.1, p.2)) (l.map fun r => (kR r, nI 0)))) = _
  rw [merge_inR]
theorem r_law_true {l : List (List Nat)} (hl : l.length ≤ 16777216) : rn m__law_is_true 2 [.d (.list (l.map rE))] = some (.d (.bool (decide l.Nodup))) := by
  refine rn_of ?_
  simp [-List.map_map, -List.map_append, -List.map_dropLast, -List.map_take, -List.map_drop, -List.map_reverse, m__law_is_true, env0]
  rw [lc_mp (β := D) id (fun r => PyData.tuple [rE r, nI 0]) (fun r hr => by simp [-List.map_map, -List.map_append, -List.map_dropLast, -List.map_take, -List.map_drop, -List.map_reverse]) hl]
  simp [-List.map_map, -List.map_append, -List.map_dropLast, -List.map_take, -List.map_drop, -List.map_reverse, pDict_rows, fz_oR, inR_len, ddG_len_iff]
end Pwk85

set_option Elab.async false
set_option linter.all false
set_option maxRecDepth 100000
set_option maxHeartbeats 4000000
/-! what the law's defs answer: rows of a touch, a drawn touch, a near method -/
namespace Pwk85
open PySem PySem.Spec PyProof.Rows L2 Pw
/-- the rows of a touch -/
def rws (ms : List Mth) : List Nat → List (Nat × Nat) → List (List Nat)
  | _, [] => []
  | h, p :: t => ldr (nth ms p.1) h ++ rws ms (tms h (turnAt ms p)) t
section
variable {b : Nat} {ms : List Mth} {t : List (Nat × Nat)} {h : List Nat} {p : Nat × Nat}
theorem rws_snoc : rws ms h (t ++ [p]) = rws ms h t ++ ldr (nth ms p.1) (hnd ms h t) := by
  induction t generalizing h with
  | nil => simp [-List.map_map, -List.map_append, -List.map_dropLast, -List.map_take, -List.map_drop, -List.map_reverse, rws, hnd]
  | cons q t ih =>
    show ldr (nth ms q.1) h ++ rws ms (tms h (turnAt ms q)) (t ++ [p]) = (ldr (nth ms q.1) h ++ rws ms (tms h (turnAt ms q)) t) ++ _
    rw [ih, List.append_assoc]
    rfl
theorem rws_len (k : ∀ m ∈ ms, m.Ok b) (ht : ∀ p ∈ t, LeadOk ms p) : (rws ms h t).length ≤ t.length * 40 := by
  induction t generalizing h with
  | nil => simp [-List.map_map, -List.map_append, -List.map_dropLast, -List.map_take, -List.map_drop, -List.map_reverse, rws]
  | cons q t ih =>
    have km := k _ (nth_mem (ht q List.mem_cons_self).1)
    have := ih (h := tms h (turnAt ms q)) fun p m => ht p (List.mem_cons_of_mem _ m)
    have hm := km.ml
    have hl := km.lead_len
    simp [-List.map_map, -List.map_append, -List.map_dropLast, -List.map_take, -List.map_drop, -List.map_reverse, rws, ldr]
    omega
theorem r_rung (s : Spl b ms) (h5 : b ≤ 5) (H : Tch ms t) :
    rn m__law_rung 8 [.d (sE ms), .d (.list (t.map tcE))] = some (.d (.tuple [.list ((rws ms (List.range b) t).map rE), .list ((hds ms (List.range b) t).map rE)])) := by
  have hl := H.len
  obtain ⟨e', g, s5, s6, s7, rfl⟩ := for_ex (f := tcE) (xs := t) (q := qTup 2 (qCons (qN 5 false) (qCons (qN 6 false) qNil)))
    (b := mSeq (mSet (qTup 2 (qCons (qN 7 false) (qCons (qN 2 false) qNil))) (mCall n__law_lead m__law_lead (mACons (m2 true pIx (m2 true pIx (mVar 0) (mC (nI 1))) (mVar 5)) (mACons (mVar 2) (mACons (mVar 6) mANil))))) (mPar 3 4 true true (mACons (m2 false pAdd (mVar 3) (mVar 7)) (mACons (m2 false pAdd (mVar 4) (mLst (mACons (mVar 2) mANil))) mANil))))
    (e0 := [some (.d (sE ms)), some (.d (.list (t.map tcE))), some (.d (rE (List.range b))), some (.ol []), some (.ol [rE (List.range b)]), none, none, none])
    (fun done e => ∃ s5 s6 s7 : Option D, e = [some (.d (sE ms)), some (.d (.list (t.map tcE))), some (.d (rE (hnd ms (List.range b) done))), some (.ol ((rws ms (List.range b) done).map rE)), some (.ol ((hds ms (List.range b) done).map rE)), sD s5, sD s6, sD s7])
    ⟨none, none, none, rfl⟩ (by
      rintro done p rest _ hx ⟨s5, s6, s7, rfl⟩
      have hpo : LeadOk ms p := H.ok p (by rw [← hx]; simp [-List.map_map, -List.map_append, -List.map_dropLast, -List.map_take, -List.map_drop, -List.map_reverse])
      have hd : ∀ c ∈ done, LeadOk ms c := fun c h => H.ok c (by rw [← hx]; simp [-List.map_map, -List.map_append, -List.map_dropLast, -List.map_take, -List.map_drop, -List.map_reverse, h])
      have hl2 : done.length < 800 := by
        have := congrArg List.length hx
        simp [-List.map_map, -List.map_append, -List.map_dropLast, -List.map_take, -List.map_drop, -List.map_reverse] at this
        omega
      have km := s.ok _ (nth_mem hpo.1)
      have hc : p.2 < (nth ms p.1).ca.length + 1 := by have := hpo.2; omega
      have hz := r_law_lead km h5 (hnd_row s.ok (row_range b) hd) hc
      have hr := rws_len (h := List.range b) s.ok hd
      have hm := km.ml
      have hll : (ldr (nth ms p.1) (hnd ms (List.range b) done)).length ≤ 40 := by unfold ldr; rw [List.length_map, km.lead_len]; exact hm
      refine ⟨_, ?_, some (nI p.1), some (nI p.2), some (.list ((ldr (nth ms p.1) (hnd ms (List.range b) done)).map rE)), rfl⟩
      simp [-List.map_map, -List.map_append, -List.map_dropLast, -List.map_take, -List.map_drop, -List.map_reverse, hpo.1, hz, rws_snoc, hds_snoc, hnd_snoc, hds_len, map_snoc, turnAt, show (rws ms (List.range b) done).length + (ldr (nth ms p.1) (hnd ms (List.range b) done)).length ≤ 16777216 by omega, show done.length + 1 + 1 ≤ 16777216 by omega, ← List.map_append])
  have hp := s.pos
  refine rn_of ?_
  simp [-List.map_map, -List.map_append, -List.map_dropLast, -List.map_take, -List.map_drop, -List.map_reverse, m__law_rung, env0, hp, (s.ok _ (nth_mem s.pos)).bl, show b ≤ 1000000 by omega, g]
theorem r_touch (s : Spl b ms) {l : List D} (hp : Pot l) {most : Nat} (hm : most ≤ 700) :
    ∃ (t : List (Nat × Nat)) (l' : List D), Pot l' ∧ Tch ms t ∧ t.length ≤ most ∧ rnP m__law_touch 6 l [.d (sE ms), .d (nI most)] = some (.ol (t.map tcE), l') := by
  have four := s.four
  obtain ⟨d, l1, hp1, hd, hr⟩ := r_draw (n := most + 1) hp (by omega) (by omega)
  obtain ⟨e', g, l2, t, s4, s5, rfl, hp2, ht, hl⟩ := for_rg (f := nI) (n := d) (q := qN 4 false)
    (b := mSeq (mSet (qN 5 false) (mCallP n__law_draw m__law_draw (mACons (mVar 0) (mACons (mN true pLen (mACons (m2 true pIx (mVar 1) (mC (nI 1))) mANil)) mANil)))) (mDrp (mMtL gApp (mVar 3) (mACons (mTup (mACons (mVar 5) (mACons (mCallP n__law_draw m__law_draw (mACons (mVar 0) (mACons (m2 false pAdd (mN true pLen (mACons (m2 true pIx (m2 true pIx (m2 true pIx (mVar 1) (mC (nI 1))) (mVar 5)) (mC (nI 3))) mANil)) (mC (nI 1))) mANil))) mANil))) mANil))))
    (e0 := [some (.pl l1), some (.d (sE ms)), some (.d (nI most)), some (.ol []), none, none])
    (fun i e => ∃ (l : List D) (t : List (Nat × Nat)) (s4 s5 : Option D), e = [some (.pl l), some (.d (sE ms)), some (.d (nI most)), some (.ol (t.map tcE)), sD s4, sD s5] ∧ Pot l ∧ (∀ p ∈ t, LeadOk ms p) ∧ t.length = i)
    ⟨l1, [], none, none, rfl, hp1, fun p h => absurd h List.not_mem_nil, rfl⟩ (by
      rintro i _ hi ⟨l, t, s4, s5, rfl, hp, ht, hl⟩
      obtain ⟨a, l2, hp2, ha, hra⟩ := r_draw (n := ms.length) hp s.pos (by omega)
      have hcl := (s.ok _ (nth_mem ha)).cl
      obtain ⟨c, l3, hp3, hc, hrc⟩ := r_draw (n := (nth ms a).ca.length + 1) hp2 (by omega) (by omega)
      refine ⟨_, ?_, l3, t ++ [(a, c)], some (nI i), some (nI a), rfl, hp3, fun p hq => ?_, by simp [-List.map_map, -List.map_append, -List.map_dropLast, -List.map_take, -List.map_drop, -List.map_reverse, hl]⟩
      · simp [-List.map_map, -List.map_dropLast, -List.map_take, -List.map_drop, -List.map_reverse, hra, hrc, ha, show t.length < 16777216 by omega, List.map_append]
      · rcases List.mem_append.mp hq with hq | hq
        · exact ht p hq
        · rw [List.mem_singleton.mp hq]
          exact ⟨ha, by simp [-List.map_map, -List.map_append, -List.map_dropLast, -List.map_take, -List.map_drop, -List.map_reverse]; omega⟩)
  refine ⟨t, l2, hp2, ⟨ht, by omega⟩, by omega, rnP_of (e := [some (.d (sE ms)), some (.d (nI most)), none, sD s4, sD s5]) ?_⟩
  simp [-List.map_map, -List.map_append, -List.map_dropLast, -List.map_take, -List.map_drop, -List.map_reverse, m__law_touch, env0, hr, show d ≤ 1000000 by omega, g]
end
end Pwk85

set_option Elab.async false
set_option linter.all false
set_option maxRecDepth 100000
set_option maxHeartbeats 4000000
/-! what the law's defs answer: a near method, a drawn splice -/
namespace Pwk85
open PySem PySem.Spec PyProof.Rows L2 Pw
theorem lastR_nth (l : List (List Nat)) : lastR l = nth l (l.length - 1) := by
  unfold lastR Pw.nth
  rw [List.getLastD_eq_getLast?, List.getLast?_eq_getElem?]
  rfl
theorem lastR_snoc (l : List (List Nat)) (a : List Nat) : lastR (l ++ [a]) = a := by
  unfold lastR
  simp [-List.map_map, -List.map_append, -List.map_dropLast, -List.map_take, -List.map_drop, -List.map_reverse]
/-- the same but for the changes: which end alike -/
structure Alike (m m' : Mth) : Prop where
  b : m'.b = m.b
  ca : m'.ca = m.ca
  sub : ∀ c ∈ m'.ch, c ∈ m.ch
  ne : m'.ch ≠ []
  ln : m'.ch.length ≤ m.ch.length + 3
  la : lastR m'.ch = lastR m.ch
theorem Alike.ok {b : Nat} {m m' : Mth} (a : Alike m m') (k : m.Ok b) (h : m.ch.length ≤ 37) : m'.Ok b :=
  ⟨by rw [a.b, k.bl], fun c hc => k.ev c (a.sub c hc), fun c hc => k.ec c (a.ca ▸ hc), a.ne, by have := a.ln; omega, by rw [a.ca]; exact k.cl, by rw [a.ca, a.la]; exact k.nd⟩
theorem r_near {b : Nat} {m : Mth} (k : m.Ok b) {l : List D} (hp : Pot l) : ∃ (m' : Mth) (l' : List D), Pot l' ∧ Alike m m' ∧ rnP m__law_near 9 l [.d (mE m)] = some (.d (mE m'), l') := by
  have hml := k.ml
  have hpos := List.length_pos_iff.mpr k.ne
  obtain ⟨a, l1, hp1, ha, hra⟩ := r_draw (n := m.ch.length) hp hpos (by omega)
  obtain ⟨w, l2, hp2, hw, hrw⟩ := r_draw (n := 4) hp1 (by decide) (by decide)
  have hne := k.ne
  obtain ⟨mb, ch, ca⟩ := m
  simp only at *
  have lc := k.last_cut
  simp only at lc
  rcases (show w = 0 ∨ w = 1 ∨ w = 2 ∨ w = 3 by omega) with rfl | rfl | rfl | rfl
  · by_cases hs : a + 2 < ch.length
    · refine ⟨⟨mb, (ch.set a (nth ch (a + 1))).set (a + 1) (nth ch a), ca⟩, l2, hp2, ⟨rfl, rfl, fun c hc => ?_, fun e => ?_, by simp [-List.map_map, -List.map_append, -List.map_dropLast, -List.map_take, -List.map_drop, -List.map_reverse], ?_⟩, rnP_of (e := [some (.d (mE ⟨mb, ch, ca⟩)), some (.d (.str "method")), some (.d (nI mb)), some (.d (.tuple (ch.map rE))), some (.d (.tuple (ca.map rE))), some (.d (nI a)), some (.d (nI 0)), some (.ol (((ch.set a (nth ch (a + 1))).set (a + 1) (nth ch a)).map rE))]) ?_⟩
      · simp only at hc
        rcases List.mem_or_eq_of_mem_set hc with hc | rfl
        · rcases List.mem_or_eq_of_mem_set hc with hc | rfl
          · exact hc
          · exact nth_mem (xs := ch) (by omega)
        · exact nth_mem (xs := ch) (by omega)
      · have := congrArg List.length e
        simp only [List.length_set, List.length_nil] at this
        omega
      · simp only
        rw [lastR_nth, lastR_nth, List.length_set, List.length_set, nth_set_ne (i := a + 1) (j := ch.length - 1) (by omega), nth_set_ne (i := a) (j := ch.length - 1) (by omega)]
      · simp [-List.map_map, -List.map_append, -List.map_dropLast, -List.map_take, -List.map_drop, -List.map_reverse, m__law_near, env0, hra, hrw, hs, show a + 1 < ch.length by omega, show a < ch.length by omega, List.map_set]
    · refine ⟨⟨mb, ch, ca⟩, l2, hp2, ⟨rfl, rfl, fun c hc => hc, hne, by simp [-List.map_map, -List.map_append, -List.map_dropLast, -List.map_take, -List.map_drop, -List.map_reverse], rfl⟩, rnP_of (e := [some (.d (mE ⟨mb, ch, ca⟩)), some (.d (.str "method")), some (.d (nI mb)), some (.d (.tuple (ch.map rE))), some (.d (.tuple (ca.map rE))), some (.d (nI a)), some (.d (nI 0)), some (.ol (ch.map rE))]) ?_⟩
      simp [-List.map_map, -List.map_append, -List.map_dropLast, -List.map_take, -List.map_drop, -List.map_reverse, m__law_near, env0, hra, hrw, hs]
  · refine ⟨⟨mb, ch.dropLast.reverse ++ [lastR ch], ca⟩, l2, hp2, ⟨rfl, rfl, fun c hc => ?_, by simp [-List.map_map, -List.map_append, -List.map_dropLast, -List.map_take, -List.map_drop, -List.map_reverse], by simp [-List.map_map, -List.map_append, -List.map_dropLast, -List.map_take, -List.map_drop, -List.map_reverse]; omega, lastR_snoc _ _⟩, rnP_of (e := [some (.d (mE ⟨mb, ch, ca⟩)), some (.d (.str "method")), some (.d (nI mb)), some (.d (.tuple (ch.map rE))), some (.d (.tuple (ca.map rE))), some (.d (nI a)), some (.d (nI 1)), some (.ol ((ch.dropLast.reverse ++ [lastR ch]).map rE))]) ?_⟩
    · simp only at hc
      rcases List.mem_append.mp hc with hc | hc
      · exact List.dropLast_subset _ (List.mem_reverse.mp hc)
      · rw [List.mem_singleton.mp hc]
        exact k.last
    · simp [-List.map_map, -List.map_append, -List.map_dropLast, -List.map_take, -List.map_drop, -List.map_reverse, m__law_near, env0, hra, hrw, lc, ← List.map_reverse, map_snoc, show ch.length - 1 + 1 ≤ 16777216 by omega]
  · by_cases h4 : ch.length < 4
    · refine ⟨⟨mb, ch ++ ch, ca⟩, l2, hp2, ⟨rfl, rfl, fun c hc => (List.mem_append.mp hc).elim id id, by simp [-List.map_map, -List.map_append, -List.map_dropLast, -List.map_take, -List.map_drop, -List.map_reverse, hne], by simp [-List.map_map, -List.map_append, -List.map_dropLast, -List.map_take, -List.map_drop, -List.map_reverse]; omega, ?_⟩, rnP_of (e := [some (.d (mE ⟨mb, ch, ca⟩)), some (.d (.str "method")), some (.d (nI mb)), some (.d (.tuple (ch.map rE))), some (.d (.tuple (ca.map rE))), some (.d (nI a)), some (.d (nI 2)), some (.ol (ch.map rE))]) ?_⟩
      · simp only
        rw [lastR_nth, lastR_nth, nth_append_ge (by simp [-List.map_map, -List.map_append, -List.map_dropLast, -List.map_take, -List.map_drop, -List.map_reverse]; omega)]
        congr 1
        simp [-List.map_map, -List.map_append, -List.map_dropLast, -List.map_take, -List.map_drop, -List.map_reverse]
        omega
      · have hz : pMulT (.tuple (ch.map rE)) (nI 2) = some (.d (.tuple ((ch ++ ch).map rE))) := by
          rw [pMulT_2 (by decide) (by decide) (by simp [-List.map_map, -List.map_append, -List.map_dropLast, -List.map_take, -List.map_drop, -List.map_reverse]; omega) (by simpa [-List.map_map, -List.map_append, -List.map_dropLast, -List.map_take, -List.map_drop, -List.map_reverse] using hne)]
          simp [-List.map_map, -List.map_dropLast, -List.map_take, -List.map_drop, -List.map_reverse, List.replicate, List.map_append]
        simp [-List.map_map, -List.map_append, -List.map_dropLast, -List.map_take, -List.map_drop, -List.map_reverse, m__law_near, env0, hra, hrw, h4, hz]
    · refine ⟨⟨mb, ch, ca⟩, l2, hp2, ⟨rfl, rfl, fun c hc => hc, hne, by simp [-List.map_map, -List.map_append, -List.map_dropLast, -List.map_take, -List.map_drop, -List.map_reverse], rfl⟩, rnP_of (e := [some (.d (mE ⟨mb, ch, ca⟩)), some (.d (.str "method")), some (.d (nI mb)), some (.d (.tuple (ch.map rE))), some (.d (.tuple (ca.map rE))), some (.d (nI a)), some (.d (nI 2)), some (.ol (ch.map rE))]) ?_⟩
      simp [-List.map_map, -List.map_append, -List.map_dropLast, -List.map_take, -List.map_drop, -List.map_reverse, m__law_near, env0, hra, hrw, h4]
  · refine ⟨⟨mb, ch, ca⟩, l2, hp2, ⟨rfl, rfl, fun c hc => hc, hne, by simp [-List.map_map, -List.map_append, -List.map_dropLast, -List.map_take, -List.map_drop, -List.map_reverse], rfl⟩, rnP_of (e := [some (.d (mE ⟨mb, ch, ca⟩)), some (.d (.str "method")), some (.d (nI mb)), some (.d (.tuple (ch.map rE))), some (.d (.tuple (ca.map rE))), some (.d (nI a)), some (.d (nI 3)), some (.ol (ch.map rE))]) ?_⟩
    simp [-List.map_map, -List.map_append, -List.map_dropLast, -List.map_take, -List.map_drop, -List.map_reverse, m__law_near, env0, hra, hrw]
end Pwk85

set_option Elab.async false
set_option linter.all false
set_option maxRecDepth 100000
set_option maxHeartbeats 4000000
/-! what the law's defs answer: a drawn splice -/
namespace Pwk85
open PySem PySem.Spec PyProof.Rows L2 Pw
def sO (o : Option (List D)) : Option R := o.map R.ol
@[simp] theorem notPl_sO {o : Option (List D)} : notPl (some (sO o)) = true := by cases o <;> rfl
@[simp] theorem sO_some {x : List D} : sO (some x) = some (R.ol x) := rfl
@[simp] theorem sO_none : sO none = none := rfl
/-- a list that is the def's own, or has been given away -/
def Mine (r : R) (xs : List D) : Prop := r = .ol xs ∨ r = .d (.list xs)
section
variable {b : Nat}
def E15 (l : List D) (b most long : Nat) (F : List Mth) (ev : R) (s6 s7 s8 : Option D) (s9 : Option (List D)) (s10 s11 : Option D) (s12 : Option (List D)) : En :=
  [some (.pl l), some (.d (nI b)), some (.d (nI most)), some (.d (nI long)), some (.ol (F.map mE)), some ev, sD s6, sD s7, sD s8, sO s9, sD s10, sD s11, sO s12, none, none]
/-- a method that may be drawn -/
def Drw (b L : Nat) (m : Mth) : Prop := m.Ok b ∧ m.ch.length ≤ L
/-- changes that may be drawn -/
def Chs (b L : Nat) (cs : List (List Nat)) : Prop := cs ≠ [] ∧ (∀ c ∈ cs, c ∈ evB b) ∧ cs.length ≤ L
theorem ev_ne (h : b = 3 ∨ b = 4 ∨ b = 5) : evB b ≠ [] ∧ (evB b).length ≤ 7 := by
  rcases h with rfl | rfl | rfl <;> decide
theorem s_pick (h : b = 3 ∨ b = 4 ∨ b = 5) {l : List D} (hp : Pot l) : ∃ c ∈ evB b, ∃ l', Pot l' ∧ rnP m__law_pick 2 l [.d (.list ((evB b).map rE))] = some (.d (rE c), l') :=
  r_pick (f := rE) (xs := evB b) hp (.inl rfl) (ev_ne h).1 (by have := (ev_ne h).2; omega)
def bS1 : MS := (mPar 7 8 false false (mACons (m2 false pAdd (mC (nI 1)) (mCallP n__law_draw m__law_draw (mACons (mVar 0) (mACons (mVar 3) mANil)))) (mACons (mCallP n__law_draw m__law_draw (mACons (mVar 0) (mACons (mC (nI 4)) mANil))) mANil)))
def bS2 : MS := (mSet (qN 9 true) (mLc (mRgI (mG1 (mVar 7))) (qN 13 false) mYes (mCallP n__law_pick m__law_pick (mACons (mVar 0) (mACons (mFrz (mVar 5)) mANil))) [13]))
def bS3 : MS := (mIfS (mAndT (mTst (m2 true pEqT (mVar 8) (mC (nI 0)))) (mTst (m2 true pNeT (mVar 4) (mLst mANil)))) (mSet (qN 9 true) (mN true pLst (mACons (m2 false pAdd (mRev (mCut (m2 true pIx (m2 true pIx (mVar 4) (m1 true pNeg (mC (nI 1)))) (mC (nI 2))) mNo (mSo (m1 true pNeg (mC (nI 1)))))) (mCut (m2 true pIx (m2 true pIx (mVar 4) (m1 true pNeg (mC (nI 1)))) (mC (nI 2))) (mSo (m1 true pNeg (mC (nI 1)))) mNo)) mANil))) mNext)
def bS4 : MS := (mIfS (mTst (m2 true pEqT (mVar 8) (mC (nI 1)))) (mSeq (mPar 10 11 false false (mACons (mCallP n__law_pick m__law_pick (mACons (mVar 0) (mACons (mFrz (mVar 5)) mANil))) (mACons (mCallP n__law_pick m__law_pick (mACons (mVar 0) (mACons (mFrz (mVar 5)) mANil))) mANil))) (mSet (qN 9 true) (m2 false pMul (mLst (mACons (mVar 10) (mACons (mVar 11) mANil))) (m2 false pAdd (mC (nI 1)) (mCallP n__law_draw m__law_draw (mACons (mVar 0) (mACons (mC (nI 3)) mANil))))))) mNext)
def bS5 : MS := (mSet (qN 12 true) (mCallP n__law_mixed m__law_mixed (mACons (mVar 0) (mACons (mFrz (mLc (mSq (mFrz (mVar 5))) (qN 14 false) (mTst (m2 true pNeT (mVar 14) (m2 true pIx (mVar 9) (m1 true pNeg (mC (nI 1)))))) (mVar 14) [14])) mANil))))
def bS6 : MS := (mDrp (mMtL gApp (mVar 4) (mACons (mTup (mACons (mC (.str "method")) (mACons (mVar 1) (mACons (mN true pTup (mACons (mVar 9) mANil)) (mACons (mN true pTup (mACons (mCut (mVar 12) mNo (mSo (mCallP n__law_draw m__law_draw (mACons (mVar 0) (mACons (mC (nI 2)) mANil))))) mANil)) mANil))))) mANil)))
def bS7 : MS := (mIfS (mAndT (mTst (m2 true pEqT (mVar 8) (mC (nI 2)))) (mTst (m2 true pGt (mN true pLen (mACons (mVar 4) mANil)) (mC (nI 1))))) (mSet (qSub (mVar 4) (m1 true pNeg (mC (nI 1)))) (m2 true pIx (mVar 4) (mC (nI 0)))) mNext)
def bS : MS := (mSeq bS1 (mSeq bS2 (mSeq bS3 (mSeq bS4 (mSeq bS5 (mSeq bS6 bS7))))))
theorem splice_eq : m__law_splice = mSeq (mParT [ (4, true) , (5, true) ] (mACons (mLst mANil) (mACons (mCall n__law_changes m__law_changes (mACons (mVar 1) mANil)) mANil))) (mSeq (mFor (mRgI (mG1 (m2 false pAdd (mC (nI 1)) (mCallP n__law_draw m__law_draw (mACons (mVar 0) (mACons (mVar 2) mANil)))))) (qN 6 false) bS) (mRet (mTup (mACons (mC (.str "splice")) (mACons (mN true pTup (mACons (mVar 4) mANil)) mANil))))) := rfl
theorem s1 {l : List D} {most long : Nat} {F : List Mth} {ev : R} {s6 s7 s8 : Option D} {s9 : Option (List D)} {s10 s11 : Option D} {s12 : Option (List D)} (hp : Pot l) (h1 : 0 < long) (h2 : long < 1000) :
    ∃ many way l', Pot l' ∧ 0 < many ∧ many ≤ long ∧ way < 4 ∧ bS1 (E15 l b most long F ev s6 s7 s8 s9 s10 s11 s12) = .nx (E15 l' b most long F ev s6 (some (nI many)) (some (nI way)) s9 s10 s11 s12) := by
  obtain ⟨d, l1, hp1, hd, hr⟩ := r_draw hp h1 (by omega)
  obtain ⟨w, l2, hp2, hw, hrw⟩ := r_draw (n := 4) hp1 (by decide) (by decide)
  exact ⟨1 + d, w, l2, hp2, by omega, by omega, hw, by simp [-List.map_map, -List.map_append, -List.map_dropLast, -List.map_take, -List.map_drop, -List.map_reverse, bS1, E15, hr, hrw]⟩
theorem s2 (h : b = 3 ∨ b = 4 ∨ b = 5) {l : List D} {most long many : Nat} {F : List Mth} {ev : R} {s6 s8 : Option D} {s9 : Option (List D)} {s10 s11 : Option D} {s12 : Option (List D)} (hp : Pot l) (h1 : 0 < many) (h2 : many < 1000) (hev : Mine ev ((evB b).map rE)) :
    ∃ cs l', Pot l' ∧ Chs b many cs ∧ bS2 (E15 l b most long F ev s6 (some (nI many)) s8 s9 s10 s11 s12) = .nx (E15 l' b most long F (.d (.list ((evB b).map rE))) s6 (some (nI many)) s8 (some (cs.map rE)) s10 s11 s12) := by
  obtain ⟨ys, e', g, cs, l', ev', hp', hev', rfl, hcs, hl, rfl⟩ := lc_ex (f := nI) (q := qN 13 false) (tt := mYes) (me := mCallP n__law_pick m__law_pick (mACons (mVar 0) (mACons (mFrz (mVar 5)) mANil))) (vs := [13]) (xs := List.range many) (e0 := E15 l b most long F ev s6 (some (nI many)) s8 s9 s10 s11 s12)
    (fun done acc e => ∃ (cs : List (List Nat)) (l' : List D) (ev' : R), Pot l' ∧ (Mine ev' ((evB b).map rE) ∧ (done ≠ [] → ev' = .d (.list ((evB b).map rE)))) ∧ acc = cs.map rE ∧ (∀ c ∈ cs, c ∈ evB b) ∧ cs.length = done.length ∧ e = E15 l' b most long F ev' s6 (some (nI many)) s8 s9 s10 s11 s12)
    ⟨[], l, ev, hp, ⟨hev, fun h => absurd rfl h⟩, rfl, fun c hc => absurd hc List.not_mem_nil, rfl, rfl⟩ (by
      rintro done a rest acc _ hx ⟨cs, l', ev', hp, hev, rfl, hcs, hl, rfl⟩
      obtain ⟨c, hc, l2, hp2, hr⟩ := s_pick h hp
      refine ⟨rE c, _, ?_, cs ++ [c], l2, .d (.list ((evB b).map rE)), hp2, ⟨.inr rfl, fun _ => rfl⟩, by simp [-List.map_map, -List.map_dropLast, -List.map_take, -List.map_drop, -List.map_reverse, List.map_append], fun x hx => ?_, by simp [-List.map_map, -List.map_dropLast, -List.map_take, -List.map_drop, -List.map_reverse, hl], rfl⟩
      · rcases hev.1 with rfl | rfl <;> simp [-List.map_map, -List.map_append, -List.map_dropLast, -List.map_take, -List.map_drop, -List.map_reverse, E15, hr]
      · rcases List.mem_append.mp hx with hx | hx
        · exact hcs x hx
        · rw [List.mem_singleton.mp hx]; exact hc) (by simp [-List.map_map, -List.map_append, -List.map_dropLast, -List.map_take, -List.map_drop, -List.map_reverse]; omega)
  refine ⟨cs, l', hp', ⟨fun e => ?_, hcs, by simp [-List.map_map, -List.map_append, -List.map_dropLast, -List.map_take, -List.map_drop, -List.map_reverse] at hl; omega⟩, ?_⟩
  · rw [e] at hl
    simp [-List.map_map, -List.map_append, -List.map_dropLast, -List.map_take, -List.map_drop, -List.map_reverse] at hl
    omega
  · have hne : List.range many ≠ [] := by simp [-List.map_map, -List.map_append, -List.map_dropLast, -List.map_take, -List.map_drop, -List.map_reverse]; omega
    have e := hev'.2 hne
    subst e
    simp only [E15, sD_some] at g
    simp [-List.map_map, -List.map_append, -List.map_dropLast, -List.map_take, -List.map_drop, -List.map_reverse, bS2, E15, show many ≤ 1000000 by omega, g]
instance nc_m : Nc mE 3 := ⟨fun m => by
  have h1 : okDs 1 (m.ch.map rE) = true := okDs_map (n := 1) m.ch
  have h2 : okDs 1 (m.ca.map rE) = true := okDs_map (n := 1) m.ca
  have h4 : PyData.strOk (Str.ofString "method") = true := by decide +kernel
  have h3 : okD 2 (nI m.b) = true := rfl
  show okD (2 + 1) (.tuple _) = true
  simp [-List.map_map, -List.map_append, -List.map_dropLast, -List.map_take, -List.map_drop, -List.map_reverse, okD, okDs, h1, h2, h3, h4], fun m o => by
  have h1 := (inferInstance : Nc (tE rE) 2).eq m.ch o.ch
  have h2 := (inferInstance : Nc (tE rE) 2).eq m.ca o.ca
  have h3 := (inferInstance : Nc nI 0).eq m.b o.b
  have h4 : (Str.ofString "method" == Str.ofString "method") = true := by decide +kernel
  show PyData.eqv (.tuple _) (.tuple _) = _
  simp only [PyData.eqv, PyData.eqvAll] at h1 h2 h3 ⊢
  rw [h1, h2, h3, h4, Bool.true_and, Bool.and_true]
  cases m
  cases o
  simp only [Mth.mk.injEq, Bool.decide_and]⟩
theorem s3 {l : List D} {most long L : Nat} {F : List Mth} {ev : R} {s6 s7 : Option D} {w : Nat} {cs : List (List Nat)} {s10 s11 : Option D} {s12 : Option (List D)} (hc : Chs b L cs) (hL : L ≤ 40) (hF : ∀ m ∈ F, Drw b L m) :
    ∃ cs', Chs b L cs' ∧ bS3 (E15 l b most long F ev s6 s7 (some (nI w)) (some (cs.map rE)) s10 s11 s12) = .nx (E15 l b most long F ev s6 s7 (some (nI w)) (some (cs'.map rE)) s10 s11 s12) := by
  by_cases hw : w = 0
  · cases hF2 : F.getLast? with
    | none =>
      have : F = [] := List.getLast?_eq_none_iff.mp hF2
      subst this
      have z : pNeT (.list []) (.list []) = some (.d (.bool false)) := pNeT_l0 (f := mE) (xs := [])
      exact ⟨cs, hc, by simp [-List.map_map, -List.map_append, -List.map_dropLast, -List.map_take, -List.map_drop, -List.map_reverse, bS3, E15, hw, z]⟩
    | some m =>
      have hm : m ∈ F := List.mem_of_getLast? hF2
      have hne : F ≠ [] := fun e => by rw [e] at hm; cases hm
      obtain ⟨k, kl⟩ := hF m hm
      have hpos := List.length_pos_iff.mpr k.ne
      refine ⟨m.ch.dropLast.reverse ++ [lastR m.ch], ⟨by simp [-List.map_map, -List.map_append, -List.map_dropLast, -List.map_take, -List.map_drop, -List.map_reverse], fun c hc => ?_, by simp [-List.map_map, -List.map_append, -List.map_dropLast, -List.map_take, -List.map_drop, -List.map_reverse]; omega⟩, ?_⟩
      · rcases List.mem_append.mp hc with hc | hc
        · exact k.drop c (List.mem_reverse.mp hc)
        · rw [List.mem_singleton.mp hc]
          exact k.ev _ k.last
      · simp [-List.map_map, -List.map_append, -List.map_dropLast, -List.map_take, -List.map_drop, -List.map_reverse, bS3, E15, hw, pNeT_l0 (f := mE), hne, pIx_last hF2, k.last_cut, ← List.map_reverse, map_snoc, show m.ch.length - 1 + 1 ≤ 16777216 by omega]
  · exact ⟨cs, hc, by simp [-List.map_map, -List.map_append, -List.map_dropLast, -List.map_take, -List.map_drop, -List.map_reverse, bS3, E15, hw]⟩
theorem s4 (h : b = 3 ∨ b = 4 ∨ b = 5) {l : List D} {most long L : Nat} {F : List Mth} {s6 s7 : Option D} {w : Nat} {cs : List (List Nat)} {s10 s11 : Option D} {s12 : Option (List D)} (hp : Pot l) (hc : Chs b L cs) (hL : 6 ≤ L) :
    ∃ cs' l' s10' s11', Pot l' ∧ Chs b L cs' ∧ bS4 (E15 l b most long F (.d (.list ((evB b).map rE))) s6 s7 (some (nI w)) (some (cs.map rE)) s10 s11 s12) = .nx (E15 l' b most long F (.d (.list ((evB b).map rE))) s6 s7 (some (nI w)) (some (cs'.map rE)) s10' s11' s12) := by
  by_cases hw : w = 1
  · obtain ⟨c1, h1, l1, hp1, hr1⟩ := s_pick h hp
    obtain ⟨c2, h2, l2, hp2, hr2⟩ := s_pick h hp1
    obtain ⟨d, l3, hp3, hd, hr3⟩ := r_draw (n := 3) hp2 (by decide) (by decide)
    have hz : pMul (.list [rE c1, rE c2]) (nI (1 + d)) = some (.ol ((List.replicate (1 + d) [c1, c2]).flatten.map rE)) := by
      rw [pMul_list (by simp [-List.map_map, -List.map_append, -List.map_dropLast, -List.map_take, -List.map_drop, -List.map_reverse]; omega) (by omega)]
      simp [-List.map_map, -List.map_append, -List.map_dropLast, -List.map_take, -List.map_drop, -List.map_reverse, List.map_flatten]
    have hmem : ∀ c ∈ (List.replicate (1 + d) [c1, c2]).flatten, c ∈ evB b := fun c hc => by
      obtain ⟨x, hx, hc⟩ := List.mem_flatten.mp hc
      rw [List.eq_of_mem_replicate hx] at hc
      simp [-List.map_map, -List.map_append, -List.map_dropLast, -List.map_take, -List.map_drop, -List.map_reverse] at hc
      rcases hc with rfl | rfl <;> assumption
    have hlen : (List.replicate (1 + d) [c1, c2]).flatten.length = (1 + d) * 2 := by simp [-List.map_map, -List.map_append, -List.map_dropLast, -List.map_take, -List.map_drop, -List.map_reverse]
    refine ⟨(List.replicate (1 + d) [c1, c2]).flatten, l3, some (rE c1), some (rE c2), hp3, ⟨fun e => ?_, hmem, by omega⟩, ?_⟩
    · rw [e] at hlen
      simp only [List.length_nil] at hlen
      omega
    · simp [-List.map_map, -List.map_append, -List.map_dropLast, -List.map_take, -List.map_drop, -List.map_reverse, bS4, E15, hw, hr1, hr2, hr3, hz]
  · exact ⟨cs, l, s10, s11, hp, hc, by simp [-List.map_map, -List.map_append, -List.map_dropLast, -List.map_take, -List.map_drop, -List.map_reverse, bS4, E15, hw]⟩
theorem s5 {l : List D} {most long L : Nat} {F : List Mth} {s6 s7 s8 : Option D} {cs : List (List Nat)} {s10 s11 : Option D} {s12 : Option (List D)} (h : b = 3 ∨ b = 4 ∨ b = 5) (hp : Pot l) (hc : Chs b L cs) :
    ∃ (left : List (List Nat)) (l' : List D), Pot l' ∧ (∀ c ∈ left, c ∈ evB b ∧ c ≠ lastR cs) ∧ bS5 (E15 l b most long F (.d (.list ((evB b).map rE))) s6 s7 s8 (some (cs.map rE)) s10 s11 s12) = .nx (E15 l' b most long F (.d (.list ((evB b).map rE))) s6 s7 s8 (some (cs.map rE)) s10 s11 (some (left.map rE))) := by
  have hev := (ev_ne h).2
  have hla : cs.getLast? = some (lastR cs) := by
    unfold lastR
    rw [List.getLastD_eq_getLast?]
    cases e : cs.getLast? with
    | none => exact absurd (List.getLast?_eq_none_iff.mp e) hc.1
    | some x => rfl
  have hfl : ((evB b).filter fun c => !decide (c = lastR cs)).length ≤ 7 := by
    have := List.length_filter_le (fun c => !decide (c = lastR cs)) (evB b)
    omega
  obtain ⟨left, l', hp', hm, hlen, hr⟩ := r_mixed (f := rE) (xs := (evB b).filter fun c => !decide (c = lastR cs)) hp (.inl rfl) (by omega) (fun ys => pNeT_l0)
  refine ⟨left, l', hp', fun c hc => ?_, ?_⟩
  · have := hm c hc
    rw [List.mem_filter] at this
    exact ⟨this.1, by simpa [-List.map_map, -List.map_append, -List.map_dropLast, -List.map_take, -List.map_drop, -List.map_reverse] using this.2⟩
  · have g : lcGo (qN 14 false) (mTst (m2 true pNeT (mVar 14) (m2 true pIx (mVar 9) (m1 true pNeg (mC (nI 1)))))) (mVar 14) [14] [] ((evB b).map rE) (E15 l b most long F (.d (.list ((evB b).map rE))) s6 s7 s8 (some (cs.map rE)) s10 s11 s12) = .ok ((((evB b).filter fun c => !decide (c = lastR cs)).map id).map rE) (E15 l b most long F (.d (.list ((evB b).map rE))) s6 s7 s8 (some (cs.map rE)) s10 s11 s12) := by
      refine lc_fil rE (fun c => !decide (c = lastR cs)) id (fun c hc => ?_) (by omega)
      by_cases e : c = lastR cs
      · simp [-List.map_map, -List.map_append, -List.map_dropLast, -List.map_take, -List.map_drop, -List.map_reverse, E15, pIx_last hla, e]
      · simp [-List.map_map, -List.map_append, -List.map_dropLast, -List.map_take, -List.map_drop, -List.map_reverse, E15, pIx_last hla, e]
    rw [List.map_id] at g
    simp only [E15, sO_some] at g
    simp [-List.map_map, -List.map_append, -List.map_dropLast, -List.map_take, -List.map_drop, -List.map_reverse, bS5, E15, g, hr]
theorem s6' {l : List D} {most long L : Nat} {F : List Mth} {ev : R} {s6 s7 s8 : Option D} {cs left : List (List Nat)} {s10 s11 : Option D} (hp : Pot l) (hc : Chs b L cs) (hL : L ≤ 40) (hl : ∀ c ∈ left, c ∈ evB b ∧ c ≠ lastR cs) (hF : F.length < 1000) :
    ∃ (m : Mth) (l' : List D), Pot l' ∧ Drw b L m ∧ bS6 (E15 l b most long F ev s6 s7 s8 (some (cs.map rE)) s10 s11 (some (left.map rE))) = .nx (E15 l' b most long (F ++ [m]) ev s6 s7 s8 (some (cs.map rE)) s10 s11 (some (left.map rE))) := by
  obtain ⟨d, l1, hp1, hd, hr⟩ := r_draw (n := 2) hp (by decide) (by decide)
  obtain ⟨h1, h2, h3⟩ := hc
  refine ⟨⟨b, cs, left.take d⟩, l1, hp1, ⟨⟨rfl, h2, fun c hc => (hl c (List.mem_of_mem_take hc)).1, h1, by simp only; omega, by simp [-List.map_map, -List.map_append, -List.map_dropLast, -List.map_take, -List.map_drop, -List.map_reverse]; omega, ?_⟩, h3⟩, ?_⟩
  · simp only
    rcases (show d = 0 ∨ d = 1 by omega) with rfl | rfl
    · simp [-List.map_map, -List.map_append, -List.map_dropLast, -List.map_take, -List.map_drop, -List.map_reverse]
    · cases left with
      | nil => simp [-List.map_map, -List.map_append, -List.map_dropLast, -List.map_take, -List.map_drop, -List.map_reverse]
      | cons x r => simpa [-List.map_map, -List.map_append, -List.map_dropLast, -List.map_take, -List.map_drop, -List.map_reverse] using (hl x List.mem_cons_self).2
  · simp [-List.map_map, -List.map_append, -List.map_dropLast, -List.map_take, -List.map_drop, -List.map_reverse, bS6, E15, hr, show F.length < 16777216 by omega, map_snoc, ← List.map_take]
    simp [-List.map_map, -List.map_dropLast, -List.map_take, -List.map_drop, -List.map_reverse, List.map_append]
theorem s7' {l : List D} {most long L w : Nat} {F : List Mth} {ev : R} {s6 s7 : Option D} {s9 : Option (List D)} {s10 s11 : Option D} {s12 : Option (List D)} (hF : ∀ m ∈ F, Drw b L m) :
    ∃ F' : List Mth, (∀ m ∈ F', Drw b L m) ∧ F'.length = F.length ∧ bS7 (E15 l b most long F ev s6 s7 (some (nI w)) s9 s10 s11 s12) = .nx (E15 l b most long F' ev s6 s7 (some (nI w)) s9 s10 s11 s12) := by
  by_cases hw : w = 2 ∧ 1 < F.length
  · refine ⟨F.set (F.length - 1) (nth F 0), fun m hm => ?_, by simp [-List.map_map, -List.map_append, -List.map_dropLast, -List.map_take, -List.map_drop, -List.map_reverse], ?_⟩
    · rcases List.mem_or_eq_of_mem_set hm with hm | rfl
      · exact hF m hm
      · exact hF _ (nth_mem (by omega))
    · simp [-List.map_map, -List.map_append, -List.map_dropLast, -List.map_take, -List.map_drop, -List.map_reverse, bS7, E15, hw.1, hw.2, show 0 < F.length by omega, putAt_last, List.map_set]
  · refine ⟨F, hF, rfl, ?_⟩
    by_cases hw2 : w = 2
    · have : ¬ 1 < F.length := fun h => hw ⟨hw2, h⟩
      simp [-List.map_map, -List.map_append, -List.map_dropLast, -List.map_take, -List.map_drop, -List.map_reverse, bS7, E15, hw2, this]
    · simp [-List.map_map, -List.map_append, -List.map_dropLast, -List.map_take, -List.map_drop, -List.map_reverse, bS7, E15, hw2]
theorem r_splice (h : b = 3 ∨ b = 4 ∨ b = 5) {l : List D} (hp : Pot l) {most long L : Nat} (h1 : 0 < most) (h2 : most ≤ 4) (h3 : 0 < long) (h4 : long ≤ L) (h6 : 6 ≤ L) (hL : L ≤ 40) :
    ∃ (ms : List Mth) (l' : List D), Pot l' ∧ (∀ m ∈ ms, Drw b L m) ∧ ms ≠ [] ∧ ms.length ≤ most ∧ rnP m__law_splice 15 l [.d (nI b), .d (nI most), .d (nI long)] = some (.d (sE ms), l') := by
  obtain ⟨d, l1, hp1, hd, hr⟩ := r_draw hp h1 (by omega)
  obtain ⟨e', g, F, l2, ev, s6, s7, s8, s9, s10, s11, s12, rfl, hp2, hev, hF, hl⟩ := for_rg (f := nI) (n := 1 + d) (q := qN 6 false) (b := bS) (e0 := E15 l1 b most long [] (.ol ((evB b).map rE)) none none none none none none none)
    (fun i e => ∃ (F : List Mth) (l : List D) (ev : R) (s6 s7 s8 : Option D) (s9 : Option (List D)) (s10 s11 : Option D) (s12 : Option (List D)), e = E15 l b most long F ev s6 s7 s8 s9 s10 s11 s12 ∧ Pot l ∧ Mine ev ((evB b).map rE) ∧ (∀ m ∈ F, Drw b L m) ∧ F.length = i)
    ⟨[], l1, _, none, none, none, none, none, none, none, rfl, hp1, .inl rfl, fun m hm => absurd hm List.not_mem_nil, rfl⟩ (by
      rintro i _ hi ⟨F, l, ev, s6, s7, s8, s9, s10, s11, s12, rfl, hp, hev, hF, hl⟩
      obtain ⟨many, way, l1, hp1, k1, k2, k3, e1⟩ := s1 (b := b) (most := most) (F := F) (ev := ev) (s6 := some (nI i)) (s7 := s7) (s8 := s8) (s9 := s9) (s10 := s10) (s11 := s11) (s12 := s12) hp h3 (by omega)
      obtain ⟨cs, l2, hp2, hc2, e2⟩ := s2 h (most := most) (long := long) (F := F) (ev := ev) (s6 := some (nI i)) (s8 := some (nI way)) (s9 := s9) (s10 := s10) (s11 := s11) (s12 := s12) hp1 k1 (by omega) hev
      have hc2' : Chs b L cs := ⟨hc2.1, hc2.2.1, by have := hc2.2.2; omega⟩
      obtain ⟨cs3, hc3, e3⟩ := s3 (l := l2) (most := most) (long := long) (ev := .d (.list ((evB b).map rE))) (s6 := some (nI i)) (s7 := some (nI many)) (w := way) (s10 := s10) (s11 := s11) (s12 := s12) hc2' hL hF
      obtain ⟨cs4, l4, t10, t11, hp4, hc4, e4⟩ := s4 h (most := most) (long := long) (F := F) (s6 := some (nI i)) (s7 := some (nI many)) (w := way) (s10 := s10) (s11 := s11) (s12 := s12) hp2 hc3 h6
      obtain ⟨left, l5, hp5, hleft, e5⟩ := s5 (most := most) (long := long) (F := F) (s6 := some (nI i)) (s7 := some (nI many)) (s8 := some (nI way)) (s10 := t10) (s11 := t11) (s12 := s12) h hp4 hc4
      obtain ⟨m, l6, hp6, hm, e6⟩ := s6' (most := most) (long := long) (F := F) (ev := .d (.list ((evB b).map rE))) (s6 := some (nI i)) (s7 := some (nI many)) (s8 := some (nI way)) (s10 := t10) (s11 := t11) hp5 hc4 hL hleft (by omega)
      obtain ⟨F', hF', hl', e7⟩ := s7' (l := l6) (most := most) (long := long) (w := way) (F := F ++ [m]) (ev := .d (.list ((evB b).map rE))) (s6 := some (nI i)) (s7 := some (nI many)) (s9 := some (cs4.map rE)) (s10 := t10) (s11 := t11) (s12 := some (left.map rE)) (L := L) (b := b) (fun x hx => by
        rcases List.mem_append.mp hx with hx | hx
        · exact hF x hx
        · rw [List.mem_singleton.mp hx]; exact hm)
      refine ⟨_, ?_, F', l6, _, some (nI i), some (nI many), some (nI way), some (cs4.map rE), t10, t11, some (left.map rE), rfl, hp6, .inr rfl, hF', by rw [hl']; simp [-List.map_map, -List.map_append, -List.map_dropLast, -List.map_take, -List.map_drop, -List.map_reverse, hl]⟩
      have q : qN 6 false (.d (nI i)) (E15 l b most long F ev s6 s7 s8 s9 s10 s11 s12) = some (E15 l b most long F ev (some (nI i)) s7 s8 s9 s10 s11 s12) := by simp [-List.map_map, -List.map_append, -List.map_dropLast, -List.map_take, -List.map_drop, -List.map_reverse, E15]
      rw [q, qS_some]
      unfold bS
      rw [x_seq, e1, sq_nx, x_seq, e2, sq_nx, x_seq, e3, sq_nx, x_seq, e4, sq_nx, x_seq, e5, sq_nx, x_seq, e6, sq_nx, e7])
  refine ⟨F, l2, hp2, hF, fun e => by rw [e] at hl; simp [-List.map_map, -List.map_append, -List.map_dropLast, -List.map_take, -List.map_drop, -List.map_reverse] at hl; omega, by omega, rnP_of (e := [some (.d (nI b)), some (.d (nI most)), some (.d (nI long)), some (.ol (F.map mE)), some ev, sD s6, sD s7, sD s8, sO s9, sD s10, sD s11, sO s12, none, none]) ?_⟩
  rw [splice_eq]
  simp only [E15, sD_none, sO_none, List.map_nil] at g
  have hrg : ∀ e : En, rgR (id : List D → List D) (0, 1 + (d : Int)) e = .ok ((List.range (1 + d)).map nI) e := fun e => rgR_n (f := (id : List D → List D)) (n := 1 + d) (by omega)
  simp [-List.map_map, -List.map_append, -List.map_dropLast, -List.map_take, -List.map_drop, -List.map_reverse, env0, r_changes h, hr, hrg, g]
end
end Pwk85

set_option Elab.async false
set_option linter.all false
set_option maxRecDepth 100000
set_option maxHeartbeats 4000000
/-! the plain law: truth by false heads is truth by rows -/
namespace Pwk85
open PySem PySem.Spec PyProof.Rows L2 Pw
section
variable {b : Nat} {ms : List Mth} {t : List (Nat × Nat)} {h : List Nat} {p : Nat × Nat}
/-- the leads of a touch: the head, the method's number -/
def blk (ms : List Mth) (h : List Nat) (t : List (Nat × Nat)) : List (List Nat × Nat) := ((hds ms h t).take t.length).zip (t.map (·.1))
theorem mem_rws {x : List Nat} : x ∈ rws ms h t ↔ ∃ q ∈ blk ms h t, x ∈ ldr (nth ms q.2) q.1 := by
  induction t generalizing h with
  | nil => simp [-List.map_map, -List.map_append, -List.map_dropLast, -List.map_take, -List.map_drop, -List.map_reverse, rws, blk]
  | cons p t ih =>
    have e : blk ms h (p :: t) = (h, p.1) :: blk ms (tms h (turnAt ms p)) t := rfl
    rw [e]
    show x ∈ ldr (nth ms p.1) h ++ rws ms (tms h (turnAt ms p)) t ↔ _
    rw [List.mem_append, ih]
    constructor
    · rintro (h1 | ⟨q, hq, h1⟩)
      · exact ⟨_, List.mem_cons_self, h1⟩
      · exact ⟨q, List.mem_cons_of_mem _ hq, h1⟩
    · rintro ⟨q, hq, h1⟩
      rcases List.mem_cons.mp hq with rfl | hq
      · exact .inl h1
      · exact .inr ⟨q, hq, h1⟩
theorem hds_pos : 0 < (hds ms h t).length := by rw [hds_len]; omega
theorem nth_hnd : nth (hds ms h t) t.length = hnd ms h t := by
  have z := hds_last? (ms := ms) (h := h) (t := t)
  rw [List.getLast?_eq_getElem?, hds_len] at z
  unfold Pw.nth
  rw [show t.length = t.length + 1 - 1 by omega, z]
  rfl
theorem tru_snoc : tru ms (t ++ [p]) (hds ms h (t ++ [p])) = (tru ms t (hds ms h t) && (decide (nth ms p.1).lead.Nodup && apart ms (hnd ms h t) p.1 ((hds ms h t).take t.length) (t.map (·.1)))) := by
  have hl := hds_len (ms := ms) (h := h) (t := t)
  unfold tru
  rw [List.all_append, List.length_append, List.length_singleton, List.range_succ, List.all_append]
  have e1 : ((List.range t.length).all fun i => apart ms (nth (hds ms h (t ++ [p])) i) (nth (t ++ [p]) i).1 ((hds ms h (t ++ [p])).take i) (((t ++ [p]).take i).map (·.1))) = (List.range t.length).all fun i => apart ms (nth (hds ms h t) i) (nth t i).1 ((hds ms h t).take i) ((t.take i).map (·.1)) := by
    rw [Bool.eq_iff_iff, List.all_eq_true, List.all_eq_true]
    have z : ∀ i ∈ List.range t.length, apart ms (nth (hds ms h (t ++ [p])) i) (nth (t ++ [p]) i).1 ((hds ms h (t ++ [p])).take i) (((t ++ [p]).take i).map (·.1)) = apart ms (nth (hds ms h t) i) (nth t i).1 ((hds ms h t).take i) ((t.take i).map (·.1)) := fun i hi => by
      have hi' := List.mem_range.mp hi
      rw [hds_snoc, nth_append_lt (by omega), nth_append_lt hi', List.take_append_of_le_length (by omega), List.take_append_of_le_length (by omega)]
    exact ⟨fun H i hi => by rw [← z i hi]; exact H i hi, fun H i hi => by rw [z i hi]; exact H i hi⟩
  have e2 : apart ms (nth (hds ms h (t ++ [p])) t.length) (nth (t ++ [p]) t.length).1 ((hds ms h (t ++ [p])).take t.length) (((t ++ [p]).take t.length).map (·.1)) = apart ms (hnd ms h t) p.1 ((hds ms h t).take t.length) (t.map (·.1)) := by
    rw [hds_snoc, nth_append_lt (by omega), nth_hnd, nth_append_ge (Nat.le_refl _), Nat.sub_self, List.take_append_of_le_length (by omega), List.take_left]
    rfl
  rw [e1]
  simp only [List.all_cons, List.all_nil, Bool.and_true]
  rw [e2]
  generalize (t.all fun p => decide (nth ms p.1).lead.Nodup) = x1
  generalize decide (nth ms p.1).lead.Nodup = x2
  generalize (List.range t.length).all _ = x3
  cases x1 <;> cases x2 <;> cases x3 <;> simp [-List.map_map, -List.map_append, -List.map_dropLast, -List.map_take, -List.map_drop, -List.map_reverse]
theorem apart_iff {hs : List (List Nat)} {ns : List Nat} {n : Nat} : apart ms h n hs ns = true ↔ ∀ q ∈ hs.zip ns, ∀ x, x ∈ ldr (nth ms q.2) q.1 → ¬ x ∈ ldr (nth ms n) h := by
  unfold apart
  rw [Bool.not_eq_true', Bool.eq_false_iff, Ne, List.any_eq_true]
  constructor
  · intro H q hq x hx hy
    obtain ⟨u, hu, rfl⟩ := List.mem_map.mp hx
    obtain ⟨v, hv, e⟩ := List.mem_map.mp hy
    refine H ⟨_, List.mem_map_of_mem hq, ?_⟩
    exact List.any_eq_true.mpr ⟨u, hu, List.any_eq_true.mpr ⟨v, hv, decide_eq_true e.symm⟩⟩
  · rintro H ⟨c, hc, hid⟩
    obtain ⟨q, hq, rfl⟩ := List.mem_map.mp hc
    obtain ⟨u, hu, e⟩ := List.any_eq_true.mp hid
    obtain ⟨v, hv, e⟩ := List.any_eq_true.mp e
    exact H q hq _ (List.mem_map_of_mem hu) (by rw [of_decide_eq_true e]; exact List.mem_map_of_mem hv)
theorem ldr_nodup {m : Mth} (k : m.Ok b) (hh : Row b h) : (ldr m h).Nodup ↔ m.lead.Nodup :=
  ⟨Pw.nodup_of_map, fun n => map_nodup n fun x hx y hy e => (hh.cancel (k.lead x hx) (k.lead y hy)).mp e⟩
theorem tru_rows (k : ∀ m ∈ ms, m.Ok b) (hh : Row b h) (n : Nat) : ∀ (t : List (Nat × Nat)), t.length = n → (∀ p ∈ t, LeadOk ms p) → tru ms t (hds ms h t) = decide (rws ms h t).Nodup := by
  induction n with
  | zero =>
    intro t ht _
    have : t = [] := List.length_eq_zero_iff.mp ht
    subst this
    simp [-List.map_map, -List.map_append, -List.map_dropLast, -List.map_take, -List.map_drop, -List.map_reverse, tru, rws]
  | succ n ih =>
    intro t ht hk
    have hne : t ≠ [] := fun e => by rw [e] at ht; cases ht
    have e := List.dropLast_concat_getLast hne
    generalize t.dropLast = s at e
    generalize t.getLast hne = p at e
    subst e
    have hs : ∀ q ∈ s, LeadOk ms q := fun q hq => hk q (List.mem_append_left _ hq)
    have hp : LeadOk ms p := hk p (by simp [-List.map_map, -List.map_append, -List.map_dropLast, -List.map_take, -List.map_drop, -List.map_reverse])
    have kp := k _ (nth_mem hp.1)
    rw [tru_snoc, rws_snoc, ih s (by simpa [-List.map_map, -List.map_append, -List.map_dropLast, -List.map_take, -List.map_drop, -List.map_reverse] using ht) hs, Bool.eq_iff_iff]
    simp only [Bool.and_eq_true, decide_eq_true_eq]
    rw [List.nodup_append, ldr_nodup kp (hnd_row k hh hs), apart_iff]
    refine and_congr_right fun _ => and_congr_right fun _ => ?_
    constructor
    · intro H x hx y hy e
      obtain ⟨q, hq, hxq⟩ := mem_rws.mp hx
      exact H q hq x hxq (e ▸ hy)
    · intro H q hq x hx hy
      exact H x (mem_rws.mpr ⟨q, hq, hx⟩) x hy rfl
theorem truS_rows (s : Spl b ms) (H : Tch ms t) : truS b ms t = decide (rws ms (List.range b) t).Nodup := tru_rows s.ok (row_range b) _ t rfl H.ok
/-! ### one method for another -/
/-- the same touch, with some leads of one method told as the other's -/
def Swp (ms : List Mth) (o n : Nat) (p q : Nat × Nat) : Prop := q = p ∨ (p.1 = o ∧ q = (n, p.2))
theorem always_iff {n o : Nat} : always ms n o = true ↔ (nth ms n).turns = (nth ms o).turns ∧ (nth ms n).lead.Perm (nth ms o).lead := by
  unfold always
  rw [Bool.and_eq_true, decide_eq_true_eq, decide_eq_true_eq, srt_eq]
theorem swp_ok {n o : Nat} {q : Nat × Nat} (a : always ms n o = true) (hn : n < ms.length) (hp : LeadOk ms p) (w : Swp ms o n p q) : LeadOk ms q ∧ turnAt ms q = turnAt ms p ∧ (nth ms q.1).lead.Perm (nth ms p.1).lead := by
  obtain ⟨h1, h2⟩ := always_iff.mp a
  rcases w with rfl | ⟨e, rfl⟩
  · exact ⟨hp, rfl, .refl _⟩
  · have hl := congrArg List.length h1
    rw [Mth.turns_len, Mth.turns_len] at hl
    refine ⟨⟨hn, ?_⟩, ?_, ?_⟩
    · show p.2 ≤ (nth ms n).ca.length
      have := hp.2
      rw [e] at this
      omega
    · show nth (nth ms n).turns p.2 = nth (nth ms p.1).turns p.2
      rw [h1, e]
    · show (nth ms n).lead.Perm (nth ms p.1).lead
      rw [e]; exact h2
inductive All2 {α β : Type} (R : α → β → Prop) : List α → List β → Prop
  | nil : All2 R [] []
  | cons {a : α} {b : β} {l : List α} {m : List β} : R a b → All2 R l m → All2 R (a :: l) (b :: m)
theorem All2.snoc {α β : Type} {R : α → β → Prop} {a : α} {b : β} (h : R a b) : ∀ {l : List α} {m : List β}, All2 R l m → All2 R (l ++ [a]) (m ++ [b])
  | _, _, .nil => .cons h .nil
  | _, _, .cons r t => .cons r (All2.snoc h t)
theorem All2.len {α β : Type} {R : α → β → Prop} : ∀ {l : List α} {m : List β}, All2 R l m → l.length = m.length
  | _, _, .nil => rfl
  | _, _, .cons _ t => by rw [List.length_cons, List.length_cons, t.len]
theorem swp_rows {n o : Nat} (a : always ms n o = true) (hn : n < ms.length) : ∀ {t u : List (Nat × Nat)} {h : List Nat}, All2 (Swp ms o n) t u → (∀ p ∈ t, LeadOk ms p) → (∀ q ∈ u, LeadOk ms q) ∧ (rws ms h u).Perm (rws ms h t)
  | _, _, _, .nil, _ => ⟨fun q hq => absurd hq List.not_mem_nil, .refl _⟩
  | p :: t, q :: u, h, .cons w r, hk => by
    obtain ⟨h1, h2, h3⟩ := swp_ok a hn (hk p List.mem_cons_self) w
    have ih := fun h => swp_rows a hn (h := h) r fun p hp => hk p (List.mem_cons_of_mem _ hp)
    refine ⟨fun x hx => ?_, ?_⟩
    · rcases List.mem_cons.mp hx with rfl | hx
      · exact h1
      · exact (ih h).1 x hx
    · show (ldr (nth ms q.1) h ++ rws ms (tms h (turnAt ms q)) u).Perm (ldr (nth ms p.1) h ++ rws ms (tms h (turnAt ms p)) t)
      rw [h2]
      exact (h3.map _).append (ih _).2
end
end Pwk85

set_option Elab.async false
set_option linter.all false
set_option maxRecDepth 100000
set_option maxHeartbeats 4000000
/-! what the law's defs answer: one round of the law -/
namespace Pwk85
open PySem PySem.Spec PyProof.Rows L2 Pw
/-! ### repr of a list -/
def shO (o : Option (List D)) (e : En) : Res R := match o with
  | some ds => if (showAll (.list ds) && decide (ds.length ≤ 16777216)) = true then .ok (.d (.str (PyData.list ds).shown)) e else .st
  | none => .st
@[simp] theorem x_showL {ma : MA} {e : En} : mShowL ma e = (ma e).bind fun rs e => shO (datL false e rs) e := by
  unfold mShowL shO
  rfl
theorem shO_ok {ds : List D} {e : En} (h : showAll (.list ds) = true) (hl : ds.length ≤ 16777216) : shO (some ds) e = .ok (.d (.str (PyData.list ds).shown)) e := by
  unfold shO
  exact if_pos (by rw [h, decide_eq_true hl]; rfl)
theorem bd_n {Ls : List Nat} {n : Nat} (h : n ≤ 99) : bdl Ls (nI n) = true := bdl_int.mpr ⟨by omega, by omega⟩
theorem bd_r {L : Nat} {Ls : List Nat} {r : List Nat} (hl : r.length ≤ L) (h : ∀ x ∈ r, x ≤ 99) : bdl (L :: Ls) (rE r) = true := bdl_tuple.mpr ⟨by simpa [-List.map_map, -List.map_append, -List.map_dropLast, -List.map_take, -List.map_drop, -List.map_reverse] using hl, fun x hx => by
  obtain ⟨n, hn, rfl⟩ := List.mem_map.mp hx
  exact bd_n (h n hn)⟩
theorem ev_small {b : Nat} {c : List Nat} (h : c ∈ evB b) : c.length ≤ 5 ∧ ∀ x ∈ c, x ≤ 99 := by
  have z : ∀ b ∈ [3, 4, 5, 6], ∀ c ∈ evB b, c.length ≤ 5 ∧ ∀ x ∈ c, x ≤ 99 := by decide +kernel
  exact z b (by rcases ev_bells h with h | h | h | h <;> simp [-List.map_map, -List.map_append, -List.map_dropLast, -List.map_take, -List.map_drop, -List.map_reverse, h]) c h
theorem bd_m {b : Nat} {m : Mth} (k : m.Ok b) (h : m.ch.length ≤ 9) : bdl [4, 9, 5] (mE m) = true := by
  have cs : ∀ l : List (List Nat), l.length ≤ 9 → (∀ c ∈ l, c ∈ evB b) → bdl [9, 5] (.tuple (l.map rE)) = true := fun l hl hc => bdl_tuple.mpr ⟨by simpa [-List.map_map, -List.map_append, -List.map_dropLast, -List.map_take, -List.map_drop, -List.map_reverse] using hl, fun x hx => by
    obtain ⟨c, hcm, rfl⟩ := List.mem_map.mp hx
    have := ev_small (hc c hcm)
    exact bd_r this.1 this.2⟩
  have hc := k.cl
  have hb := k.le6
  refine bdl_tuple.mpr ⟨by simp [-List.map_map, -List.map_append, -List.map_dropLast, -List.map_take, -List.map_drop, -List.map_reverse], fun x hx => ?_⟩
  simp only [List.mem_cons, List.not_mem_nil, or_false] at hx
  rcases hx with rfl | rfl | rfl | rfl
  · rw [bdl_str]; decide +kernel
  · exact bd_n (by rw [k.bl]; omega)
  · exact cs _ h k.ev
  · exact cs _ (by omega) k.ec
/-- a splice and a touch of the law -/
structure Rnd (b : Nat) (ms : List Mth) (t : List (Nat × Nat)) : Prop where
  s : Spl b ms
  h9 : ∀ m ∈ ms, m.ch.length ≤ 9
  h5 : b ≤ 5
  H : Tch ms t
  t8 : t.length ≤ 8
section
variable {b : Nat} {ms : List Mth} {t : List (Nat × Nat)}
theorem Rnd.show (r : Rnd b ms t) : showAll (.list [sE ms, .list (t.map tcE)]) = true := by
  have four := r.s.four
  refine bdl_show (Ls := [2, 8, 4, 4, 9, 5]) (bdl_list.mpr ⟨by simp [-List.map_map, -List.map_append, -List.map_dropLast, -List.map_take, -List.map_drop, -List.map_reverse], fun x hx => ?_⟩) (by decide) (by decide)
  simp only [List.mem_cons, List.not_mem_nil, or_false] at hx
  rcases hx with rfl | rfl
  · refine bdl_tuple.mpr ⟨by simp [-List.map_map, -List.map_append, -List.map_dropLast, -List.map_take, -List.map_drop, -List.map_reverse], fun x hx => ?_⟩
    simp only [List.mem_cons, List.not_mem_nil, or_false] at hx
    rcases hx with rfl | rfl
    · rw [bdl_str]; decide +kernel
    · refine bdl_tuple.mpr ⟨by simpa [-List.map_map, -List.map_append, -List.map_dropLast, -List.map_take, -List.map_drop, -List.map_reverse] using four, fun x hx => ?_⟩
      obtain ⟨m, hm, rfl⟩ := List.mem_map.mp hx
      exact bd_m (r.s.ok m hm) (r.h9 m hm)
  · refine bdl_list.mpr ⟨by simpa [-List.map_map, -List.map_append, -List.map_dropLast, -List.map_take, -List.map_drop, -List.map_reverse] using r.t8, fun x hx => ?_⟩
    obtain ⟨p, hp, rfl⟩ := List.mem_map.mp hx
    have k := r.H.ok p hp
    have hc := (r.s.ok _ (nth_mem k.1)).cl
    have k1 := k.1
    have k2 := k.2
    refine bdl_tuple.mpr ⟨by simp [-List.map_map, -List.map_append, -List.map_dropLast, -List.map_take, -List.map_drop, -List.map_reverse], fun x hx => ?_⟩
    simp only [List.mem_cons, List.not_mem_nil, or_false] at hx
    rcases hx with rfl | rfl
    · exact bd_n (by omega)
    · exact bd_n (by omega)
theorem show_nums {l m : List Nat} (hl : l.length ≤ 8) (hm : m.length ≤ 8) (h : ∀ x ∈ l, x ≤ 99) (h2 : ∀ x ∈ m, x ≤ 99) : showAll (.list [.list (l.map nI), .list (m.map nI)]) = true := by
  refine bdl_show (Ls := [2, 8]) (bdl_list.mpr ⟨by simp [-List.map_map, -List.map_append, -List.map_dropLast, -List.map_take, -List.map_drop, -List.map_reverse], fun x hx => ?_⟩) (by decide) (by decide)
  simp only [List.mem_cons, List.not_mem_nil, or_false] at hx
  have z : ∀ l : List Nat, l.length ≤ 8 → (∀ x ∈ l, x ≤ 99) → bdl [8] (.list (l.map nI)) = true := fun l hl h => bdl_list.mpr ⟨by simpa [-List.map_map, -List.map_append, -List.map_dropLast, -List.map_take, -List.map_drop, -List.map_reverse] using hl, fun x hx => by
    obtain ⟨n, hn, rfl⟩ := List.mem_map.mp hx
    exact bd_n (h n hn)⟩
  rcases hx with rfl | rfl
  · exact z l hl h
  · exact z m hm h2
theorem show_bools {p q : Bool} : showAll (.list [.bool p, .bool q]) = true := by
  refine bdl_show (Ls := [2]) (bdl_list.mpr ⟨by simp [-List.map_map, -List.map_append, -List.map_dropLast, -List.map_take, -List.map_drop, -List.map_reverse], fun x hx => ?_⟩) (by decide) (by decide)
  simp only [List.mem_cons, List.not_mem_nil, or_false] at hx
  rcases hx with rfl | rfl <;> exact bdl_bool
/-! ### slots -/
inductive Sl
  | n
  | o (xs : List D)
  | d (x : D)
def Sl.s : Sl → Option R
  | .n => none
  | .o xs => some (.ol xs)
  | .d x => some (.d x)
@[simp] theorem sl_n : Sl.n.s = none := rfl
@[simp] theorem sl_o {xs : List D} : (Sl.o xs).s = some (.ol xs) := rfl
@[simp] theorem sl_d {x : D} : (Sl.d x).s = some (.d x) := rfl
@[simp] theorem notPl_sl {o : Sl} : notPl (some o.s) = true := by cases o <;> rfl
abbrev lsE : List (List Nat) → D := lE rE
/-- the slots of a round, from the touch on -/
def E18 (l : List D) (b : Nat) (ms : List Mth) (T : R) (sh : D) (n : Nat) (s7 s8 : Option D) (due : List Nat) (s11 s12 : Option D) (s13 told : Sl) (s15 : Option D) (s16 : Sl) (s17 : Option D) : En :=
  [some (.pl l), some (.d (nI b)), some (.d (sE ms)), some T, some (.d (rE (List.range b))), some (.d sh), some (.d (nI n)), sD s7, sD s8, some (.ol ((ms.map Mth.turns).map lsE)), some (.ol (due.map nI)), sD s11, sD s12, s13.s, told.s, sD s15, s16.s, sD s17]
def bR1 : MS := (mSet (qN 2 false) (mCallP n__law_splice m__law_splice (mACons (mVar 0) (mACons (mVar 1) (mACons (mC (nI 2)) (mACons (mC (nI 5)) mANil))))))
def bR2 : MS := (mSet (qN 2 false) (mTup (mACons (mC (.str "splice")) (mACons (m2 false pAdd (m2 false pAdd (m2 true pIx (mVar 2) (mC (nI 1))) (mTup (mACons (mCallP n__law_near m__law_near (mACons (mVar 0) (mACons (m2 true pIx (m2 true pIx (mVar 2) (mC (nI 1))) (mC (nI 0))) mANil))) mANil))) (mCut (m2 true pIx (mVar 2) (mC (nI 1))) mNo (mSo (mC (nI 1))))) mANil))))
def bR3 : MS := (mParT [(3, true), (4, false)] (mACons (mCallP n__law_touch m__law_touch (mACons (mVar 0) (mACons (mVar 2) (mACons (mIf (mTst (m2 true pEqT (mCallP n__law_draw m__law_draw (mACons (mVar 0) (mACons (mC (nI 2)) mANil))) (mC (nI 0)))) (mC (nI 8)) (mC (nI 3))) mANil)))) (mACons (mRgT (mG1 (mVar 1))) mANil)))
def bR4 : MS := (mPar 5 6 false false (mACons (mShowL (mACons (mVar 2) (mACons (mVar 3) mANil))) (mACons (mCallP n__law_draw m__law_draw (mACons (mVar 0) (mACons (mN true pLen (mACons (m2 true pIx (mVar 2) (mC (nI 1))) mANil)) mANil))) mANil)))
def bR5 : MS := (mSet (qN 9 true) (mLc (mSq (m2 true pIx (mVar 2) (mC (nI 1)))) (qN 7 false) mYes (mFrz (mLc (mRgI (mG1 (m2 false pAdd (mN true pLen (mACons (m2 true pIx (mVar 7) (mC (nI 3))) mANil)) (mC (nI 1))))) (qN 8 false) mYes (m2 true pIx (mCall n__law_lead m__law_lead (mACons (mVar 7) (mACons (mVar 4) (mACons (mVar 8) mANil)))) (mC (nI 1))) [8])) [7]))
def bR6 : MS := (mSet (qN 10 true) (mLst mANil))
def bR7B : MS := (mSeq (mSet (qN 13 true) (m2 false pAdd (m2 false pAdd (mCut (mVar 3) mNo (mSo (mVar 11))) (mLst (mACons (mTup (mACons (mVar 6) (mACons (mVar 8) mANil))) mANil))) (mCut (mVar 3) (mSo (m2 false pAdd (mVar 11) (mC (nI 1)))) mNo))) (mIfS (mAndT (mTst (m2 true pLt (mVar 8) (mN true pLen (mACons (m2 true pIx (mVar 9) (mVar 6)) mANil)))) (mAndT (mTst (m2 true pEqT (m2 true pIx (m2 true pIx (mVar 9) (mVar 6)) (mVar 8)) (m2 true pIx (m2 true pIx (mVar 9) (mVar 12)) (mVar 8)))) (mTst (mCall n__law_is_true m__law_is_true (mACons (m2 true pIx (mCall n__law_rung m__law_rung (mACons (mVar 2) (mACons (mFrz (mVar 13)) mANil))) (mC (nI 0))) mANil))))) (mDrp (mMtL gApp (mVar 10) (mACons (mVar 11) mANil))) mNext))
def bR7 : MS := (mFor (mEnum (mFrz (mVar 3))) (qTup 2 (qCons (qN 11 false) (qCons (qTup 2 (qCons (qN 12 false) (qCons (qN 8 false) qNil))) qNil))) bR7B)
def bR8 : MS := (mSet (qN 14 true) (mCall n_stand_ins m_stand_ins (mACons (mVar 2) (mACons (mFrz (mVar 3)) (mACons (mVar 6) mANil)))))
def bR9 : MS := (mIfS (mTst (m2 true pNeT (mShowL (mACons (mVar 14) (mACons (mCallK [2, 1, 0] n_stand_ins m_stand_ins (mACons (mVar 6) (mACons (mN true pTup (mACons (mVar 3) mANil)) (mACons (mVar 2) mANil)))) mANil))) (mShowL (mACons (mVar 10) (mACons (mVar 10) mANil))))) (mRet (mC (.bool false))) mNext)
def bR10 : MS := (mDrp (mMtL gApp (mVar 14) (mACons (mC .none) mANil)))
def bI1 : MS := (mSet (qN 16 true) (mLc (mSq (mTup (mACons (mVar 7) (mACons (mVar 15) mANil)))) (qN 11 false) mYes (mFrz (mN false pSortA (mACons (m2 true pIx (mCall n__law_lead m__law_lead (mACons (m2 true pIx (m2 true pIx (mVar 2) (mC (nI 1))) (mVar 11)) (mACons (mVar 4) (mACons (mC (nI 0)) mANil)))) (mC (nI 0))) mANil))) [11]))
def bI2 : MS := (mSet (qN 17 false) (mAndV (mTst (m2 true pEqT (m2 true pIx (mVar 9) (mVar 7)) (m2 true pIx (mVar 9) (mVar 15)))) (m2 true pEqT (m2 true pIx (mVar 16) (mC (nI 0))) (m2 true pIx (mVar 16) (mC (nI 1))))))
def bI3 : MS := (mIfS (mTst (m2 true pNeT (mShowL (mACons (mCall n_may_always m_may_always (mACons (mVar 2) (mACons (mVar 7) (mACons (mVar 15) mANil)))) (mACons (mCallK [2, 1, 0] n_may_always m_may_always (mACons (mVar 15) (mACons (mVar 7) (mACons (mVar 2) mANil)))) mANil))) (mShowL (mACons (mVar 17) (mACons (mVar 17) mANil))))) (mRet (mC (.bool false))) mNext)
def bI4 : MS := (mIfS (mTst (mVar 17)) (mSeq (mSet (qN 13 true) (mLc (mSq (mFrz (mVar 3))) (qTup 2 (qCons (qN 12 false) (qCons (qN 8 false) qNil))) mYes (mIf (mAndT (mTst (m2 true pEqT (mVar 12) (mVar 15))) (mTst (m2 true pEqT (mCallP n__law_draw m__law_draw (mACons (mVar 0) (mACons (mC (nI 2)) mANil))) (mC (nI 0))))) (mTup (mACons (mVar 7) (mACons (mVar 8) mANil))) (mTup (mACons (mVar 12) (mACons (mVar 8) mANil)))) [12, 8])) (mIfS (mTst (m2 true pNeT (mCall n_is_spliced_true m_is_spliced_true (mACons (mVar 2) (mACons (mFrz (mVar 13)) mANil))) (mCall n_is_spliced_true m_is_spliced_true (mACons (mVar 2) (mACons (mFrz (mVar 3)) mANil))))) (mRet (mC (.bool false))) mNext)) mNext)
def bI : MS := (mSeq bI1 (mSeq bI2 (mSeq bI3 bI4)))
def bJ : MS := (mFor (mRgI (mG1 (mN true pLen (mACons (m2 true pIx (mVar 2) (mC (nI 1))) mANil)))) (qN 15 false) bI)
def bR11 : MS := (mFor (mRgI (mG1 (mN true pLen (mACons (m2 true pIx (mVar 2) (mC (nI 1))) mANil)))) (qN 7 false) bJ)
def bR12 : MS := (mRet (m2 true pEqT (mShowL (mACons (mVar 2) (mACons (mVar 3) mANil))) (mVar 5)))
theorem right_eq : m__law_right = (mSeq bR1 (mSeq bR2 (mSeq bR3 (mSeq bR4 (mSeq bR5 (mSeq bR6 (mSeq bR7 (mSeq bR8 (mSeq bR9 (mSeq bR10 (mSeq bR11 bR12))))))))))) := rfl
theorem q7 (r : Rnd b ms t) {l : List D} {sh : D} {n : Nat} (hn : n < ms.length) {s7 s8 s11 s12 s15 s17 : Option D} {s13 told s16 : Sl} :
    ∃ s8' s11' s12' s13', bR7 (E18 l b ms (.ol (t.map tcE)) sh n s7 s8 [] s11 s12 s13 told s15 s16 s17) = .nx (E18 l b ms (.d (.list (t.map tcE))) sh n s7 s8' ((List.range t.length).filter (fits b ms t n)) s11' s12' s13' told s15 s16 s17) := by
  have hl := r.H.len
  obtain ⟨e', g, s8', s11', s12', s13', rfl⟩ := for_rg (f := fun i => PyData.tuple [nI i, tcE (nth t i)]) (n := t.length) (q := qTup 2 (qCons (qN 11 false) (qCons (qTup 2 (qCons (qN 12 false) (qCons (qN 8 false) qNil))) qNil))) (b := bR7B)
    (e0 := E18 l b ms (.d (.list (t.map tcE))) sh n s7 s8 [] s11 s12 s13 told s15 s16 s17)
    (fun i e => ∃ s8' s11' s12' s13', e = E18 l b ms (.d (.list (t.map tcE))) sh n s7 s8' ((List.range i).filter (fits b ms t n)) s11' s12' s13' told s15 s16 s17)
    ⟨s8, s11, s12, s13, rfl⟩ (by
      rintro i _ hi ⟨s8, s11, s12, s13, rfl⟩
      have hp := r.H.ok _ (nth_mem hi)
      have h1 := hp.1
      have h2 : (nth t i).2 < (nth ms (nth t i).1).ca.length + 1 := by have := hp.2; omega
      have hfl : ((List.range i).filter (fits b ms t n)).length < 16777216 := by
        have := List.length_filter_le (fits b ms t n) (List.range i)
        simp [-List.map_map, -List.map_append, -List.map_dropLast, -List.map_take, -List.map_drop, -List.map_reverse] at this
        omega
      have hr : (List.range (i + 1)).filter (fits b ms t n) = if fits b ms t n i = true then (List.range i).filter (fits b ms t n) ++ [i] else (List.range i).filter (fits b ms t n) := by
        rw [List.range_succ, List.filter_append]
        by_cases c : fits b ms t n i = true
        · rw [if_pos c, List.filter_cons_of_pos c, List.filter_nil]
        · rw [if_neg c, List.filter_cons_of_neg c, List.filter_nil, List.append_nil]
      have hlate : (t.take i).map tcE ++ PyData.tuple [nI n, nI (nth t i).2] :: (t.drop (i + 1)).map tcE = (late t i n).map tcE := by
        unfold late
        simp [-List.map_map, -List.map_dropLast, -List.map_take, -List.map_drop, -List.map_reverse, List.map_append]
      have a1 : min i t.length + 1 ≤ 16777216 := by omega
      have a2 : min i t.length ≤ 16777215 := by omega
      have a3 : min i t.length + 1 + (t.length - (i + 1)) ≤ 16777216 := by omega
      have a4 : min i t.length + (t.length - (i + 1) + 1) ≤ 16777216 := by omega
      rw [hr]
      by_cases c1 : (nth t i).2 < (nth ms n).ca.length + 1
      · by_cases c2 : turnAt ms (n, (nth t i).2) = turnAt ms (nth t i)
        · have hL := late_ok r.H hi hn c1
          have c3 : fits b ms t n i = decide (rws ms (List.range b) (late t i n)).Nodup := by simp [-List.map_map, -List.map_append, -List.map_dropLast, -List.map_take, -List.map_drop, -List.map_reverse, fits, c1, c2, truS_rows r.s hL]
          have z1 := r_rung r.s r.h5 hL
          have z2 := r_law_true (l := rws ms (List.range b) (late t i n)) (by
            have := rws_len (h := List.range b) r.s.ok hL.ok
            have := hL.len
            omega)
          have c2' := c2
          unfold turnAt at c2'
          simp only at c2'
          rw [c3]
          by_cases hb : (rws ms (List.range b) (late t i n)).Nodup
          · refine ⟨_, ?_, some (nI (nth t i).2), some (nI i), some (nI (nth t i).1), .d (.list ((late t i n).map tcE)), rfl⟩
            simp [-List.map_map, -List.map_append, -List.map_dropLast, -List.map_take, -List.map_drop, -List.map_reverse, E18, bR7B, hn, h1, h2, c1, pEqT_tt, c2', a1, a2, a3, a4, hlate, z1, z2, hb, hfl, map_snoc]
          · refine ⟨_, ?_, some (nI (nth t i).2), some (nI i), some (nI (nth t i).1), .d (.list ((late t i n).map tcE)), rfl⟩
            simp [-List.map_map, -List.map_append, -List.map_dropLast, -List.map_take, -List.map_drop, -List.map_reverse, E18, bR7B, hn, h1, h2, c1, pEqT_tt, c2', a1, a2, a3, a4, hlate, z1, z2, hb]
        · have c3 : fits b ms t n i = false := by simp [-List.map_map, -List.map_append, -List.map_dropLast, -List.map_take, -List.map_drop, -List.map_reverse, fits, c2]
          have c2' := c2
          unfold turnAt at c2'
          simp only at c2'
          refine ⟨_, ?_, some (nI (nth t i).2), some (nI i), some (nI (nth t i).1), .o ((late t i n).map tcE), rfl⟩
          simp [-List.map_map, -List.map_append, -List.map_dropLast, -List.map_take, -List.map_drop, -List.map_reverse, E18, bR7B, hn, h1, h2, c1, pEqT_tt, c2', c3, a1, a2, a3, a4, hlate]
      · have c3 : fits b ms t n i = false := by simp [-List.map_map, -List.map_append, -List.map_dropLast, -List.map_take, -List.map_drop, -List.map_reverse, fits, c1]
        refine ⟨_, ?_, some (nI (nth t i).2), some (nI i), some (nI (nth t i).1), .o ((late t i n).map tcE), rfl⟩
        simp [-List.map_map, -List.map_append, -List.map_dropLast, -List.map_take, -List.map_drop, -List.map_reverse, E18, bR7B, hn, h1, h2, c1, c3, a1, a2, a3, a4, hlate])
  refine ⟨s8', s11', s12', s13', ?_⟩
  simp only [E18, List.map_nil] at g
  simp [-List.map_map, -List.map_append, -List.map_dropLast, -List.map_take, -List.map_drop, -List.map_reverse, E18, bR7, numD_map, g]
end
end Pwk85

set_option Elab.async false
set_option linter.all false
set_option maxRecDepth 100000
set_option maxHeartbeats 4000000
/-! what the law's defs answer: pairs of methods -/
namespace Pwk85
open PySem PySem.Spec PyProof.Rows L2 Pw
section
variable {b : Nat} {ms : List Mth} {t : List (Nat × Nat)}
theorem ldr_range {m : Mth} (k : m.Ok b) : ldr m (List.range b) = m.lead := by
  unfold ldr
  have z : ∀ x ∈ m.lead, tms (List.range b) x = x := fun x hx => range_tms fun y hy => (k.lead x hx).lt hy
  rw [List.map_congr_left (g := id) z, List.map_id]
theorem qI1 (r : Rnd b ms t) {l : List D} {sh : D} {n one other : Nat} (h1 : one < ms.length) (h2 : other < ms.length) {due : List Nat} {s8 s11 s12 s17 : Option D} {s13 told s16 : Sl} :
    bI1 (E18 l b ms (.d (.list (t.map tcE))) sh n (some (nI one)) s8 due s11 s12 s13 told (some (nI other)) s16 s17) =
    .nx (E18 l b ms (.d (.list (t.map tcE))) sh n (some (nI one)) s8 due none s12 s13 told (some (nI other)) (.o [.list ((srt (nth ms one).lead).map rE), .list ((srt (nth ms other).lead).map rE)]) s17) := by
  have g : lcGo (qN 11 false) mYes (mFrz (mN false pSortA (mACons (m2 true pIx (mCall n__law_lead m__law_lead (mACons (m2 true pIx (m2 true pIx (mVar 2) (mC (nI 1))) (mVar 11)) (mACons (mVar 4) (mACons (mC (nI 0)) mANil)))) (mC (nI 0))) mANil))) [11] [] ([one, other].map nI)
      (E18 l b ms (.d (.list (t.map tcE))) sh n (some (nI one)) s8 due none s12 s13 told (some (nI other)) s16 s17) = .ok (([one, other].map fun a => srt (nth ms a).lead).map lsE) (E18 l b ms (.d (.list (t.map tcE))) sh n (some (nI one)) s8 due none s12 s13 told (some (nI other)) s16 s17) := by
    refine lc_mp lsE (fun a => srt (nth ms a).lead) (fun a ha => ?_) (by simp [-List.map_map, -List.map_append, -List.map_dropLast, -List.map_take, -List.map_drop, -List.map_reverse])
    have hal : a < ms.length := by
      simp only [List.mem_cons, List.not_mem_nil, or_false] at ha
      rcases ha with rfl | rfl <;> assumption
    have k := r.s.ok _ (nth_mem hal)
    have z := r_law_lead k r.h5 (row_range b) (c := 0) (by omega)
    rw [ldr_range k] at z
    simp [-List.map_map, -List.map_append, -List.map_dropLast, -List.map_take, -List.map_drop, -List.map_reverse, E18, hal, z]
  simp only [E18, List.map_cons, List.map_nil, sD_some, sD_none] at g
  simp [-List.map_map, -List.map_append, -List.map_dropLast, -List.map_take, -List.map_drop, -List.map_reverse, E18, bI1, g]
theorem qI2 (r : Rnd b ms t) {l : List D} {T : R} {sh : D} {n one other : Nat} (h1 : one < ms.length) (h2 : other < ms.length) {due : List Nat} {s8 s11 s12 s17 : Option D} {s13 told : Sl} :
    bI2 (E18 l b ms T sh n (some (nI one)) s8 due s11 s12 s13 told (some (nI other)) (.o [.list ((srt (nth ms one).lead).map rE), .list ((srt (nth ms other).lead).map rE)]) s17) =
    .nx (E18 l b ms T sh n (some (nI one)) s8 due s11 s12 s13 told (some (nI other)) (.o [.list ((srt (nth ms one).lead).map rE), .list ((srt (nth ms other).lead).map rE)]) (some (.bool (always ms one other)))) := by
  by_cases c : (nth ms one).turns = (nth ms other).turns
  · simp [-List.map_map, -List.map_append, -List.map_dropLast, -List.map_take, -List.map_drop, -List.map_reverse, E18, bI2, h1, h2, pEqT_ll, c, always]
  · simp [-List.map_map, -List.map_append, -List.map_dropLast, -List.map_take, -List.map_drop, -List.map_reverse, E18, bI2, h1, h2, pEqT_ll, c, always]
theorem qI3 (r : Rnd b ms t) {l : List D} {T : R} {sh : D} {n one other : Nat} (h1 : one < ms.length) (h2 : other < ms.length) {due : List Nat} {s8 s11 s12 : Option D} {s13 told s16 : Sl} :
    bI3 (E18 l b ms T sh n (some (nI one)) s8 due s11 s12 s13 told (some (nI other)) s16 (some (.bool (always ms one other)))) =
    .nx (E18 l b ms T sh n (some (nI one)) s8 due s11 s12 s13 told (some (nI other)) s16 (some (.bool (always ms one other)))) := by
  have p : pick [2, 1, 0] [R.d (nI other), .d (nI one), .d (sE ms)] = [.d (sE ms), .d (nI one), .d (nI other)] := rfl
  simp [-List.map_map, -List.map_append, -List.map_dropLast, -List.map_take, -List.map_drop, -List.map_reverse, E18, bI3, r_may_always r.s h1 h2, p, shO_ok show_bools]
theorem qI4 (r : Rnd b ms t) {l : List D} (hp : Pot l) {sh : D} {n one other : Nat} (h1 : one < ms.length) (h2 : other < ms.length) {due : List Nat} {s8 s11 s12 : Option D} {s13 told s16 : Sl} :
    ∃ l' s8' s12' s13', Pot l' ∧ bI4 (E18 l b ms (.d (.list (t.map tcE))) sh n (some (nI one)) s8 due s11 s12 s13 told (some (nI other)) s16 (some (.bool (always ms one other)))) =
    .nx (E18 l' b ms (.d (.list (t.map tcE))) sh n (some (nI one)) s8' due s11 s12' s13' told (some (nI other)) s16 (some (.bool (always ms one other)))) := by
  have hl := r.H.len
  by_cases c : always ms one other = true
  · obtain ⟨ys, e', g, l', u, hp', rfl, hu, rfl⟩ := lc_ex (f := tcE) (q := qTup 2 (qCons (qN 12 false) (qCons (qN 8 false) qNil))) (tt := mYes) (vs := [12, 8]) (xs := t)
      (me := mIf (mAndT (mTst (m2 true pEqT (mVar 12) (mVar 15))) (mTst (m2 true pEqT (mCallP n__law_draw m__law_draw (mACons (mVar 0) (mACons (mC (nI 2)) mANil))) (mC (nI 0))))) (mTup (mACons (mVar 7) (mACons (mVar 8) mANil))) (mTup (mACons (mVar 12) (mACons (mVar 8) mANil))))
      (e0 := E18 l b ms (.d (.list (t.map tcE))) sh n (some (nI one)) none due s11 none s13 told (some (nI other)) s16 (some (.bool true)))
      (fun done acc e => ∃ (l' : List D) (u : List (Nat × Nat)), Pot l' ∧ acc = u.map tcE ∧ All2 (Swp ms other one) done u ∧ e = E18 l' b ms (.d (.list (t.map tcE))) sh n (some (nI one)) none due s11 none s13 told (some (nI other)) s16 (some (.bool true)))
      ⟨l, [], hp, rfl, .nil, rfl⟩ (by
        rintro done p rest acc _ hx ⟨l, u, hp, rfl, hu, rfl⟩
        obtain ⟨d, l2, hp2, hd, hr⟩ := r_draw (n := 2) hp (by decide) (by decide)
        by_cases c1 : p.1 = other
        · by_cases c2 : d = 0
          · refine ⟨tcE (one, p.2), _, ?_, l2, u ++ [(one, p.2)], hp2, by simp [-List.map_map, -List.map_dropLast, -List.map_take, -List.map_drop, -List.map_reverse, List.map_append], hu.snoc (.inr ⟨c1, rfl⟩), rfl⟩
            simp [-List.map_map, -List.map_append, -List.map_dropLast, -List.map_take, -List.map_drop, -List.map_reverse, E18, c1, hr, c2]
          · refine ⟨tcE p, _, ?_, l2, u ++ [p], hp2, by simp [-List.map_map, -List.map_dropLast, -List.map_take, -List.map_drop, -List.map_reverse, List.map_append], hu.snoc (.inl rfl), rfl⟩
            simp [-List.map_map, -List.map_append, -List.map_dropLast, -List.map_take, -List.map_drop, -List.map_reverse, E18, c1, hr, c2]
        · refine ⟨tcE p, _, ?_, l, u ++ [p], hp, by simp [-List.map_map, -List.map_dropLast, -List.map_take, -List.map_drop, -List.map_reverse, List.map_append], hu.snoc (.inl rfl), rfl⟩
          simp [-List.map_map, -List.map_append, -List.map_dropLast, -List.map_take, -List.map_drop, -List.map_reverse, E18, c1]) (by omega)
    obtain ⟨k1, k2⟩ := swp_rows (h := List.range b) c h1 hu r.H.ok
    have HU : Tch ms u := ⟨k1, by rw [← hu.len]; exact hl⟩
    have e1 : truS b ms u = truS b ms t := by
      rw [truS_rows r.s HU, truS_rows r.s r.H]
      exact decide_eq_decide.mpr k2.nodup_iff
    have z1 := r_spliced_true r.s HU (.inl rfl)
    have z2 := r_spliced_true r.s r.H (.inl rfl)
    rw [e1] at z1
    have z3 : pNeT (.bool (truS b ms t)) (.bool (truS b ms t)) = some (.d (.bool false)) :=
      (pNe_nc (f := PyData.bool) (by decide) (truS b ms t) (truS b ms t)).trans (by simp [-List.map_map, -List.map_append, -List.map_dropLast, -List.map_take, -List.map_drop, -List.map_reverse])
    refine ⟨l', none, none, .d (.list (u.map tcE)), hp', ?_⟩
    simp only [E18, sD_some, sD_none] at g
    rw [c]
    simp [-List.map_map, -List.map_append, -List.map_dropLast, -List.map_take, -List.map_drop, -List.map_reverse, E18, bI4, g, z1, z2, z3]
  · rw [Bool.not_eq_true] at c
    exact ⟨l, s8, s12, s13, hp, by simp [-List.map_map, -List.map_append, -List.map_dropLast, -List.map_take, -List.map_drop, -List.map_reverse, E18, bI4, c]⟩
theorem qI (r : Rnd b ms t) {l : List D} (hp : Pot l) {sh : D} {n one other : Nat} (h1 : one < ms.length) (h2 : other < ms.length) {due : List Nat} {s8 s11 s12 s17 : Option D} {s13 told s16 : Sl} :
    ∃ l' s8' s11' s12' s13' s16' s17', Pot l' ∧ bI (E18 l b ms (.d (.list (t.map tcE))) sh n (some (nI one)) s8 due s11 s12 s13 told (some (nI other)) s16 s17) =
    .nx (E18 l' b ms (.d (.list (t.map tcE))) sh n (some (nI one)) s8' due s11' s12' s13' told (some (nI other)) s16' s17') := by
  obtain ⟨l', s8', s12', s13', hp', e4⟩ := qI4 r hp (sh := sh) (n := n) h1 h2 (due := due) (s8 := s8) (s11 := none) (s12 := s12) (s13 := s13) (told := told) (s16 := .o [.list ((srt (nth ms one).lead).map rE), .list ((srt (nth ms other).lead).map rE)])
  refine ⟨l', s8', none, s12', s13', .o [.list ((srt (nth ms one).lead).map rE), .list ((srt (nth ms other).lead).map rE)], some (.bool (always ms one other)), hp', ?_⟩
  unfold bI
  rw [x_seq, qI1 r h1 h2, sq_nx, x_seq, qI2 r h1 h2, sq_nx, x_seq, qI3 r h1 h2, sq_nx, e4]
theorem q11 (r : Rnd b ms t) {l : List D} (hp : Pot l) {sh : D} {n : Nat} {due : List Nat} {s7 s8 s11 s12 s15 s17 : Option D} {s13 told s16 : Sl} :
    ∃ l' s7' s8' s11' s12' s13' s15' s16' s17', Pot l' ∧ bR11 (E18 l b ms (.d (.list (t.map tcE))) sh n s7 s8 due s11 s12 s13 told s15 s16 s17) =
    .nx (E18 l' b ms (.d (.list (t.map tcE))) sh n s7' s8' due s11' s12' s13' told s15' s16' s17') := by
  have four := r.s.four
  obtain ⟨e', g, l', s7', s8', s11', s12', s13', s15', s16', s17', hp', rfl⟩ := for_rg (f := nI) (n := ms.length) (q := qN 7 false) (b := bJ)
    (e0 := E18 l b ms (.d (.list (t.map tcE))) sh n s7 s8 due s11 s12 s13 told s15 s16 s17)
    (fun i e => ∃ l' s7' s8' s11' s12' s13' s15' s16' s17', Pot l' ∧ e = E18 l' b ms (.d (.list (t.map tcE))) sh n s7' s8' due s11' s12' s13' told s15' s16' s17')
    ⟨l, s7, s8, s11, s12, s13, s15, s16, s17, hp, rfl⟩ (by
      rintro i _ hi ⟨l, s7, s8, s11, s12, s13, s15, s16, s17, hp, rfl⟩
      obtain ⟨e', g, l', s8', s11', s12', s13', s15', s16', s17', hp', rfl⟩ := for_rg (f := nI) (n := ms.length) (q := qN 15 false) (b := bI)
        (e0 := E18 l b ms (.d (.list (t.map tcE))) sh n (some (nI i)) s8 due s11 s12 s13 told s15 s16 s17)
        (fun j e => ∃ l' s8' s11' s12' s13' s15' s16' s17', Pot l' ∧ e = E18 l' b ms (.d (.list (t.map tcE))) sh n (some (nI i)) s8' due s11' s12' s13' told s15' s16' s17')
        ⟨l, s8, s11, s12, s13, s15, s16, s17, hp, rfl⟩ (by
          rintro j _ hj ⟨l, s8, s11, s12, s13, s15, s16, s17, hp, rfl⟩
          obtain ⟨l', s8', s11', s12', s13', s16', s17', hp', e⟩ := qI r hp (sh := sh) (n := n) hi hj (due := due) (s8 := s8) (s11 := s11) (s12 := s12) (s13 := s13) (told := told) (s16 := s16) (s17 := s17)
          have q : qN 15 false (.d (nI j)) (E18 l b ms (.d (.list (t.map tcE))) sh n (some (nI i)) s8 due s11 s12 s13 told s15 s16 s17) = some (E18 l b ms (.d (.list (t.map tcE))) sh n (some (nI i)) s8 due s11 s12 s13 told (some (nI j)) s16 s17) := by simp [-List.map_map, -List.map_append, -List.map_dropLast, -List.map_take, -List.map_drop, -List.map_reverse, E18]
          exact ⟨_, by rw [q, qS_some, e], l', s8', s11', s12', s13', _, s16', s17', hp', rfl⟩)
      have q : qN 7 false (.d (nI i)) (E18 l b ms (.d (.list (t.map tcE))) sh n s7 s8 due s11 s12 s13 told s15 s16 s17) = some (E18 l b ms (.d (.list (t.map tcE))) sh n (some (nI i)) s8 due s11 s12 s13 told s15 s16 s17) := by simp [-List.map_map, -List.map_append, -List.map_dropLast, -List.map_take, -List.map_drop, -List.map_reverse, E18]
      refine ⟨_, ?_, l', some (nI i), s8', s11', s12', s13', s15', s16', s17', hp', rfl⟩
      rw [q, qS_some]
      simp only [E18, sD_some] at g
      simp [-List.map_map, -List.map_append, -List.map_dropLast, -List.map_take, -List.map_drop, -List.map_reverse, E18, bJ, show ms.length ≤ 1000000 by omega, g])
  refine ⟨l', s7', s8', s11', s12', s13', s15', s16', s17', hp', ?_⟩
  simp only [E18] at g
  simp [-List.map_map, -List.map_append, -List.map_dropLast, -List.map_take, -List.map_drop, -List.map_reverse, E18, bR11, show ms.length ≤ 1000000 by omega, g]
end
end Pwk85

set_option Elab.async false
set_option linter.all false
set_option maxRecDepth 100000
set_option maxHeartbeats 4000000
/-! what the law answers -/
namespace Pwk85
open PySem PySem.Spec PyProof.Rows L2 Pw
section
variable {b : Nat} {ms : List Mth} {t : List (Nat × Nat)}
theorem cut1 {α : Type} {l : List α} : cutL l none (some 1) = l.take 1 := cut_tk (n := 1)
/-- the slots before the turns are known -/
def E7 (l : List D) (b : Nat) (ms : List Mth) (t : List (Nat × Nat)) (sh : D) (n : Nat) : En :=
  [some (.pl l), some (.d (nI b)), some (.d (sE ms)), some (.ol (t.map tcE)), some (.d (rE (List.range b))), some (.d sh), some (.d (nI n)), none, none, none, none, none, none, none, none, none, none, none]
theorem q14 (hb : b = 3 ∨ b = 4 ∨ b = 5) {l : List D} (hp : Pot l) : ∃ (ms : List Mth) (t : List (Nat × Nat)) (n : Nat) (l' : List D), Rnd b ms t ∧ n < ms.length ∧ Pot l' ∧ ∀ K : MS,
    (mSeq bR1 (mSeq bR2 (mSeq bR3 (mSeq bR4 K)))) (env0 18 [.pl l, .d (nI b)]) = K (E7 l' b ms t (.str (PyData.list [sE ms, .list (t.map tcE)]).shown) n) := by
  obtain ⟨ms0, l1, hp1, hd, hne, hl, hr1⟩ := r_splice hb hp (most := 2) (long := 5) (L := 6) (by decide) (by decide) (by decide) (by decide) (by decide) (by decide)
  have hpos := List.length_pos_iff.mpr hne
  obtain ⟨k0, kl⟩ := hd _ (nth_mem hpos)
  obtain ⟨m', l2, hp2, al, hr2⟩ := r_near k0 hp1
  have hs : Spl b (ms0 ++ [m'] ++ ms0.take 1) := ⟨fun m hm => by
    rcases List.mem_append.mp hm with hm | hm
    · rcases List.mem_append.mp hm with hm | hm
      · exact (hd m hm).1
      · rw [List.mem_singleton.mp hm]
        exact al.ok k0 (by omega)
    · exact (hd m (List.mem_of_mem_take hm)).1, by simp [-List.map_map, -List.map_append, -List.map_dropLast, -List.map_take, -List.map_drop, -List.map_reverse], by simp [-List.map_map, -List.map_append, -List.map_dropLast, -List.map_take, -List.map_drop, -List.map_reverse]; omega⟩
  have h9 : ∀ m ∈ ms0 ++ [m'] ++ ms0.take 1, m.ch.length ≤ 9 := fun m hm => by
    rcases List.mem_append.mp hm with hm | hm
    · rcases List.mem_append.mp hm with hm | hm
      · have := (hd m hm).2; omega
      · rw [List.mem_singleton.mp hm]
        have := al.ln
        omega
    · have := (hd m (List.mem_of_mem_take hm)).2; omega
  have hms : ms0.map mE ++ mE m' :: (ms0.take 1).map mE = (ms0 ++ [m'] ++ ms0.take 1).map mE := by simp [-List.map_map, -List.map_dropLast, -List.map_take, -List.map_drop, -List.map_reverse, List.map_append]
  generalize ms0 ++ [m'] ++ ms0.take 1 = ms at hs h9 hms
  obtain ⟨d, l3, hp3, hd3, hr3⟩ := r_draw (n := 2) hp2 (by decide) (by decide)
  obtain ⟨t, l4, hp4, ht, htl, hr4⟩ := r_touch hs hp3 (most := if d = 0 then 8 else 3) (by split <;> decide)
  have hrnd : Rnd b ms t := ⟨hs, h9, by omega, ht, by split at htl <;> omega⟩
  obtain ⟨n, l5, hp5, hn, hr5⟩ := r_draw (n := ms.length) hp4 hs.pos (by have := hs.four; omega)
  refine ⟨ms, t, n, l5, hrnd, hn, hp5, fun K => ?_⟩
  have e3 : (if d = 0 then nI 8 else nI 3) = nI (if d = 0 then 8 else 3) := by split <;> rfl
  simp [-List.map_map, -List.map_append, -List.map_dropLast, -List.map_take, -List.map_drop, -List.map_reverse, bR1, bR2, bR3, bR4, env0, hr1, hpos, hr2, cut1, hms, hr3, e3, hr4, shO_ok hrnd.show, hr5, show ms0.length + 1 ≤ 16777216 by omega, show ms0.length + 1 + min 1 ms0.length ≤ 16777216 by omega, show ms0.length + (min 1 ms0.length + 1) ≤ 16777216 by omega, show b ≤ 1000000 by omega, E7]
theorem q5 (r : Rnd b ms t) {l : List D} {sh : D} {n : Nat} (K : MS) : (mSeq bR5 (mSeq bR6 K)) (E7 l b ms t sh n) = K (E18 l b ms (.ol (t.map tcE)) sh n none none [] none none .n .n none .n none) := by
  have four := r.s.four
  have g : lcGo (qN 7 false) mYes (mFrz (mLc (mRgI (mG1 (m2 false pAdd (mN true pLen (mACons (m2 true pIx (mVar 7) (mC (nI 3))) mANil)) (mC (nI 1))))) (qN 8 false) mYes (m2 true pIx (mCall n__law_lead m__law_lead (mACons (mVar 7) (mACons (mVar 4) (mACons (mVar 8) mANil)))) (mC (nI 1))) [8])) [7] [] (ms.map mE) (E7 l b ms t sh n) = .ok ((ms.map Mth.turns).map lsE) (E7 l b ms t sh n) := by
    refine lc_mp lsE Mth.turns (fun m hm => ?_) (by omega)
    have k := r.s.ok m hm
    have hrg : ∀ e : En, rgR (id : List D → List D) (0, (m.ca.length : Int) + 1) e = .ok ((List.range (m.ca.length + 1)).map nI) e := fun e => rgR_n (f := (id : List D → List D)) (n := m.ca.length + 1) (by have := k.cl; omega)
    have g2 : lcGo (qN 8 false) mYes (m2 true pIx (mCall n__law_lead m__law_lead (mACons (mVar 7) (mACons (mVar 4) (mACons (mVar 8) mANil)))) (mC (nI 1))) [8] [] ((List.range (m.ca.length + 1)).map nI) ((E7 l b ms t sh n).set 7 (some (.d (mE m)))) = .ok (((List.range (m.ca.length + 1)).map fun c => nth m.turns c).map rE) ((E7 l b ms t sh n).set 7 (some (.d (mE m)))) := by
      refine lc_mp rE (fun c => nth m.turns c) (fun c hc => ?_) (by have := k.cl; simp [-List.map_map, -List.map_append, -List.map_dropLast, -List.map_take, -List.map_drop, -List.map_reverse]; omega)
      have hc' := List.mem_range.mp hc
      have z := r_law_lead k r.h5 (row_range b) hc'
      have zr : tms (List.range b) (nth m.turns c) = nth m.turns c := range_tms fun x hx => (k.turns _ (nth_mem (by simpa [-List.map_map, -List.map_append, -List.map_dropLast, -List.map_take, -List.map_drop, -List.map_reverse] using hc'))).lt hx
      rw [zr] at z
      simp [-List.map_map, -List.map_append, -List.map_dropLast, -List.map_take, -List.map_drop, -List.map_reverse, E7, z]
    have e : ((List.range (m.ca.length + 1)).map fun c => nth m.turns c) = m.turns := nth_ext (by simp [-List.map_map, -List.map_append, -List.map_dropLast, -List.map_take, -List.map_drop, -List.map_reverse]) fun i hi => by
      have hi' : i < m.ca.length + 1 := by simpa [-List.map_map, -List.map_append, -List.map_dropLast, -List.map_take, -List.map_drop, -List.map_reverse] using hi
      rw [nth_map (by simpa [-List.map_map, -List.map_append, -List.map_dropLast, -List.map_take, -List.map_drop, -List.map_reverse] using hi')]
      congr 1
      rw [nth_lt (by simpa [-List.map_map, -List.map_append, -List.map_dropLast, -List.map_take, -List.map_drop, -List.map_reverse] using hi')]
      simp [-List.map_map, -List.map_append, -List.map_dropLast, -List.map_take, -List.map_drop, -List.map_reverse]
    rw [e] at g2
    simp [-List.map_map, -List.map_append, -List.map_dropLast, -List.map_take, -List.map_drop, -List.map_reverse, E7] at g2
    simp [-List.map_map, -List.map_append, -List.map_dropLast, -List.map_take, -List.map_drop, -List.map_reverse, E7, hrg, g2]
  simp only [E7] at g
  simp [-List.map_map, -List.map_append, -List.map_dropLast, -List.map_take, -List.map_drop, -List.map_reverse, bR5, bR6, E7, E18, g]
theorem q810 (r : Rnd b ms t) {l : List D} {sh : D} {n : Nat} (hn : n < ms.length) {s7 s8 s11 s12 s15 s17 : Option D} {s13 told s16 : Sl} (K : MS) :
    (mSeq bR8 (mSeq bR9 (mSeq bR10 K))) (E18 l b ms (.d (.list (t.map tcE))) sh n s7 s8 ((List.range t.length).filter (fits b ms t n)) s11 s12 s13 told s15 s16 s17) =
    K (E18 l b ms (.d (.list (t.map tcE))) sh n s7 s8 ((List.range t.length).filter (fits b ms t n)) s11 s12 s13 (.o (((List.range t.length).filter (fits b ms t n)).map nI ++ [.none])) s15 s16 s17) := by
  have t8 := r.t8
  have hfl : ((List.range t.length).filter (fits b ms t n)).length ≤ 8 := by
    have := List.length_filter_le (fits b ms t n) (List.range t.length)
    simp [-List.map_map, -List.map_append, -List.map_dropLast, -List.map_take, -List.map_drop, -List.map_reverse] at this
    omega
  have hsm : ∀ x ∈ (List.range t.length).filter (fits b ms t n), x ≤ 99 := fun x hx => by
    have := List.mem_range.mp (List.mem_filter.mp hx).1
    omega
  have z1 := r_stand_ins r.s r.H (.inl rfl) hn
  have z2 := r_stand_ins r.s r.H (.inr rfl) hn
  have hsh := show_nums hfl hfl hsm hsm
  generalize (List.range t.length).filter (fits b ms t n) = due at *
  have p : pick [2, 1, 0] [R.d (nI n), .d (.tuple (t.map tcE)), .d (sE ms)] = [.d (sE ms), .d (.tuple (t.map tcE)), .d (nI n)] := rfl
  simp [-List.map_map, -List.map_append, -List.map_dropLast, -List.map_take, -List.map_drop, -List.map_reverse, bR8, bR9, bR10, E18, z1, z2, p, shO_ok hsh, show due.length < 16777216 by omega]
theorem r_right (hb : b = 3 ∨ b = 4 ∨ b = 5) {l : List D} (hp : Pot l) : ∃ l', Pot l' ∧ rnP m__law_right 18 l [.d (nI b)] = some (.d (.bool true), l') := by
  obtain ⟨ms, t, n, l1, r, hn, hp1, e4⟩ := q14 hb hp
  obtain ⟨s8, s11, s12, s13, e7⟩ := q7 r hn (l := l1) (sh := .str (PyData.list [sE ms, .list (t.map tcE)]).shown) (s7 := none) (s8 := none) (s11 := none) (s12 := none) (s15 := none) (s17 := none) (s13 := .n) (told := .n) (s16 := .n)
  obtain ⟨l2, u7, u8, u11, u12, u13, u15, u16, u17, hp2, e11⟩ := q11 r hp1 (sh := .str (PyData.list [sE ms, .list (t.map tcE)]).shown) (n := n) (due := (List.range t.length).filter (fits b ms t n)) (s7 := none) (s8 := s8) (s11 := s11) (s12 := s12) (s13 := s13) (told := .o (((List.range t.length).filter (fits b ms t n)).map nI ++ [.none])) (s15 := none) (s16 := .n) (s17 := none)
  refine ⟨l2, hp2, rnP_of (e := (E18 l2 b ms (.d (.list (t.map tcE))) (.str (PyData.list [sE ms, .list (t.map tcE)]).shown) n u7 u8 ((List.range t.length).filter (fits b ms t n)) u11 u12 u13 (.o (((List.range t.length).filter (fits b ms t n)).map nI ++ [.none])) u15 u16 u17).tail) ?_⟩
  rw [right_eq, e4, q5 r, x_seq, e7, sq_nx, q810 r hn, x_seq, e11, sq_nx]
  simp [-List.map_map, -List.map_append, -List.map_dropLast, -List.map_take, -List.map_drop, -List.map_reverse, bR12, E18, shO_ok r.show]
theorem r_law {ns : List Int} : rn m_law 3 [.kl (ns.map PyData.int)] = some (.d (.bool true)) := by
  obtain ⟨l0, hp0, h0⟩ := r_pot (ns := ns) (k := 0) (by decide)
  obtain ⟨l1, hp1, h1⟩ := r_pot (ns := ns) (k := 1) (by decide)
  obtain ⟨d0, l2, hp2, hd0, h2⟩ := r_draw (n := 2) hp0 (by decide) (by decide)
  obtain ⟨d1, l3, hp3, hd1, h3⟩ := r_draw (n := 2) hp1 (by decide) (by decide)
  obtain ⟨l4, hp4, h4⟩ := r_right (b := 3 + d0) (by omega) hp2
  obtain ⟨l5, hp5, h5⟩ := r_right (b := 4 + d1) (by omega) hp3
  refine rn_of ?_
  simp [-List.map_map, -List.map_append, -List.map_dropLast, -List.map_take, -List.map_drop, -List.map_reverse, m_law, env0, h0, h1, h2, h3, h4, h5]
theorem r_law_run (ns : List Int) : ∃ e', fRun m_law (env0 n_law [.kl (ns.map PyData.int)]) = some (.d (.bool true), e') := rn_run r_law
end
end Pwk85

set_option Elab.async false
set_option linter.all false
set_option maxRecDepth 100000
set_option maxHeartbeats 4000000
namespace Pwk85
open PySem PySem.Spec PyProof.Rows L2 Pw
theorem sc__law_pot : FnScope nm__law_pot ["script", "k"] (defScope s__law_pot) := ⟨rfl, rfl, rfl, by decide +kernel, rfl, by decide +kernel, by decide +kernel⟩
theorem sc__law_draw : FnScope nm__law_draw ["pot", "size"] (defScope s__law_draw) := ⟨rfl, rfl, rfl, by decide +kernel, rfl, by decide +kernel, by decide +kernel⟩
theorem sc_is_tuple : FnScope nm_is_tuple ["value", "many"] (defScope s_is_tuple) := ⟨rfl, rfl, rfl, by decide +kernel, rfl, by decide +kernel, by decide +kernel⟩
theorem sc_is_integer : FnScope nm_is_integer ["value"] (defScope s_is_integer) := ⟨rfl, rfl, rfl, by decide +kernel, rfl, by decide +kernel, by decide +kernel⟩
theorem sc_is_within : FnScope nm_is_within ["value", "least", "most"] (defScope s_is_within) := ⟨rfl, rfl, rfl, by decide +kernel, rfl, by decide +kernel, by decide +kernel⟩
theorem sc_is_bells : FnScope nm_is_bells ["value"] (defScope s_is_bells) := ⟨rfl, rfl, rfl, by decide +kernel, rfl, by decide +kernel, by decide +kernel⟩
theorem sc_are_rising : FnScope nm_are_rising ["values"] (defScope s_are_rising) := ⟨rfl, rfl, rfl, by decide +kernel, rfl, by decide +kernel, by decide +kernel⟩
theorem sc_is_lot : FnScope nm_is_lot ["value", "most"] (defScope s_is_lot) := ⟨rfl, rfl, rfl, by decide +kernel, rfl, by decide +kernel, by decide +kernel⟩
theorem sc_pairs_of : FnScope nm_pairs_of ["bells", "change"] (defScope s_pairs_of) := ⟨rfl, rfl, rfl, by decide +kernel, rfl, by decide +kernel, by decide +kernel⟩
theorem sc_is_change_of : FnScope nm_is_change_of ["bells", "value"] (defScope s_is_change_of) := ⟨rfl, rfl, rfl, by decide +kernel, rfl, by decide +kernel, by decide +kernel⟩
theorem sc_is_method_any : FnScope nm_is_method_any ["value"] (defScope s_is_method_any) := ⟨rfl, rfl, rfl, by decide +kernel, rfl, by decide +kernel, by decide +kernel⟩
theorem sc_is_splice_any : FnScope nm_is_splice_any ["value"] (defScope s_is_splice_any) := ⟨rfl, rfl, rfl, by decide +kernel, rfl, by decide +kernel, by decide +kernel⟩
theorem sc_want_splice : FnScope nm_want_splice ["splice"] (defScope s_want_splice) := ⟨rfl, rfl, rfl, by decide +kernel, rfl, by decide +kernel, by decide +kernel⟩
theorem sc_is_list : FnScope nm_is_list ["value"] (defScope s_is_list) := ⟨rfl, rfl, rfl, by decide +kernel, rfl, by decide +kernel, by decide +kernel⟩
theorem sc_is_lead_any : FnScope nm_is_lead_any ["splice", "value"] (defScope s_is_lead_any) := ⟨rfl, rfl, rfl, by decide +kernel, rfl, by decide +kernel, by decide +kernel⟩
theorem sc_is_spliced_any : FnScope nm_is_spliced_any ["splice", "value"] (defScope s_is_spliced_any) := ⟨rfl, rfl, rfl, by decide +kernel, rfl, by decide +kernel, by decide +kernel⟩
theorem sc_want_spliced : FnScope nm_want_spliced ["splice", "touch"] (defScope s_want_spliced) := ⟨rfl, rfl, rfl, by decide +kernel, rfl, by decide +kernel, by decide +kernel⟩
theorem sc_rounds_of : FnScope nm_rounds_of ["bells"] (defScope s_rounds_of) := ⟨rfl, rfl, rfl, by decide +kernel, rfl, by decide +kernel, by decide +kernel⟩
theorem sc_times : FnScope nm_times ["row", "other"] (defScope s_times) := ⟨rfl, rfl, rfl, by decide +kernel, rfl, by decide +kernel, by decide +kernel⟩
theorem sc_change_row : FnScope nm_change_row ["bells", "change"] (defScope s_change_row) := ⟨rfl, rfl, rfl, by decide +kernel, rfl, by decide +kernel, by decide +kernel⟩
theorem sc_lead_of : FnScope nm_lead_of ["method"] (defScope s_lead_of) := ⟨rfl, rfl, rfl, by decide +kernel, rfl, by decide +kernel, by decide +kernel⟩
theorem sc_turns_of : FnScope nm_turns_of ["method"] (defScope s_turns_of) := ⟨rfl, rfl, rfl, by decide +kernel, rfl, by decide +kernel, by decide +kernel⟩
theorem sc_all_turns_of : FnScope nm_all_turns_of ["splice"] (defScope s_all_turns_of) := ⟨rfl, rfl, rfl, by decide +kernel, rfl, by decide +kernel, by decide +kernel⟩
theorem sc_spliced_heads_of : FnScope nm_spliced_heads_of ["splice", "touch"] (defScope s_spliced_heads_of) := ⟨rfl, rfl, rfl, by decide +kernel, rfl, by decide +kernel, by decide +kernel⟩
theorem sc_is_lead_true : FnScope nm_is_lead_true ["method"] (defScope s_is_lead_true) := ⟨rfl, rfl, rfl, by decide +kernel, rfl, by decide +kernel, by decide +kernel⟩
theorem sc_inverse_of : FnScope nm_inverse_of ["row"] (defScope s_inverse_of) := ⟨rfl, rfl, rfl, by decide +kernel, rfl, by decide +kernel, by decide +kernel⟩
theorem sc_between_of : FnScope nm_between_of ["method", "other"] (defScope s_between_of) := ⟨rfl, rfl, rfl, by decide +kernel, rfl, by decide +kernel, by decide +kernel⟩
theorem sc_all_between : FnScope nm_all_between ["splice"] (defScope s_all_between) := ⟨rfl, rfl, rfl, by decide +kernel, rfl, by decide +kernel, by decide +kernel⟩
theorem sc_is_apart : FnScope nm_is_apart ["between", "head", "number", "heads", "numbers"] (defScope s_is_apart) := ⟨rfl, rfl, rfl, by decide +kernel, rfl, by decide +kernel, by decide +kernel⟩
theorem sc_is_true_of : FnScope nm_is_true_of ["splice", "touch", "heads"] (defScope s_is_true_of) := ⟨rfl, rfl, rfl, by decide +kernel, rfl, by decide +kernel, by decide +kernel⟩
theorem sc_is_spliced_true : FnScope nm_is_spliced_true ["splice", "touch"] (defScope s_is_spliced_true) := ⟨rfl, rfl, rfl, by decide +kernel, rfl, by decide +kernel, by decide +kernel⟩
theorem sc_want_number : FnScope nm_want_number ["splice", "number"] (defScope s_want_number) := ⟨rfl, rfl, rfl, by decide +kernel, rfl, by decide +kernel, by decide +kernel⟩
theorem sc_stand_ins : FnScope nm_stand_ins ["splice", "touch", "number"] (defScope s_stand_ins) := ⟨rfl, rfl, rfl, by decide +kernel, rfl, by decide +kernel, by decide +kernel⟩
theorem sc_may_always : FnScope nm_may_always ["splice", "number", "other"] (defScope s_may_always) := ⟨rfl, rfl, rfl, by decide +kernel, rfl, by decide +kernel, by decide +kernel⟩
theorem sc__law_changed : FnScope nm__law_changed ["row", "change"] (defScope s__law_changed) := ⟨rfl, rfl, rfl, by decide +kernel, rfl, by decide +kernel, by decide +kernel⟩
theorem sc__law_lead : FnScope nm__law_lead ["method", "head", "call"] (defScope s__law_lead) := ⟨rfl, rfl, rfl, by decide +kernel, rfl, by decide +kernel, by decide +kernel⟩
theorem sc__law_pick : FnScope nm__law_pick ["pot", "some"] (defScope s__law_pick) := ⟨rfl, rfl, rfl, by decide +kernel, rfl, by decide +kernel, by decide +kernel⟩
theorem sc__law_mixed : FnScope nm__law_mixed ["pot", "some"] (defScope s__law_mixed) := ⟨rfl, rfl, rfl, by decide +kernel, rfl, by decide +kernel, by decide +kernel⟩
theorem sc__law_changes : FnScope nm__law_changes ["bells"] (defScope s__law_changes) := ⟨rfl, rfl, rfl, by decide +kernel, rfl, by decide +kernel, by decide +kernel⟩
theorem sc__law_splice : FnScope nm__law_splice ["pot", "bells", "most", "long"] (defScope s__law_splice) := ⟨rfl, rfl, rfl, by decide +kernel, rfl, by decide +kernel, by decide +kernel⟩
theorem sc__law_touch : FnScope nm__law_touch ["pot", "splice", "most"] (defScope s__law_touch) := ⟨rfl, rfl, rfl, by decide +kernel, rfl, by decide +kernel, by decide +kernel⟩
theorem sc__law_rung : FnScope nm__law_rung ["splice", "touch"] (defScope s__law_rung) := ⟨rfl, rfl, rfl, by decide +kernel, rfl, by decide +kernel, by decide +kernel⟩
theorem sc__law_is_true : FnScope nm__law_is_true ["rows"] (defScope s__law_is_true) := ⟨rfl, rfl, rfl, by decide +kernel, rfl, by decide +kernel, by decide +kernel⟩
theorem sc__law_near : FnScope nm__law_near ["pot", "method"] (defScope s__law_near) := ⟨rfl, rfl, rfl, by decide +kernel, rfl, by decide +kernel, by decide +kernel⟩
theorem sc__law_right : FnScope nm__law_right ["pot", "bells"] (defScope s__law_right) := ⟨rfl, rfl, rfl, by decide +kernel, rfl, by decide +kernel, by decide +kernel⟩
theorem sc_law : FnScope nm_law ["script"] (defScope s_law) := ⟨rfl, rfl, rfl, by decide +kernel, rfl, by decide +kernel, by decide +kernel⟩
/-- what the top has written -/
structure TB (K : PySem.W.Frag) (mg : Str → Option Value) where
  f__law_pot : Addr
  d__law_pot : FuncData
  F__law_pot : Fun K "_law_pot" "_law_pot" s__law_pot f__law_pot d__law_pot
  g__law_pot : mg "_law_pot" = some (.ref f__law_pot)
  b__law_pot : Binds K d__law_pot ["script", "k"] []
  f__law_draw : Addr
  d__law_draw : FuncData
  F__law_draw : Fun K "_law_draw" "_law_draw" s__law_draw f__law_draw d__law_draw
  g__law_draw : mg "_law_draw" = some (.ref f__law_draw)
  b__law_draw : Binds K d__law_draw ["pot", "size"] []
  f_is_tuple : Addr
  d_is_tuple : FuncData
  F_is_tuple : Fun K "is_tuple" "is_tuple" s_is_tuple f_is_tuple d_is_tuple
  g_is_tuple : mg "is_tuple" = some (.ref f_is_tuple)
  b_is_tuple : Binds K d_is_tuple ["value", "many"] []
  f_is_integer : Addr
  d_is_integer : FuncData
  F_is_integer : Fun K "is_integer" "is_integer" s_is_integer f_is_integer d_is_integer
  g_is_integer : mg "is_integer" = some (.ref f_is_integer)
  b_is_integer : Binds K d_is_integer ["value"] []
  f_is_within : Addr
  d_is_within : FuncData
  F_is_within : Fun K "is_within" "is_within" s_is_within f_is_within d_is_within
  g_is_within : mg "is_within" = some (.ref f_is_within)
  b_is_within : Binds K d_is_within ["value", "least", "most"] []
  f_is_bells : Addr
  d_is_bells : FuncData
  F_is_bells : Fun K "is_bells" "is_bells" s_is_bells f_is_bells d_is_bells
  g_is_bells : mg "is_bells" = some (.ref f_is_bells)
  b_is_bells : Binds K d_is_bells ["value"] []
  f_are_rising : Addr
  d_are_rising : FuncData
  F_are_rising : Fun K "are_rising" "are_rising" s_are_rising f_are_rising d_are_rising
  g_are_rising : mg "are_rising" = some (.ref f_are_rising)
  b_are_rising : Binds K d_are_rising ["values"] []
  f_is_lot : Addr
  d_is_lot : FuncData
  F_is_lot : Fun K "is_lot" "is_lot" s_is_lot f_is_lot d_is_lot
  g_is_lot : mg "is_lot" = some (.ref f_is_lot)
  b_is_lot : Binds K d_is_lot ["value", "most"] []
  f_pairs_of : Addr
  d_pairs_of : FuncData
  F_pairs_of : Fun K "pairs_of" "pairs_of" s_pairs_of f_pairs_of d_pairs_of
  g_pairs_of : mg "pairs_of" = some (.ref f_pairs_of)
  b_pairs_of : Binds K d_pairs_of ["bells", "change"] []
  f_is_change_of : Addr
  d_is_change_of : FuncData
  F_is_change_of : Fun K "is_change_of" "is_change_of" s_is_change_of f_is_change_of d_is_change_of
  g_is_change_of : mg "is_change_of" = some (.ref f_is_change_of)
  b_is_change_of : Binds K d_is_change_of ["bells", "value"] []
  f_is_method_any : Addr
  d_is_method_any : FuncData
  F_is_method_any : Fun K "is_method_any" "is_method_any" s_is_method_any f_is_method_any d_is_method_any
  g_is_method_any : mg "is_method_any" = some (.ref f_is_method_any)
  b_is_method_any : Binds K d_is_method_any ["value"] []
  f_is_splice_any : Addr
  d_is_splice_any : FuncData
  F_is_splice_any : Fun K "is_splice_any" "is_splice_any" s_is_splice_any f_is_splice_any d_is_splice_any
  g_is_splice_any : mg "is_splice_any" = some (.ref f_is_splice_any)
  b_is_splice_any : Binds K d_is_splice_any ["value"] []
  f_want_splice : Addr
  d_want_splice : FuncData
  F_want_splice : Fun K "want_splice" "want_splice" s_want_splice f_want_splice d_want_splice
  g_want_splice : mg "want_splice" = some (.ref f_want_splice)
  b_want_splice : Binds K d_want_splice ["splice"] []
  f_is_list : Addr
  d_is_list : FuncData
  F_is_list : Fun K "is_list" "is_list" s_is_list f_is_list d_is_list
  g_is_list : mg "is_list" = some (.ref f_is_list)
  b_is_list : Binds K d_is_list ["value"] []
  f_is_lead_any : Addr
  d_is_lead_any : FuncData
  F_is_lead_any : Fun K "is_lead_any" "is_lead_any" s_is_lead_any f_is_lead_any d_is_lead_any
  g_is_lead_any : mg "is_lead_any" = some (.ref f_is_lead_any)
  b_is_lead_any : Binds K d_is_lead_any ["splice", "value"] []
  f_is_spliced_any : Addr
  d_is_spliced_any : FuncData
  F_is_spliced_any : Fun K "is_spliced_any" "is_spliced_any" s_is_spliced_any f_is_spliced_any d_is_spliced_any
  g_is_spliced_any : mg "is_spliced_any" = some (.ref f_is_spliced_any)
  b_is_spliced_any : Binds K d_is_spliced_any ["splice", "value"] []
  f_want_spliced : Addr
  d_want_spliced : FuncData
  F_want_spliced : Fun K "want_spliced" "want_spliced" s_want_spliced f_want_spliced d_want_spliced
  g_want_spliced : mg "want_spliced" = some (.ref f_want_spliced)
  b_want_spliced : Binds K d_want_spliced ["splice", "touch"] []
  f_rounds_of : Addr
  d_rounds_of : FuncData
  F_rounds_of : Fun K "rounds_of" "rounds_of" s_rounds_of f_rounds_of d_rounds_of
  g_rounds_of : mg "rounds_of" = some (.ref f_rounds_of)
  b_rounds_of : Binds K d_rounds_of ["bells"] []
  f_times : Addr
  d_times : FuncData
  F_times : Fun K "times" "times" s_times f_times d_times
  g_times : mg "times" = some (.ref f_times)
  b_times : Binds K d_times ["row", "other"] []
  f_change_row : Addr
  d_change_row : FuncData
  F_change_row : Fun K "change_row" "change_row" s_change_row f_change_row d_change_row
  g_change_row : mg "change_row" = some (.ref f_change_row)
  b_change_row : Binds K d_change_row ["bells", "change"] []
  f_lead_of : Addr
  d_lead_of : FuncData
  F_lead_of : Fun K "lead_of" "lead_of" s_lead_of f_lead_of d_lead_of
  g_lead_of : mg "lead_of" = some (.ref f_lead_of)
  b_lead_of : Binds K d_lead_of ["method"] []
  f_turns_of : Addr
  d_turns_of : FuncData
  F_turns_of : Fun K "turns_of" "turns_of" s_turns_of f_turns_of d_turns_of
  g_turns_of : mg "turns_of" = some (.ref f_turns_of)
  b_turns_of : Binds K d_turns_of ["method"] []
  f_all_turns_of : Addr
  d_all_turns_of : FuncData
  F_all_turns_of : Fun K "all_turns_of" "all_turns_of" s_all_turns_of f_all_turns_of d_all_turns_of
  g_all_turns_of : mg "all_turns_of" = some (.ref f_all_turns_of)
  b_all_turns_of : Binds K d_all_turns_of ["splice"] []
  f_spliced_heads_of : Addr
  d_spliced_heads_of : FuncData
  F_spliced_heads_of : Fun K "spliced_heads_of" "spliced_heads_of" s_spliced_heads_of f_spliced_heads_of d_spliced_heads_of
  g_spliced_heads_of : mg "spliced_heads_of" = some (.ref f_spliced_heads_of)
  b_spliced_heads_of : Binds K d_spliced_heads_of ["splice", "touch"] []
  f_is_lead_true : Addr
  d_is_lead_true : FuncData
  F_is_lead_true : Fun K "is_lead_true" "is_lead_true" s_is_lead_true f_is_lead_true d_is_lead_true
  g_is_lead_true : mg "is_lead_true" = some (.ref f_is_lead_true)
  b_is_lead_true : Binds K d_is_lead_true ["method"] []
  f_inverse_of : Addr
  d_inverse_of : FuncData
  F_inverse_of : Fun K "inverse_of" "inverse_of" s_inverse_of f_inverse_of d_inverse_of
  g_inverse_of : mg "inverse_of" = some (.ref f_inverse_of)
  b_inverse_of : Binds K d_inverse_of ["row"] []
  f_between_of : Addr
  d_between_of : FuncData
  F_between_of : Fun K "between_of" "between_of" s_between_of f_between_of d_between_of
  g_between_of : mg "between_of" = some (.ref f_between_of)
  b_between_of : Binds K d_between_of ["method", "other"] []
  f_all_between : Addr
  d_all_between : FuncData
  F_all_between : Fun K "all_between" "all_between" s_all_between f_all_between d_all_between
  g_all_between : mg "all_between" = some (.ref f_all_between)
  b_all_between : Binds K d_all_between ["splice"] []
  f_is_apart : Addr
  d_is_apart : FuncData
  F_is_apart : Fun K "is_apart" "is_apart" s_is_apart f_is_apart d_is_apart
  g_is_apart : mg "is_apart" = some (.ref f_is_apart)
  b_is_apart : Binds K d_is_apart ["between", "head", "number", "heads", "numbers"] []
  f_is_true_of : Addr
  d_is_true_of : FuncData
  F_is_true_of : Fun K "is_true_of" "is_true_of" s_is_true_of f_is_true_of d_is_true_of
  g_is_true_of : mg "is_true_of" = some (.ref f_is_true_of)
  b_is_true_of : Binds K d_is_true_of ["splice", "touch", "heads"] []
  f_is_spliced_true : Addr
  d_is_spliced_true : FuncData
  F_is_spliced_true : Fun K "is_spliced_true" "is_spliced_true" s_is_spliced_true f_is_spliced_true d_is_spliced_true
  g_is_spliced_true : mg "is_spliced_true" = some (.ref f_is_spliced_true)
  b_is_spliced_true : Binds K d_is_spliced_true ["splice", "touch"] []
  f_want_number : Addr
  d_want_number : FuncData
  F_want_number : Fun K "want_number" "want_number" s_want_number f_want_number d_want_number
  g_want_number : mg "want_number" = some (.ref f_want_number)
  b_want_number : Binds K d_want_number ["splice", "number"] []
  f_stand_ins : Addr
  d_stand_ins : FuncData
  F_stand_ins : Fun K "stand_ins" "stand_ins" s_stand_ins f_stand_ins d_stand_ins
  g_stand_ins : mg "stand_ins" = some (.ref f_stand_ins)
  b_stand_ins : Binds K d_stand_ins ["splice", "touch", "number"] []
  k0_stand_ins : ∀ (s : Shared) (ws : List Value), ws.length = (["number", "touch", "splice"] : List Str).length → BindsTo s d_stand_ins ⟨[], (["number", "touch", "splice"] : List Str).zip ws⟩ ((["splice", "touch", "number"] : List Str).zip (pick [2, 1, 0] ws))
  f_may_always : Addr
  d_may_always : FuncData
  F_may_always : Fun K "may_always" "may_always" s_may_always f_may_always d_may_always
  g_may_always : mg "may_always" = some (.ref f_may_always)
  b_may_always : Binds K d_may_always ["splice", "number", "other"] []
  k0_may_always : ∀ (s : Shared) (ws : List Value), ws.length = (["other", "number", "splice"] : List Str).length → BindsTo s d_may_always ⟨[], (["other", "number", "splice"] : List Str).zip ws⟩ ((["splice", "number", "other"] : List Str).zip (pick [2, 1, 0] ws))
  f__law_changed : Addr
  d__law_changed : FuncData
  F__law_changed : Fun K "_law_changed" "_law_changed" s__law_changed f__law_changed d__law_changed
  g__law_changed : mg "_law_changed" = some (.ref f__law_changed)
  b__law_changed : Binds K d__law_changed ["row", "change"] []
  f__law_lead : Addr
  d__law_lead : FuncData
  F__law_lead : Fun K "_law_lead" "_law_lead" s__law_lead f__law_lead d__law_lead
  g__law_lead : mg "_law_lead" = some (.ref f__law_lead)
  b__law_lead : Binds K d__law_lead ["method", "head", "call"] []
  f__law_pick : Addr
  d__law_pick : FuncData
  F__law_pick : Fun K "_law_pick" "_law_pick" s__law_pick f__law_pick d__law_pick
  g__law_pick : mg "_law_pick" = some (.ref f__law_pick)
  b__law_pick : Binds K d__law_pick ["pot", "some"] []
  f__law_mixed : Addr
  d__law_mixed : FuncData
  F__law_mixed : Fun K "_law_mixed" "_law_mixed" s__law_mixed f__law_mixed d__law_mixed
  g__law_mixed : mg "_law_mixed" = some (.ref f__law_mixed)
  b__law_mixed : Binds K d__law_mixed ["pot", "some"] []
  f__law_changes : Addr
  d__law_changes : FuncData
  F__law_changes : Fun K "_law_changes" "_law_changes" s__law_changes f__law_changes d__law_changes
  g__law_changes : mg "_law_changes" = some (.ref f__law_changes)
  b__law_changes : Binds K d__law_changes ["bells"] []
  f__law_splice : Addr
  d__law_splice : FuncData
  F__law_splice : Fun K "_law_splice" "_law_splice" s__law_splice f__law_splice d__law_splice
  g__law_splice : mg "_law_splice" = some (.ref f__law_splice)
  b__law_splice : Binds K d__law_splice ["pot", "bells", "most", "long"] []
  f__law_touch : Addr
  d__law_touch : FuncData
  F__law_touch : Fun K "_law_touch" "_law_touch" s__law_touch f__law_touch d__law_touch
  g__law_touch : mg "_law_touch" = some (.ref f__law_touch)
  b__law_touch : Binds K d__law_touch ["pot", "splice", "most"] []
  f__law_rung : Addr
  d__law_rung : FuncData
  F__law_rung : Fun K "_law_rung" "_law_rung" s__law_rung f__law_rung d__law_rung
  g__law_rung : mg "_law_rung" = some (.ref f__law_rung)
  b__law_rung : Binds K d__law_rung ["splice", "touch"] []
  f__law_is_true : Addr
  d__law_is_true : FuncData
  F__law_is_true : Fun K "_law_is_true" "_law_is_true" s__law_is_true f__law_is_true d__law_is_true
  g__law_is_true : mg "_law_is_true" = some (.ref f__law_is_true)
  b__law_is_true : Binds K d__law_is_true ["rows"] []
  f__law_near : Addr
  d__law_near : FuncData
  F__law_near : Fun K "_law_near" "_law_near" s__law_near f__law_near d__law_near
  g__law_near : mg "_law_near" = some (.ref f__law_near)
  b__law_near : Binds K d__law_near ["pot", "method"] []
  f__law_right : Addr
  d__law_right : FuncData
  F__law_right : Fun K "_law_right" "_law_right" s__law_right f__law_right d__law_right
  g__law_right : mg "_law_right" = some (.ref f__law_right)
  b__law_right : Binds K d__law_right ["pot", "bells"] []
  f_law : Addr
  d_law : FuncData
  F_law : Fun K "law" "law" s_law f_law d_law
  g_law : mg "law" = some (.ref f_law)
  b_law : Binds K d_law ["script"] []
  n_abs : mg "abs" = none
  n_all : mg "all" = none
  n_any : mg "any" = none
  n_bool : mg "bool" = none
  n_dict : mg "dict" = none
  n_divmod : mg "divmod" = none
  n_enumerate : mg "enumerate" = none
  n_int : mg "int" = none
  n_isinstance : mg "isinstance" = none
  n_len : mg "len" = none
  n_list : mg "list" = none
  n_max : mg "max" = none
  n_range : mg "range" = none
  n_repr : mg "repr" = none
  n_set : mg "set" = none
  n_sorted : mg "sorted" = none
  n_str : mg "str" = none
  n_sum : mg "sum" = none
  n_tuple : mg "tuple" = none
  n_zip : mg "zip" = none
  t_LEAST_BELLS : Tok
  c_LEAST_BELLS : mg "LEAST_BELLS" = some (.int 3 t_LEAST_BELLS)
  t_METHOD : Tok
  c_METHOD : mg "METHOD" = some (.str "method" t_METHOD)
  t_MOST_BELLS : Tok
  c_MOST_BELLS : mg "MOST_BELLS" = some (.int 6 t_MOST_BELLS)
  t_MOST_CALLS : Tok
  c_MOST_CALLS : mg "MOST_CALLS" = some (.int 3 t_MOST_CALLS)
  t_MOST_IN_LEAD : Tok
  c_MOST_IN_LEAD : mg "MOST_IN_LEAD" = some (.int 40 t_MOST_IN_LEAD)
  t_MOST_METHODS : Tok
  c_MOST_METHODS : mg "MOST_METHODS" = some (.int 4 t_MOST_METHODS)
  t_MOST_TOUCH : Tok
  c_MOST_TOUCH : mg "MOST_TOUCH" = some (.int 800 t_MOST_TOUCH)
  t_SPLICE : Tok
  c_SPLICE : mg "SPLICE" = some (.str "splice" t_SPLICE)
end Pwk85

set_option Elab.async false
set_option linter.all false
set_option maxRecDepth 100000
set_option maxHeartbeats 4000000
namespace Pwk85
open PySem PySem.Spec PyProof.Rows L2 Pw
section
variable {P : Program} {w : World} {K : PySem.W.Frag} {mg : Str → Option Value} {base : Heap}
theorem ok__law_pot (T : TB K mg) : FnG P w K mg base 1 T.f__law_pot T.d__law_pot ["script", "k"] (fspec K ow__law_pot 2 n__law_pot m__law_pot) := fng_d T.F__law_pot sc__law_pot rfl rfl fun cdv A outer s H hr gd => by
  unfold m__law_pot
  exact (dss_cons (ds_set (de_ifx (dt_cmpR (o_lt hr.units) g_cmp (de_var 1) (de_callB o_len g_len T.n_len (da_cons (de_var 0) da_nil)) (nomark _)) (de_callB call_abs g_abs T.n_abs (da_cons (de_ixR (o_ix (hu_of hr)) g_ix (de_var 0) (de_var 1) (fun _ _ => rfl)) da_nil)) (de_op2 o_add g_add (de_op2 o_add g_add (de_op2 o_mul g_mul (de_nat 2837) (de_var 1)) (de_nat 2087)) (de_op2 op_mod g_mod (de_callT call_int1 g_int T.n_int (da_cons (de_callB (cr_sum rfl) g_sum T.n_sum (da_cons (de_cut (de_var 0) do_none (do_some (de_nat 1))) da_nil)) da_nil)) (de_nat 1000003)))) (dq_name (j := 2) (b := false) sc__law_pot.nd (by decide))) (dss_one (ds_ret (de_lst (da_cons (de_callB (call_max2 rfl) g_max2 T.n_max (da_cons (de_nat 0) (da_cons (de_op2 op_sub g_sub (de_var 2) (de_op2 op_pow g_pow (de_nat 10) (de_nat 18))) da_nil))) (da_cons (de_op2 o_add g_add (de_op2 op_mod g_mod (de_callT call_int1 g_int T.n_int (da_cons (de_op2 o_add g_add (de_op2 o_add g_add (de_op2 o_mul g_mul (de_op2 op_mod g_mod (de_callT call_int1 g_int T.n_int (da_cons (de_var 2) da_nil)) (de_nat 2147483549)) (de_nat 40253)) (de_op2 o_mul g_mul (de_nat 9203) (de_var 1))) (de_nat 71)) da_nil)) (de_nat 2147483563)) (de_nat 1)) da_nil))))))
end
end Pwk85

set_option Elab.async false
set_option linter.all false
set_option maxRecDepth 100000
set_option maxHeartbeats 4000000
namespace Pwk85
open PySem PySem.Spec PyProof.Rows L2 Pw
section
variable {P : Program} {w : World} {K : PySem.W.Frag} {mg : Str → Option Value} {base : Heap}
theorem ok__law_draw (T : TB K mg) : FnG P w K mg base 1 T.f__law_draw T.d__law_draw ["pot", "size"] (fspec K ow__law_draw 2 n__law_draw m__law_draw) := fng_d T.F__law_draw sc__law_draw rfl rfl fun cdv A outer s H hr gd => by
  unfold m__law_draw
  exact (dss_cons (ds_if (dt_cmpR (o_gt hr.units) g_cmp (de_ixR (o_ix (hu_of hr)) g_ix (de_var 0) (de_nat 0) (fun _ _ => rfl)) (de_nat 0) (nomark _)) (dss_cons (ds_set (de_callB call_divmod g_divmod T.n_divmod (da_cons (de_ixR (o_ix (hu_of hr)) g_ix (de_var 0) (de_nat 0) (fun _ _ => rfl)) (da_cons (de_var 1) da_nil))) (dq_tup rfl (dqs_cons (dq_sub (hu_of hr) (de_var 0) (de_nat 0)) (dqs_cons (dq_name (j := 2) (b := false) sc__law_draw.nd (by decide)) dqs_nil)))) (dss_one (ds_ret (de_var 2)))) dss_nil) (dss_cons (ds_set (de_op2 op_mod g_mod (de_callT call_int1 g_int T.n_int (da_cons (de_op2 o_add g_add (de_op2 o_mul g_mul (de_ixR (o_ix (hu_of hr)) g_ix (de_var 0) (de_nat 1) (fun _ _ => rfl)) (de_nat 40692)) (de_nat 9203)) da_nil)) (de_nat 2147483587)) (dq_sub (hu_of hr) (de_var 0) (de_nat 1))) (dss_one (ds_ret (de_op2 op_mod g_mod (de_callT call_int1 g_int T.n_int (da_cons (de_op2 op_fdiv g_div (de_op2 op_mod g_mod (de_callT call_int1 g_int T.n_int (da_cons (de_op2 o_mul g_mul (de_ixR (o_ix (hu_of hr)) g_ix (de_var 0) (de_nat 1) (fun _ _ => rfl)) (de_ixR (o_ix (hu_of hr)) g_ix (de_var 0) (de_nat 1) (fun _ _ => rfl))) da_nil)) (de_nat 2147483549)) (de_nat 43)) da_nil)) (de_var 1))))))
end
end Pwk85

set_option Elab.async false
set_option linter.all false
set_option maxRecDepth 100000
set_option maxHeartbeats 4000000
namespace Pwk85
open PySem PySem.Spec PyProof.Rows L2 Pw
section
variable {P : Program} {w : World} {K : PySem.W.Frag} {mg : Str → Option Value} {base : Heap}
theorem ok_is_tuple (T : TB K mg) : FnG P w K mg base 1 T.f_is_tuple T.d_is_tuple ["value", "many"] (fspec K ow_is_tuple 2 n_is_tuple m_is_tuple) := fng_d T.F_is_tuple sc_is_tuple rfl rfl fun cdv A outer s H hr gd => by
  unfold m_is_tuple
  exact (dss_one (ds_ret (de_and (de_isi (T := "tuple") T.n_isinstance (de_var 0) T.n_tuple) (de_one (de_cmpR (o_eqT hr.units) g_eqT (de_callB o_len g_len T.n_len (da_cons (de_var 0) da_nil)) (de_var 1) (nomark _))))))
end
end Pwk85

set_option Elab.async false
set_option linter.all false
set_option maxRecDepth 100000
set_option maxHeartbeats 4000000
namespace Pwk85
open PySem PySem.Spec PyProof.Rows L2 Pw
section
variable {P : Program} {w : World} {K : PySem.W.Frag} {mg : Str → Option Value} {base : Heap}
theorem ok_is_integer (T : TB K mg) : FnG P w K mg base 1 T.f_is_integer T.d_is_integer ["value"] (fspec K ow_is_integer 1 n_is_integer m_is_integer) := fng_d T.F_is_integer sc_is_integer rfl rfl fun cdv A outer s H hr gd => by
  unfold m_is_integer
  exact (dss_one (ds_ret (de_and (de_isi (T := "int") T.n_isinstance (de_var 0) T.n_int) (de_one (de_not (de_isi (T := "bool") T.n_isinstance (de_var 0) T.n_bool))))))
end
end Pwk85

set_option Elab.async false
set_option linter.all false
set_option maxRecDepth 100000
set_option maxHeartbeats 4000000
namespace Pwk85
open PySem PySem.Spec PyProof.Rows L2 Pw
section
variable {P : Program} {w : World} {K : PySem.W.Frag} {mg : Str → Option Value} {base : Heap}
theorem ok_is_within (T : TB K mg) : FnG P w K mg base 2 T.f_is_within T.d_is_within ["value", "least", "most"] (fspec K ow_is_within 3 n_is_within m_is_within) := fng_d T.F_is_within sc_is_within rfl rfl fun cdv A outer s H hr gd => by
  unfold m_is_within
  exact (dss_one (ds_ret (de_and (de_call ((ok_is_integer T).mono (by decide)) hr gd T.g_is_integer T.F_is_integer.kp T.b_is_integer (da_cons (de_var 0) da_nil) (alen_cons alen_nil)) (de_one (de_chain (o_le hr.units) g_cmp (o_le hr.units) g_cmp (de_var 1) (de_var 0) (de_var 2))))))
end
end Pwk85

set_option Elab.async false
set_option linter.all false
set_option maxRecDepth 100000
set_option maxHeartbeats 4000000
namespace Pwk85
open PySem PySem.Spec PyProof.Rows L2 Pw
section
variable {P : Program} {w : World} {K : PySem.W.Frag} {mg : Str → Option Value} {base : Heap}
theorem ok_is_bells (T : TB K mg) : FnG P w K mg base 3 T.f_is_bells T.d_is_bells ["value"] (fspec K ow_is_bells 1 n_is_bells m_is_bells) := fng_d T.F_is_bells sc_is_bells rfl rfl fun cdv A outer s H hr gd => by
  unfold m_is_bells
  exact (dss_one (ds_ret (de_call ((ok_is_within T).mono (by decide)) hr gd T.g_is_within T.F_is_within.kp T.b_is_within (da_cons (de_var 0) (da_cons (de_gN T.c_LEAST_BELLS) (da_cons (de_gN T.c_MOST_BELLS) da_nil))) (alen_cons (alen_cons (alen_cons alen_nil))))))
end
end Pwk85

set_option Elab.async false
set_option linter.all false
set_option maxRecDepth 100000
set_option maxHeartbeats 4000000
namespace Pwk85
open PySem PySem.Spec PyProof.Rows L2 Pw
section
variable {P : Program} {w : World} {K : PySem.W.Frag} {mg : Str → Option Value} {base : Heap}
theorem ok_are_rising (T : TB K mg) : FnG P w K mg base 1 T.f_are_rising T.d_are_rising ["values"] (fspec K ow_are_rising 1 n_are_rising m_are_rising) := fng_d T.F_are_rising sc_are_rising rfl rfl fun cdv A outer s H hr gd => by
  unfold m_are_rising
  exact (dss_one (ds_ret (de_callB (cr_all rfl) g_all T.n_all (da_cons (de_lc (own := [("near", 1), ("far", 2)]) rfl sc_are_rising.nd (di_zip T.n_zip (de_var 0) (de_frz (de_cut (de_var 0) (do_some (de_nat 1)) do_none))) (blkOk_by (own := [("near", 1), ("far", 2)]) (N := nm_are_rising) (sc := (defScope s_are_rising)) (by decide +kernel)) (fun _ _ _ _ _ => (dq_tup rfl (dqs_cons (dq_name (j := 1) (b := false) sc_are_rising.nd (by decide)) (dqs_cons (dq_name (j := 2) (b := false) sc_are_rising.nd (by decide)) dqs_nil)))) (fun _ _ _ _ _ => dts_nil) (fun _ _ _ _ _ => (de_cmpR (o_lt hr.units) g_cmp (de_var 1) (de_var 2) (nomark _))) (by decide) (by decide)) da_nil))))
end
end Pwk85

set_option Elab.async false
set_option linter.all false
set_option maxRecDepth 100000
set_option maxHeartbeats 4000000
namespace Pwk85
open PySem PySem.Spec PyProof.Rows L2 Pw
section
variable {P : Program} {w : World} {K : PySem.W.Frag} {mg : Str → Option Value} {base : Heap}
theorem ok_is_lot (T : TB K mg) : FnG P w K mg base 3 T.f_is_lot T.d_is_lot ["value", "most"] (fspec K ow_is_lot 2 n_is_lot m_is_lot) := fng_d T.F_is_lot sc_is_lot rfl rfl fun cdv A outer s H hr gd => by
  unfold m_is_lot
  exact (dss_one (ds_ret (de_and (de_isi (T := "tuple") T.n_isinstance (de_var 0) T.n_tuple) (de_and (de_callB (cr_all rfl) g_all T.n_all (da_cons (de_lc (own := [("one", 2)]) rfl sc_is_lot.nd (di_seq (de_var 0)) (blkOk_by (own := [("one", 2)]) (N := nm_is_lot) (sc := (defScope s_is_lot)) (by decide +kernel)) (fun _ _ _ _ _ => (dq_name (j := 2) (b := false) sc_is_lot.nd (by decide))) (fun _ _ _ _ _ => dts_nil) (fun _ _ _ _ _ => (de_call ((ok_is_within T).mono (by decide)) hr gd T.g_is_within T.F_is_within.kp T.b_is_within (da_cons (de_var 2) (da_cons (de_nat 0) (da_cons (de_var 1) da_nil))) (alen_cons (alen_cons (alen_cons alen_nil))))) (by decide) (by decide)) da_nil)) (de_one (de_call ((ok_are_rising T).mono (by decide)) hr gd T.g_are_rising T.F_are_rising.kp T.b_are_rising (da_cons (de_var 0) da_nil) (alen_cons alen_nil)))))))
end
end Pwk85

set_option Elab.async false
set_option linter.all false
set_option maxRecDepth 100000
set_option maxHeartbeats 4000000
namespace Pwk85
open PySem PySem.Spec PyProof.Rows L2 Pw
section
variable {P : Program} {w : World} {K : PySem.W.Frag} {mg : Str → Option Value} {base : Heap}
theorem ok_pairs_of (T : TB K mg) : FnG P w K mg base 1 T.f_pairs_of T.d_pairs_of ["bells", "change"] (fspec K ow_pairs_of 2 n_pairs_of m_pairs_of) := fng_d T.F_pairs_of sc_pairs_of rfl rfl fun cdv A outer s H hr gd => by
  unfold m_pairs_of
  exact (dss_cons (ds_par (i := 2) (j := 3) (bi := true) (bj := false) rfl sc_pairs_of.nd (by decide) (by decide) (da_cons (de_lst da_nil) (da_cons (de_nat 0) da_nil))) (dss_cons (ds_while 100000 PassesOwn.never (dt_cmpR (o_lt hr.units) g_cmp (de_var 3) (de_var 0) (nomark _)) (dss_one (ds_if (dt_cmpR (o_in hr.units) g_in (de_var 3) (de_var 1) (by with_unfolding_all rfl)) (dss_one (ds_set (de_op2 o_add g_add (de_var 3) (de_nat 1)) (dq_name (j := 3) (b := false) sc_pairs_of.nd (by decide)))) (dss_one (ds_if (dt_w (dw_and (dt_cmpR (o_lt hr.units) g_cmp (de_op2 o_add g_add (de_var 3) (de_nat 1)) (de_var 0) (nomark _)) (dw_and1 (dt_cmpR (o_notIn hr.units) g_notIn (de_op2 o_add g_add (de_var 3) (de_nat 1)) (de_var 1) (by with_unfolding_all rfl))))) (dss_cons (ds_expr (de_mtl F.slot_list_append F.type_list_append mt_append g_app (de_var 2) (da_cons (de_var 3) da_nil))) (dss_one (ds_set (de_op2 o_add g_add (de_var 3) (de_nat 2)) (dq_name (j := 3) (b := false) sc_pairs_of.nd (by decide))))) (dss_one (ds_ret de_non))))))) (dss_one (ds_ret (de_var 2)))))
end
end Pwk85

set_option Elab.async false
set_option linter.all false
set_option maxRecDepth 100000
set_option maxHeartbeats 4000000
namespace Pwk85
open PySem PySem.Spec PyProof.Rows L2 Pw
section
variable {P : Program} {w : World} {K : PySem.W.Frag} {mg : Str → Option Value} {base : Heap}
theorem ok_is_change_of (T : TB K mg) : FnG P w K mg base 4 T.f_is_change_of T.d_is_change_of ["bells", "value"] (fspec K ow_is_change_of 2 n_is_change_of m_is_change_of) := fng_d T.F_is_change_of sc_is_change_of rfl rfl fun cdv A outer s H hr gd => by
  unfold m_is_change_of
  exact (dss_cons (ds_if (dt_w (dw_or (dt_not (dt_val (de_call ((ok_is_lot T).mono (by decide)) hr gd T.g_is_lot T.F_is_lot.kp T.b_is_lot (da_cons (de_var 1) (da_cons (de_op2 op_sub g_sub (de_var 0) (de_nat 1)) da_nil)) (alen_cons (alen_cons alen_nil))))) (dw_or1 (dt_cmpR (o_eqT hr.units) g_eqT (de_callB o_len g_len T.n_len (da_cons (de_var 1) da_nil)) (de_var 0) (nomark _))))) (dss_one (ds_ret de_bl)) dss_nil) (dss_one (ds_ret (de_cmpR op_notN g_isnot (de_call ((ok_pairs_of T).mono (by decide)) hr gd T.g_pairs_of T.F_pairs_of.kp T.b_pairs_of (da_cons (de_var 0) (da_cons (de_var 1) da_nil)) (alen_cons (alen_cons alen_nil))) de_non (nomark _)))))
end
end Pwk85

set_option Elab.async false
set_option linter.all false
set_option maxRecDepth 100000
set_option maxHeartbeats 4000000
namespace Pwk85
open PySem PySem.Spec PyProof.Rows L2 Pw
section
variable {P : Program} {w : World} {K : PySem.W.Frag} {mg : Str → Option Value} {base : Heap}
theorem ok_is_method_any (T : TB K mg) : FnG P w K mg base 5 T.f_is_method_any T.d_is_method_any ["value"] (fspec K ow_is_method_any 1 n_is_method_any m_is_method_any) := fng_d T.F_is_method_any sc_is_method_any rfl rfl fun cdv A outer s H hr gd => by
  unfold m_is_method_any
  exact (dss_cons (ds_if (dt_w (dw_or (dt_not (dt_val (de_call ((ok_is_tuple T).mono (by decide)) hr gd T.g_is_tuple T.F_is_tuple.kp T.b_is_tuple (da_cons (de_var 0) (da_cons (de_nat 4) da_nil)) (alen_cons (alen_cons alen_nil))))) (dw_or (dt_not (dt_val (de_isi (T := "str") T.n_isinstance (de_ixR (o_ix (hu_of hr)) g_ix (de_var 0) (de_nat 0) (fun _ _ => rfl)) T.n_str))) (dw_or (dt_cmpR (o_neT hr.units) g_neT (de_ixR (o_ix (hu_of hr)) g_ix (de_var 0) (de_nat 0) (fun _ _ => rfl)) (de_gS T.c_METHOD) (nomark _)) (dw_or1 (dt_not (dt_val (de_call ((ok_is_bells T).mono (by decide)) hr gd T.g_is_bells T.F_is_bells.kp T.b_is_bells (da_cons (de_ixR (o_ix (hu_of hr)) g_ix (de_var 0) (de_nat 1) (fun _ _ => rfl)) da_nil) (alen_cons alen_nil))))))))) (dss_one (ds_ret de_bl)) dss_nil) (dss_cons (ds_set (de_var 0) (dq_tup rfl (dqs_cons (dq_name (j := 1) (b := false) sc_is_method_any.nd (by decide)) (dqs_cons (dq_name (j := 2) (b := false) sc_is_method_any.nd (by decide)) (dqs_cons (dq_name (j := 3) (b := false) sc_is_method_any.nd (by decide)) (dqs_cons (dq_name (j := 4) (b := false) sc_is_method_any.nd (by decide)) dqs_nil)))))) (dss_cons (ds_if (dt_w (dw_or (dt_not (dt_val (de_isi (T := "tuple") T.n_isinstance (de_var 3) T.n_tuple))) (dw_or1 (dt_not (dt_chain (o_le hr.units) g_cmp (o_le hr.units) g_cmp (de_nat 1) (de_callB o_len g_len T.n_len (da_cons (de_var 3) da_nil)) (de_gN T.c_MOST_IN_LEAD)))))) (dss_one (ds_ret de_bl)) dss_nil) (dss_cons (ds_if (dt_w (dw_or (dt_not (dt_val (de_isi (T := "tuple") T.n_isinstance (de_var 4) T.n_tuple))) (dw_or1 (dt_cmpR (o_gt hr.units) g_cmp (de_callB o_len g_len T.n_len (da_cons (de_var 4) da_nil)) (de_gN T.c_MOST_CALLS) (nomark _))))) (dss_one (ds_ret de_bl)) dss_nil) (dss_cons (ds_if (dt_not (dt_val (de_callB (cr_all rfl) g_all T.n_all (da_cons (de_lc (own := [("one", 5)]) rfl sc_is_method_any.nd (di_seq (de_frz (de_op2 o_add g_add (de_var 3) (de_var 4)))) (blkOk_by (own := [("one", 5)]) (N := nm_is_method_any) (sc := (defScope s_is_method_any)) (by decide +kernel)) (fun _ _ _ _ _ => (dq_name (j := 5) (b := false) sc_is_method_any.nd (by decide))) (fun _ _ _ _ _ => dts_nil) (fun _ _ _ _ _ => (de_call ((ok_is_change_of T).mono (by decide)) hr gd T.g_is_change_of T.F_is_change_of.kp T.b_is_change_of (da_cons (de_var 2) (da_cons (de_var 5) da_nil)) (alen_cons (alen_cons alen_nil)))) (by decide) (by decide)) da_nil)))) (dss_one (ds_ret de_bl)) dss_nil) (dss_one (ds_ret (de_cmpR (o_eqT hr.units) g_eqT (de_lenSetA rfl hr.units T.n_len T.n_set (de_op2 o_add g_add (de_var 4) (de_cut (de_var 3) (do_some (de_un un_neg g_neg (de_nat 1))) do_none))) (de_op2 o_add g_add (de_callB o_len g_len T.n_len (da_cons (de_var 4) da_nil)) (de_nat 1)) (nomark _)))))))))
end
end Pwk85

set_option Elab.async false
set_option linter.all false
set_option maxRecDepth 100000
set_option maxHeartbeats 4000000
namespace Pwk85
open PySem PySem.Spec PyProof.Rows L2 Pw
section
variable {P : Program} {w : World} {K : PySem.W.Frag} {mg : Str → Option Value} {base : Heap}
theorem ok_is_splice_any (T : TB K mg) : FnG P w K mg base 6 T.f_is_splice_any T.d_is_splice_any ["value"] (fspec K ow_is_splice_any 1 n_is_splice_any m_is_splice_any) := fng_d T.F_is_splice_any sc_is_splice_any rfl rfl fun cdv A outer s H hr gd => by
  unfold m_is_splice_any
  exact (dss_cons (ds_if (dt_w (dw_or (dt_not (dt_val (de_call ((ok_is_tuple T).mono (by decide)) hr gd T.g_is_tuple T.F_is_tuple.kp T.b_is_tuple (da_cons (de_var 0) (da_cons (de_nat 2) da_nil)) (alen_cons (alen_cons alen_nil))))) (dw_or (dt_not (dt_val (de_isi (T := "str") T.n_isinstance (de_ixR (o_ix (hu_of hr)) g_ix (de_var 0) (de_nat 0) (fun _ _ => rfl)) T.n_str))) (dw_or1 (dt_cmpR (o_neT hr.units) g_neT (de_ixR (o_ix (hu_of hr)) g_ix (de_var 0) (de_nat 0) (fun _ _ => rfl)) (de_gS T.c_SPLICE) (nomark _)))))) (dss_one (ds_ret de_bl)) dss_nil) (dss_cons (ds_if (dt_w (dw_or (dt_not (dt_val (de_isi (T := "tuple") T.n_isinstance (de_ixR (o_ix (hu_of hr)) g_ix (de_var 0) (de_nat 1) (fun _ _ => rfl)) T.n_tuple))) (dw_or1 (dt_not (dt_chain (o_le hr.units) g_cmp (o_le hr.units) g_cmp (de_nat 1) (de_callB o_len g_len T.n_len (da_cons (de_ixR (o_ix (hu_of hr)) g_ix (de_var 0) (de_nat 1) (fun _ _ => rfl)) da_nil)) (de_gN T.c_MOST_METHODS)))))) (dss_one (ds_ret de_bl)) dss_nil) (dss_cons (ds_if (dt_not (dt_val (de_callB (cr_all rfl) g_all T.n_all (da_cons (de_lc (own := [("one", 1)]) rfl sc_is_splice_any.nd (di_seq (de_ixR (o_ix (hu_of hr)) g_ix (de_var 0) (de_nat 1) (fun _ _ => rfl))) (blkOk_by (own := [("one", 1)]) (N := nm_is_splice_any) (sc := (defScope s_is_splice_any)) (by decide +kernel)) (fun _ _ _ _ _ => (dq_name (j := 1) (b := false) sc_is_splice_any.nd (by decide))) (fun _ _ _ _ _ => dts_nil) (fun _ _ _ _ _ => (de_call ((ok_is_method_any T).mono (by decide)) hr gd T.g_is_method_any T.F_is_method_any.kp T.b_is_method_any (da_cons (de_var 1) da_nil) (alen_cons alen_nil))) (by decide) (by decide)) da_nil)))) (dss_one (ds_ret de_bl)) dss_nil) (dss_one (ds_ret (de_cmpR (o_eqT hr.units) g_eqT (de_lenSetA rfl hr.units T.n_len T.n_set (de_lc (own := [("one", 1)]) rfl sc_is_splice_any.nd (di_seq (de_ixR (o_ix (hu_of hr)) g_ix (de_var 0) (de_nat 1) (fun _ _ => rfl))) (blkOk_by (own := [("one", 1)]) (N := nm_is_splice_any) (sc := (defScope s_is_splice_any)) (by decide +kernel)) (fun _ _ _ _ _ => (dq_name (j := 1) (b := false) sc_is_splice_any.nd (by decide))) (fun _ _ _ _ _ => dts_nil) (fun _ _ _ _ _ => (de_ixR (o_ix (hu_of hr)) g_ix (de_var 1) (de_nat 1) (fun _ _ => rfl))) (by decide) (by decide))) (de_nat 1) (nomark _)))))))
end
end Pwk85

set_option Elab.async false
set_option linter.all false
set_option maxRecDepth 100000
set_option maxHeartbeats 4000000
namespace Pwk85
open PySem PySem.Spec PyProof.Rows L2 Pw
section
variable {P : Program} {w : World} {K : PySem.W.Frag} {mg : Str → Option Value} {base : Heap}
theorem ok_want_splice (T : TB K mg) : FnG P w K mg base 7 T.f_want_splice T.d_want_splice ["splice"] (fspec K ow_want_splice 1 n_want_splice m_want_splice) := fng_d T.F_want_splice sc_want_splice rfl rfl fun cdv A outer s H hr gd => by
  unfold m_want_splice
  exact (dss_one (ds_if (dt_not (dt_val (de_call ((ok_is_splice_any T).mono (by decide)) hr gd T.g_is_splice_any T.F_is_splice_any.kp T.b_is_splice_any (da_cons (de_var 0) da_nil) (alen_cons alen_nil)))) (dss_one ds_stop) dss_nil))
end
end Pwk85

set_option Elab.async false
set_option linter.all false
set_option maxRecDepth 100000
set_option maxHeartbeats 4000000
namespace Pwk85
open PySem PySem.Spec PyProof.Rows L2 Pw
section
variable {P : Program} {w : World} {K : PySem.W.Frag} {mg : Str → Option Value} {base : Heap}
theorem ok_is_list (T : TB K mg) : FnG P w K mg base 1 T.f_is_list T.d_is_list ["value"] (fspec K ow_is_list 1 n_is_list m_is_list) := fng_d T.F_is_list sc_is_list rfl rfl fun cdv A outer s H hr gd => by
  unfold m_is_list
  exact (dss_one (ds_ret (de_isi2 (T := "list") (U := "tuple") T.n_isinstance (de_var 0) T.n_list T.n_tuple)))
end
end Pwk85

set_option Elab.async false
set_option linter.all false
set_option maxRecDepth 100000
set_option maxHeartbeats 4000000
namespace Pwk85
open PySem PySem.Spec PyProof.Rows L2 Pw
section
variable {P : Program} {w : World} {K : PySem.W.Frag} {mg : Str → Option Value} {base : Heap}
theorem ok_is_lead_any (T : TB K mg) : FnG P w K mg base 3 T.f_is_lead_any T.d_is_lead_any ["splice", "value"] (fspec K ow_is_lead_any 2 n_is_lead_any m_is_lead_any) := fng_d T.F_is_lead_any sc_is_lead_any rfl rfl fun cdv A outer s H hr gd => by
  unfold m_is_lead_any
  exact (dss_cons (ds_if (dt_w (dw_or (dt_not (dt_val (de_call ((ok_is_tuple T).mono (by decide)) hr gd T.g_is_tuple T.F_is_tuple.kp T.b_is_tuple (da_cons (de_var 1) (da_cons (de_nat 2) da_nil)) (alen_cons (alen_cons alen_nil))))) (dw_or1 (dt_not (dt_val (de_call ((ok_is_within T).mono (by decide)) hr gd T.g_is_within T.F_is_within.kp T.b_is_within (da_cons (de_ixR (o_ix (hu_of hr)) g_ix (de_var 1) (de_nat 0) (fun _ _ => rfl)) (da_cons (de_nat 0) (da_cons (de_op2 op_sub g_sub (de_callB o_len g_len T.n_len (da_cons (de_ixR (o_ix (hu_of hr)) g_ix (de_var 0) (de_nat 1) (fun _ _ => rfl)) da_nil)) (de_nat 1)) da_nil))) (alen_cons (alen_cons (alen_cons alen_nil))))))))) (dss_one (ds_ret de_bl)) dss_nil) (dss_one (ds_ret (de_call ((ok_is_within T).mono (by decide)) hr gd T.g_is_within T.F_is_within.kp T.b_is_within (da_cons (de_ixR (o_ix (hu_of hr)) g_ix (de_var 1) (de_nat 1) (fun _ _ => rfl)) (da_cons (de_nat 0) (da_cons (de_callB o_len g_len T.n_len (da_cons (de_ixR (o_ix (hu_of hr)) g_ix (de_ixR (o_ix (hu_of hr)) g_ix (de_ixR (o_ix (hu_of hr)) g_ix (de_var 0) (de_nat 1) (fun _ _ => rfl)) (de_ixR (o_ix (hu_of hr)) g_ix (de_var 1) (de_nat 0) (fun _ _ => rfl)) (fun _ _ => rfl)) (de_nat 3) (fun _ _ => rfl)) da_nil)) da_nil))) (alen_cons (alen_cons (alen_cons alen_nil)))))))
end
end Pwk85

set_option Elab.async false
set_option linter.all false
set_option maxRecDepth 100000
set_option maxHeartbeats 4000000
namespace Pwk85
open PySem PySem.Spec PyProof.Rows L2 Pw
section
variable {P : Program} {w : World} {K : PySem.W.Frag} {mg : Str → Option Value} {base : Heap}
theorem ok_is_spliced_any (T : TB K mg) : FnG P w K mg base 4 T.f_is_spliced_any T.d_is_spliced_any ["splice", "value"] (fspec K ow_is_spliced_any 2 n_is_spliced_any m_is_spliced_any) := fng_d T.F_is_spliced_any sc_is_spliced_any rfl rfl fun cdv A outer s H hr gd => by
  unfold m_is_spliced_any
  exact (dss_one (ds_ret (de_and (de_call ((ok_is_list T).mono (by decide)) hr gd T.g_is_list T.F_is_list.kp T.b_is_list (da_cons (de_var 1) da_nil) (alen_cons alen_nil)) (de_and (de_cmpR (o_le hr.units) g_cmp (de_callB o_len g_len T.n_len (da_cons (de_var 1) da_nil)) (de_gN T.c_MOST_TOUCH) (nomark _)) (de_one (de_callB (cr_all rfl) g_all T.n_all (da_cons (de_lc (own := [("one", 2)]) rfl sc_is_spliced_any.nd (di_seq (de_var 1)) (blkOk_by (own := [("one", 2)]) (N := nm_is_spliced_any) (sc := (defScope s_is_spliced_any)) (by decide +kernel)) (fun _ _ _ _ _ => (dq_name (j := 2) (b := false) sc_is_spliced_any.nd (by decide))) (fun _ _ _ _ _ => dts_nil) (fun _ _ _ _ _ => (de_call ((ok_is_lead_any T).mono (by decide)) hr gd T.g_is_lead_any T.F_is_lead_any.kp T.b_is_lead_any (da_cons (de_var 0) (da_cons (de_var 2) da_nil)) (alen_cons (alen_cons alen_nil)))) (by decide) (by decide)) da_nil)))))))
end
end Pwk85

set_option Elab.async false
set_option linter.all false
set_option maxRecDepth 100000
set_option maxHeartbeats 4000000
namespace Pwk85
open PySem PySem.Spec PyProof.Rows L2 Pw
section
variable {P : Program} {w : World} {K : PySem.W.Frag} {mg : Str → Option Value} {base : Heap}
theorem ok_want_spliced (T : TB K mg) : FnG P w K mg base 8 T.f_want_spliced T.d_want_spliced ["splice", "touch"] (fspec K ow_want_spliced 2 n_want_spliced m_want_spliced) := fng_d T.F_want_spliced sc_want_spliced rfl rfl fun cdv A outer s H hr gd => by
  unfold m_want_spliced
  exact (dss_cons (ds_expr (de_call ((ok_want_splice T).mono (by decide)) hr gd T.g_want_splice T.F_want_splice.kp T.b_want_splice (da_cons (de_var 0) da_nil) (alen_cons alen_nil))) (dss_one (ds_if (dt_not (dt_val (de_call ((ok_is_spliced_any T).mono (by decide)) hr gd T.g_is_spliced_any T.F_is_spliced_any.kp T.b_is_spliced_any (da_cons (de_var 0) (da_cons (de_var 1) da_nil)) (alen_cons (alen_cons alen_nil))))) (dss_one ds_stop) dss_nil)))
end
end Pwk85

set_option Elab.async false
set_option linter.all false
set_option maxRecDepth 100000
set_option maxHeartbeats 4000000
namespace Pwk85
open PySem PySem.Spec PyProof.Rows L2 Pw
section
variable {P : Program} {w : World} {K : PySem.W.Frag} {mg : Str → Option Value} {base : Heap}
theorem ok_rounds_of (T : TB K mg) : FnG P w K mg base 1 T.f_rounds_of T.d_rounds_of ["bells"] (fspec K ow_rounds_of 1 n_rounds_of m_rounds_of) := fng_d T.F_rounds_of sc_rounds_of rfl rfl fun cdv A outer s H hr gd => by
  unfold m_rounds_of
  exact (dss_one (ds_ret (de_rgT rfl T.n_tuple (dg_1 T.n_range (de_var 0)))))
end
end Pwk85

set_option Elab.async false
set_option linter.all false
set_option maxRecDepth 100000
set_option maxHeartbeats 4000000
namespace Pwk85
open PySem PySem.Spec PyProof.Rows L2 Pw
section
variable {P : Program} {w : World} {K : PySem.W.Frag} {mg : Str → Option Value} {base : Heap}
theorem ok_times (T : TB K mg) : FnG P w K mg base 1 T.f_times T.d_times ["row", "other"] (fspec K ow_times 2 n_times m_times) := fng_d T.F_times sc_times rfl rfl fun cdv A outer s H hr gd => by
  unfold m_times
  exact (dss_one (ds_ret (de_callT call_tuple_of g_tup T.n_tuple (da_cons (de_lc (own := [("place", 2)]) rfl sc_times.nd (di_seq (de_var 1)) (blkOk_by (own := [("place", 2)]) (N := nm_times) (sc := (defScope s_times)) (by decide +kernel)) (fun _ _ _ _ _ => (dq_name (j := 2) (b := false) sc_times.nd (by decide))) (fun _ _ _ _ _ => dts_nil) (fun _ _ _ _ _ => (de_ixR (o_ix (hu_of hr)) g_ix (de_var 0) (de_var 2) (fun _ _ => rfl))) (by decide) (by decide)) da_nil))))
end
end Pwk85

set_option Elab.async false
set_option linter.all false
set_option maxRecDepth 100000
set_option maxHeartbeats 4000000
namespace Pwk85
open PySem PySem.Spec PyProof.Rows L2 Pw
section
variable {P : Program} {w : World} {K : PySem.W.Frag} {mg : Str → Option Value} {base : Heap}
theorem ok_change_row (T : TB K mg) : FnG P w K mg base 2 T.f_change_row T.d_change_row ["bells", "change"] (fspec K ow_change_row 2 n_change_row m_change_row) := fng_d T.F_change_row sc_change_row rfl rfl fun cdv A outer s H hr gd => by
  unfold m_change_row
  exact (dss_cons (ds_set (de_rgL rfl T.n_list (dg_1 T.n_range (de_var 0))) (dq_name (j := 2) (b := true) sc_change_row.nd (by decide))) (dss_cons (ds_for PassesOwn.never rfl (di_seq (de_frz (de_call ((ok_pairs_of T).mono (by decide)) hr gd T.g_pairs_of T.F_pairs_of.kp T.b_pairs_of (da_cons (de_var 0) (da_cons (de_var 1) da_nil)) (alen_cons (alen_cons alen_nil))))) (dq_name (j := 3) (b := false) sc_change_row.nd (by decide)) (dss_one (ds_set (de_tup (da_cons (de_op2 o_add g_add (de_var 3) (de_nat 1)) (da_cons (de_var 3) da_nil))) (dq_tup rfl (dqs_cons (dq_sub (hu_of hr) (de_var 2) (de_var 3)) (dqs_cons (dq_sub (hu_of hr) (de_var 2) (de_op2 o_add g_add (de_var 3) (de_nat 1))) dqs_nil)))))) (dss_one (ds_ret (de_callT call_tuple_of g_tup T.n_tuple (da_cons (de_var 2) da_nil))))))
end
end Pwk85

set_option Elab.async false
set_option linter.all false
set_option maxRecDepth 100000
set_option maxHeartbeats 4000000
namespace Pwk85
open PySem PySem.Spec PyProof.Rows L2 Pw
section
variable {P : Program} {w : World} {K : PySem.W.Frag} {mg : Str → Option Value} {base : Heap}
theorem ok_lead_of (T : TB K mg) : FnG P w K mg base 3 T.f_lead_of T.d_lead_of ["method"] (fspec K ow_lead_of 1 n_lead_of m_lead_of) := fng_d T.F_lead_of sc_lead_of rfl rfl fun cdv A outer s H hr gd => by
  unfold m_lead_of
  exact (dss_cons (ds_set (de_lst (da_cons (de_call ((ok_rounds_of T).mono (by decide)) hr gd T.g_rounds_of T.F_rounds_of.kp T.b_rounds_of (da_cons (de_ixR (o_ix (hu_of hr)) g_ix (de_var 0) (de_nat 1) (fun _ _ => rfl)) da_nil) (alen_cons alen_nil)) da_nil)) (dq_name (j := 1) (b := true) sc_lead_of.nd (by decide))) (dss_cons (ds_for PassesOwn.never rfl (di_seq (de_frz (de_cut (de_ixR (o_ix (hu_of hr)) g_ix (de_var 0) (de_nat 2) (fun _ _ => rfl)) do_none (do_some (de_un un_neg g_neg (de_nat 1)))))) (dq_name (j := 2) (b := false) sc_lead_of.nd (by decide)) (dss_one (ds_expr (de_mtl F.slot_list_append F.type_list_append mt_append g_app (de_var 1) (da_cons (de_call ((ok_times T).mono (by decide)) hr gd T.g_times T.F_times.kp T.b_times (da_cons (de_ixR (o_ix (hu_of hr)) g_ix (de_var 1) (de_un un_neg g_neg (de_nat 1)) (fun _ _ => rfl)) (da_cons (de_call ((ok_change_row T).mono (by decide)) hr gd T.g_change_row T.F_change_row.kp T.b_change_row (da_cons (de_ixR (o_ix (hu_of hr)) g_ix (de_var 0) (de_nat 1) (fun _ _ => rfl)) (da_cons (de_var 2) da_nil)) (alen_cons (alen_cons alen_nil))) da_nil)) (alen_cons (alen_cons alen_nil))) da_nil))))) (dss_one (ds_ret (de_var 1)))))
end
end Pwk85

set_option Elab.async false
set_option linter.all false
set_option maxRecDepth 100000
set_option maxHeartbeats 4000000
namespace Pwk85
open PySem PySem.Spec PyProof.Rows L2 Pw
section
variable {P : Program} {w : World} {K : PySem.W.Frag} {mg : Str → Option Value} {base : Heap}
theorem ok_turns_of (T : TB K mg) : FnG P w K mg base 4 T.f_turns_of T.d_turns_of ["method"] (fspec K ow_turns_of 1 n_turns_of m_turns_of) := fng_d T.F_turns_of sc_turns_of rfl rfl fun cdv A outer s H hr gd => by
  unfold m_turns_of
  exact (dss_cons (ds_set (de_ixR (o_ix (hu_of hr)) g_ix (de_call ((ok_lead_of T).mono (by decide)) hr gd T.g_lead_of T.F_lead_of.kp T.b_lead_of (da_cons (de_var 0) da_nil) (alen_cons alen_nil)) (de_un un_neg g_neg (de_nat 1)) (fun _ _ => rfl)) (dq_name (j := 1) (b := false) sc_turns_of.nd (by decide))) (dss_one (ds_ret (de_callT call_tuple_of g_tup T.n_tuple (da_cons (de_lc (own := [("change", 2)]) rfl sc_turns_of.nd (di_seq (de_frz (de_op2 o_add g_add (de_cut (de_ixR (o_ix (hu_of hr)) g_ix (de_var 0) (de_nat 2) (fun _ _ => rfl)) (do_some (de_un un_neg g_neg (de_nat 1))) do_none) (de_ixR (o_ix (hu_of hr)) g_ix (de_var 0) (de_nat 3) (fun _ _ => rfl))))) (blkOk_by (own := [("change", 2)]) (N := nm_turns_of) (sc := (defScope s_turns_of)) (by decide +kernel)) (fun _ _ _ _ _ => (dq_name (j := 2) (b := false) sc_turns_of.nd (by decide))) (fun _ _ _ _ _ => dts_nil) (fun _ _ _ _ _ => (de_call ((ok_times T).mono (by decide)) hr gd T.g_times T.F_times.kp T.b_times (da_cons (de_var 1) (da_cons (de_call ((ok_change_row T).mono (by decide)) hr gd T.g_change_row T.F_change_row.kp T.b_change_row (da_cons (de_ixR (o_ix (hu_of hr)) g_ix (de_var 0) (de_nat 1) (fun _ _ => rfl)) (da_cons (de_var 2) da_nil)) (alen_cons (alen_cons alen_nil))) da_nil)) (alen_cons (alen_cons alen_nil)))) (by decide) (by decide)) da_nil)))))
end
end Pwk85

set_option Elab.async false
set_option linter.all false
set_option maxRecDepth 100000
set_option maxHeartbeats 4000000
namespace Pwk85
open PySem PySem.Spec PyProof.Rows L2 Pw
section
variable {P : Program} {w : World} {K : PySem.W.Frag} {mg : Str → Option Value} {base : Heap}
theorem ok_all_turns_of (T : TB K mg) : FnG P w K mg base 5 T.f_all_turns_of T.d_all_turns_of ["splice"] (fspec K ow_all_turns_of 1 n_all_turns_of m_all_turns_of) := fng_d T.F_all_turns_of sc_all_turns_of rfl rfl fun cdv A outer s H hr gd => by
  unfold m_all_turns_of
  exact (dss_one (ds_ret (de_lc (own := [("method", 1)]) rfl sc_all_turns_of.nd (di_seq (de_ixR (o_ix (hu_of hr)) g_ix (de_var 0) (de_nat 1) (fun _ _ => rfl))) (blkOk_by (own := [("method", 1)]) (N := nm_all_turns_of) (sc := (defScope s_all_turns_of)) (by decide +kernel)) (fun _ _ _ _ _ => (dq_name (j := 1) (b := false) sc_all_turns_of.nd (by decide))) (fun _ _ _ _ _ => dts_nil) (fun _ _ _ _ _ => (de_call ((ok_turns_of T).mono (by decide)) hr gd T.g_turns_of T.F_turns_of.kp T.b_turns_of (da_cons (de_var 1) da_nil) (alen_cons alen_nil))) (by decide) (by decide))))
end
end Pwk85

set_option Elab.async false
set_option linter.all false
set_option maxRecDepth 100000
set_option maxHeartbeats 4000000
namespace Pwk85
open PySem PySem.Spec PyProof.Rows L2 Pw
section
variable {P : Program} {w : World} {K : PySem.W.Frag} {mg : Str → Option Value} {base : Heap}
theorem ok_spliced_heads_of (T : TB K mg) : FnG P w K mg base 6 T.f_spliced_heads_of T.d_spliced_heads_of ["splice", "touch"] (fspec K ow_spliced_heads_of 2 n_spliced_heads_of m_spliced_heads_of) := fng_d T.F_spliced_heads_of sc_spliced_heads_of rfl rfl fun cdv A outer s H hr gd => by
  unfold m_spliced_heads_of
  exact (dss_cons (ds_par (i := 2) (j := 3) (bi := true) (bj := true) rfl sc_spliced_heads_of.nd (by decide) (by decide) (da_cons (de_call ((ok_all_turns_of T).mono (by decide)) hr gd T.g_all_turns_of T.F_all_turns_of.kp T.b_all_turns_of (da_cons (de_var 0) da_nil) (alen_cons alen_nil)) (da_cons (de_lst (da_cons (de_call ((ok_rounds_of T).mono (by decide)) hr gd T.g_rounds_of T.F_rounds_of.kp T.b_rounds_of (da_cons (de_ixR (o_ix (hu_of hr)) g_ix (de_ixR (o_ix (hu_of hr)) g_ix (de_ixR (o_ix (hu_of hr)) g_ix (de_var 0) (de_nat 1) (fun _ _ => rfl)) (de_nat 0) (fun _ _ => rfl)) (de_nat 1) (fun _ _ => rfl)) da_nil) (alen_cons alen_nil)) da_nil)) da_nil))) (dss_cons (ds_for PassesOwn.never rfl (di_seq (de_var 1)) (dq_tup rfl (dqs_cons (dq_name (j := 4) (b := false) sc_spliced_heads_of.nd (by decide)) (dqs_cons (dq_name (j := 5) (b := false) sc_spliced_heads_of.nd (by decide)) dqs_nil))) (dss_one (ds_expr (de_mtl F.slot_list_append F.type_list_append mt_append g_app (de_var 3) (da_cons (de_call ((ok_times T).mono (by decide)) hr gd T.g_times T.F_times.kp T.b_times (da_cons (de_ixR (o_ix (hu_of hr)) g_ix (de_var 3) (de_un un_neg g_neg (de_nat 1)) (fun _ _ => rfl)) (da_cons (de_ixR (o_ix (hu_of hr)) g_ix (de_ixR (o_ix (hu_of hr)) g_ix (de_var 2) (de_var 4) (fun _ _ => rfl)) (de_var 5) (fun _ _ => rfl)) da_nil)) (alen_cons (alen_cons alen_nil))) da_nil))))) (dss_one (ds_ret (de_var 3)))))
end
end Pwk85

set_option Elab.async false
set_option linter.all false
set_option maxRecDepth 100000
set_option maxHeartbeats 4000000
namespace Pwk85
open PySem PySem.Spec PyProof.Rows L2 Pw
section
variable {P : Program} {w : World} {K : PySem.W.Frag} {mg : Str → Option Value} {base : Heap}
theorem ok_is_lead_true (T : TB K mg) : FnG P w K mg base 4 T.f_is_lead_true T.d_is_lead_true ["method"] (fspec K ow_is_lead_true 1 n_is_lead_true m_is_lead_true) := fng_d T.F_is_lead_true sc_is_lead_true rfl rfl fun cdv A outer s H hr gd => by
  unfold m_is_lead_true
  exact (dss_cons (ds_set (de_call ((ok_lead_of T).mono (by decide)) hr gd T.g_lead_of T.F_lead_of.kp T.b_lead_of (da_cons (de_var 0) da_nil) (alen_cons alen_nil)) (dq_name (j := 1) (b := true) sc_is_lead_true.nd (by decide))) (dss_one (ds_ret (de_cmpR (o_eqT hr.units) g_eqT (de_lenSetA rfl hr.units T.n_len T.n_set (de_var 1)) (de_callB o_len g_len T.n_len (da_cons (de_var 1) da_nil)) (nomark _)))))
end
end Pwk85

set_option Elab.async false
set_option linter.all false
set_option maxRecDepth 100000
set_option maxHeartbeats 4000000
namespace Pwk85
open PySem PySem.Spec PyProof.Rows L2 Pw
section
variable {P : Program} {w : World} {K : PySem.W.Frag} {mg : Str → Option Value} {base : Heap}
theorem ok_inverse_of (T : TB K mg) : FnG P w K mg base 1 T.f_inverse_of T.d_inverse_of ["row"] (fspec K ow_inverse_of 1 n_inverse_of m_inverse_of) := fng_d T.F_inverse_of sc_inverse_of rfl rfl fun cdv A outer s H hr gd => by
  unfold m_inverse_of
  exact (dss_cons (ds_set (de_op2 o_mul g_mul (de_lst (da_cons (de_nat 0) da_nil)) (de_callB o_len g_len T.n_len (da_cons (de_var 0) da_nil))) (dq_name (j := 1) (b := true) sc_inverse_of.nd (by decide))) (dss_cons (ds_for PassesOwn.never rfl (di_enum T.n_enumerate (de_var 0)) (dq_tup rfl (dqs_cons (dq_name (j := 2) (b := false) sc_inverse_of.nd (by decide)) (dqs_cons (dq_name (j := 3) (b := false) sc_inverse_of.nd (by decide)) dqs_nil))) (dss_one (ds_set (de_var 2) (dq_sub (hu_of hr) (de_var 1) (de_var 3))))) (dss_one (ds_ret (de_callT call_tuple_of g_tup T.n_tuple (da_cons (de_var 1) da_nil))))))
end
end Pwk85

set_option Elab.async false
set_option linter.all false
set_option maxRecDepth 100000
set_option maxHeartbeats 4000000
namespace Pwk85
open PySem PySem.Spec PyProof.Rows L2 Pw
section
variable {P : Program} {w : World} {K : PySem.W.Frag} {mg : Str → Option Value} {base : Heap}
theorem ok_between_of (T : TB K mg) : FnG P w K mg base 4 T.f_between_of T.d_between_of ["method", "other"] (fspec K ow_between_of 2 n_between_of m_between_of) := fng_d T.F_between_of sc_between_of rfl rfl fun cdv A outer s H hr gd => by
  unfold m_between_of
  exact (dss_cons (ds_set de_DT (dq_name (j := 2) (b := true) sc_between_of.nd (by decide))) (dss_cons (ds_for PassesOwn.never rfl (di_seq (de_frz (de_call ((ok_lead_of T).mono (by decide)) hr gd T.g_lead_of T.F_lead_of.kp T.b_lead_of (da_cons (de_var 0) da_nil) (alen_cons alen_nil)))) (dq_name (j := 3) (b := false) sc_between_of.nd (by decide)) (dss_one (ds_for PassesOwn.never rfl (di_seq (de_frz (de_call ((ok_lead_of T).mono (by decide)) hr gd T.g_lead_of T.F_lead_of.kp T.b_lead_of (da_cons (de_var 1) da_nil) (alen_cons alen_nil)))) (dq_name (j := 4) (b := false) sc_between_of.nd (by decide)) (dss_one (ds_set de_bl (dq_sub (hu_of hr) (de_var 2) (de_call ((ok_times T).mono (by decide)) hr gd T.g_times T.F_times.kp T.b_times (da_cons (de_var 4) (da_cons (de_call ((ok_inverse_of T).mono (by decide)) hr gd T.g_inverse_of T.F_inverse_of.kp T.b_inverse_of (da_cons (de_var 3) da_nil) (alen_cons alen_nil)) da_nil)) (alen_cons (alen_cons alen_nil))))))))) (dss_one (ds_ret (de_var 2)))))
end
end Pwk85

set_option Elab.async false
set_option linter.all false
set_option maxRecDepth 100000
set_option maxHeartbeats 4000000
namespace Pwk85
open PySem PySem.Spec PyProof.Rows L2 Pw
section
variable {P : Program} {w : World} {K : PySem.W.Frag} {mg : Str → Option Value} {base : Heap}
theorem ok_all_between (T : TB K mg) : FnG P w K mg base 5 T.f_all_between T.d_all_between ["splice"] (fspec K ow_all_between 1 n_all_between m_all_between) := fng_d T.F_all_between sc_all_between rfl rfl fun cdv A outer s H hr gd => by
  unfold m_all_between
  exact (dss_cons (ds_set de_DT (dq_name (j := 1) (b := true) sc_all_between.nd (by decide))) (dss_cons (ds_for PassesOwn.never rfl (di_enum T.n_enumerate (de_ixR (o_ix (hu_of hr)) g_ix (de_var 0) (de_nat 1) (fun _ _ => rfl))) (dq_tup rfl (dqs_cons (dq_name (j := 2) (b := false) sc_all_between.nd (by decide)) (dqs_cons (dq_name (j := 3) (b := false) sc_all_between.nd (by decide)) dqs_nil))) (dss_one (ds_for PassesOwn.never rfl (di_enum T.n_enumerate (de_ixR (o_ix (hu_of hr)) g_ix (de_var 0) (de_nat 1) (fun _ _ => rfl))) (dq_tup rfl (dqs_cons (dq_name (j := 4) (b := false) sc_all_between.nd (by decide)) (dqs_cons (dq_name (j := 5) (b := false) sc_all_between.nd (by decide)) dqs_nil))) (dss_one (ds_set (de_frz (de_call ((ok_between_of T).mono (by decide)) hr gd T.g_between_of T.F_between_of.kp T.b_between_of (da_cons (de_var 3) (da_cons (de_var 5) da_nil)) (alen_cons (alen_cons alen_nil)))) (dq_sub (hu_of hr) (de_var 1) (de_tup (da_cons (de_var 2) (da_cons (de_var 4) da_nil))))))))) (dss_one (ds_ret (de_var 1)))))
end
end Pwk85

set_option Elab.async false
set_option linter.all false
set_option maxRecDepth 100000
set_option maxHeartbeats 4000000
namespace Pwk85
open PySem PySem.Spec PyProof.Rows L2 Pw
section
variable {P : Program} {w : World} {K : PySem.W.Frag} {mg : Str → Option Value} {base : Heap}
theorem ok_is_apart (T : TB K mg) : FnG P w K mg base 2 T.f_is_apart T.d_is_apart ["between", "head", "number", "heads", "numbers"] (fspec K ow_is_apart 5 n_is_apart m_is_apart) := fng_d T.F_is_apart sc_is_apart rfl rfl fun cdv A outer s H hr gd => by
  unfold m_is_apart
  exact (dss_cons (ds_set (de_call ((ok_inverse_of T).mono (by decide)) hr gd T.g_inverse_of T.F_inverse_of.kp T.b_inverse_of (da_cons (de_var 1) da_nil) (alen_cons alen_nil)) (dq_name (j := 5) (b := false) sc_is_apart.nd (by decide))) (dss_one (ds_ret (de_not (de_callB (cr_any rfl) g_any T.n_any (da_cons (de_lc (own := [("one", 6), ("at", 7)]) rfl sc_is_apart.nd (di_zip T.n_zip (de_var 3) (de_var 4)) (blkOk_by (own := [("one", 6), ("at", 7)]) (N := nm_is_apart) (sc := (defScope s_is_apart)) (by decide +kernel)) (fun _ _ _ _ _ => (dq_tup rfl (dqs_cons (dq_name (j := 6) (b := false) sc_is_apart.nd (by decide)) (dqs_cons (dq_name (j := 7) (b := false) sc_is_apart.nd (by decide)) dqs_nil)))) (fun _ _ _ _ _ => dts_nil) (fun _ _ _ _ _ => (de_cmpR (o_in hr.units) g_in (de_call ((ok_times T).mono (by decide)) hr gd T.g_times T.F_times.kp T.b_times (da_cons (de_var 5) (da_cons (de_var 6) da_nil)) (alen_cons (alen_cons alen_nil))) (de_ixR (o_ix (hu_of hr)) g_ix (de_var 0) (de_tup (da_cons (de_var 7) (da_cons (de_var 2) da_nil))) (fun _ _ => rfl)) (by with_unfolding_all rfl))) (by decide) (by decide)) da_nil))))))
end
end Pwk85

set_option Elab.async false
set_option linter.all false
set_option maxRecDepth 100000
set_option maxHeartbeats 4000000
namespace Pwk85
open PySem PySem.Spec PyProof.Rows L2 Pw
section
variable {P : Program} {w : World} {K : PySem.W.Frag} {mg : Str → Option Value} {base : Heap}
theorem ok_is_true_of (T : TB K mg) : FnG P w K mg base 6 T.f_is_true_of T.d_is_true_of ["splice", "touch", "heads"] (fspec K ow_is_true_of 3 n_is_true_of m_is_true_of) := fng_d T.F_is_true_of sc_is_true_of rfl rfl fun cdv A outer s H hr gd => by
  unfold m_is_true_of
  exact (dss_cons (ds_parT2 (i := 3) (bi := true) (j := 4) (bj := true) rfl sc_is_true_of.nd (by decide) (by decide) (da_cons (de_lc (own := [("number", 5), ("call", 6)]) rfl sc_is_true_of.nd (di_seq (de_var 1)) (blkOk_by (own := [("number", 5), ("call", 6)]) (N := nm_is_true_of) (sc := (defScope s_is_true_of)) (by decide +kernel)) (fun _ _ _ _ _ => (dq_tup rfl (dqs_cons (dq_name (j := 5) (b := false) sc_is_true_of.nd (by decide)) (dqs_cons (dq_name (j := 6) (b := false) sc_is_true_of.nd (by decide)) dqs_nil)))) (fun _ _ _ _ _ => dts_nil) (fun _ _ _ _ _ => (de_var 5)) (by decide) (by decide)) (da_cons (de_call ((ok_all_between T).mono (by decide)) hr gd T.g_all_between T.F_all_between.kp T.b_all_between (da_cons (de_var 0) da_nil) (alen_cons alen_nil)) da_nil))) (dss_cons (ds_if (dt_not (dt_val (de_callB (cr_all rfl) g_all T.n_all (da_cons (de_lc (own := [("number", 5)]) rfl sc_is_true_of.nd (di_seq (de_frz (de_sortSet rfl hr.units T.n_sorted T.n_set (de_var 3)))) (blkOk_by (own := [("number", 5)]) (N := nm_is_true_of) (sc := (defScope s_is_true_of)) (by decide +kernel)) (fun _ _ _ _ _ => (dq_name (j := 5) (b := false) sc_is_true_of.nd (by decide))) (fun _ _ _ _ _ => dts_nil) (fun _ _ _ _ _ => (de_call ((ok_is_lead_true T).mono (by decide)) hr gd T.g_is_lead_true T.F_is_lead_true.kp T.b_is_lead_true (da_cons (de_ixR (o_ix (hu_of hr)) g_ix (de_ixR (o_ix (hu_of hr)) g_ix (de_var 0) (de_nat 1) (fun _ _ => rfl)) (de_var 5) (fun _ _ => rfl)) da_nil) (alen_cons alen_nil))) (by decide) (by decide)) da_nil)))) (dss_one (ds_ret de_bl)) dss_nil) (dss_one (ds_ret (de_callB (cr_all rfl) g_all T.n_all (da_cons (de_lc (own := [("at", 7)]) rfl sc_is_true_of.nd (di_rg (dg_1 T.n_range (de_callB o_len g_len T.n_len (da_cons (de_var 1) da_nil)))) (blkOk_by (own := [("at", 7)]) (N := nm_is_true_of) (sc := (defScope s_is_true_of)) (by decide +kernel)) (fun _ _ _ _ _ => (dq_name (j := 7) (b := false) sc_is_true_of.nd (by decide))) (fun _ _ _ _ _ => dts_nil) (fun _ _ _ _ _ => (de_call ((ok_is_apart T).mono (by decide)) hr gd T.g_is_apart T.F_is_apart.kp T.b_is_apart (da_cons (de_frz (de_var 4)) (da_cons (de_ixR (o_ix (hu_of hr)) g_ix (de_var 2) (de_var 7) (fun _ _ => rfl)) (da_cons (de_ixR (o_ix (hu_of hr)) g_ix (de_var 3) (de_var 7) (fun _ _ => rfl)) (da_cons (de_frz (de_cut (de_var 2) do_none (do_some (de_var 7)))) (da_cons (de_frz (de_cut (de_var 3) do_none (do_some (de_var 7)))) da_nil))))) (alen_cons (alen_cons (alen_cons (alen_cons (alen_cons alen_nil))))))) (by decide) (by decide)) da_nil))))))
end
end Pwk85

set_option Elab.async false
set_option linter.all false
set_option maxRecDepth 100000
set_option maxHeartbeats 4000000
namespace Pwk85
open PySem PySem.Spec PyProof.Rows L2 Pw
section
variable {P : Program} {w : World} {K : PySem.W.Frag} {mg : Str → Option Value} {base : Heap}
theorem ok_is_spliced_true (T : TB K mg) : FnG P w K mg base 9 T.f_is_spliced_true T.d_is_spliced_true ["splice", "touch"] (fspec K ow_is_spliced_true 2 n_is_spliced_true m_is_spliced_true) := fng_d T.F_is_spliced_true sc_is_spliced_true rfl rfl fun cdv A outer s H hr gd => by
  unfold m_is_spliced_true
  exact (dss_cons (ds_expr (de_call ((ok_want_spliced T).mono (by decide)) hr gd T.g_want_spliced T.F_want_spliced.kp T.b_want_spliced (da_cons (de_var 0) (da_cons (de_var 1) da_nil)) (alen_cons (alen_cons alen_nil)))) (dss_one (ds_ret (de_call ((ok_is_true_of T).mono (by decide)) hr gd T.g_is_true_of T.F_is_true_of.kp T.b_is_true_of (da_cons (de_var 0) (da_cons (de_var 1) (da_cons (de_frz (de_call ((ok_spliced_heads_of T).mono (by decide)) hr gd T.g_spliced_heads_of T.F_spliced_heads_of.kp T.b_spliced_heads_of (da_cons (de_var 0) (da_cons (de_var 1) da_nil)) (alen_cons (alen_cons alen_nil)))) da_nil))) (alen_cons (alen_cons (alen_cons alen_nil)))))))
end
end Pwk85

set_option Elab.async false
set_option linter.all false
set_option maxRecDepth 100000
set_option maxHeartbeats 4000000
namespace Pwk85
open PySem PySem.Spec PyProof.Rows L2 Pw
section
variable {P : Program} {w : World} {K : PySem.W.Frag} {mg : Str → Option Value} {base : Heap}
theorem ok_want_number (T : TB K mg) : FnG P w K mg base 3 T.f_want_number T.d_want_number ["splice", "number"] (fspec K ow_want_number 2 n_want_number m_want_number) := fng_d T.F_want_number sc_want_number rfl rfl fun cdv A outer s H hr gd => by
  unfold m_want_number
  exact (dss_one (ds_if (dt_not (dt_val (de_call ((ok_is_within T).mono (by decide)) hr gd T.g_is_within T.F_is_within.kp T.b_is_within (da_cons (de_var 1) (da_cons (de_nat 0) (da_cons (de_op2 op_sub g_sub (de_callB o_len g_len T.n_len (da_cons (de_ixR (o_ix (hu_of hr)) g_ix (de_var 0) (de_nat 1) (fun _ _ => rfl)) da_nil)) (de_nat 1)) da_nil))) (alen_cons (alen_cons (alen_cons alen_nil)))))) (dss_one ds_stop) dss_nil))
end
end Pwk85

set_option Elab.async false
set_option linter.all false
set_option maxRecDepth 100000
set_option maxHeartbeats 4000000
namespace Pwk85
open PySem PySem.Spec PyProof.Rows L2 Pw
section
variable {P : Program} {w : World} {K : PySem.W.Frag} {mg : Str → Option Value} {base : Heap}
theorem ok_stand_ins (T : TB K mg) : FnG P w K mg base 9 T.f_stand_ins T.d_stand_ins ["splice", "touch", "number"] (fspec K ow_stand_ins 3 n_stand_ins m_stand_ins) := fng_d T.F_stand_ins sc_stand_ins rfl rfl fun cdv A outer s H hr gd => by
  unfold m_stand_ins
  exact (dss_cons (ds_expr (de_call ((ok_want_spliced T).mono (by decide)) hr gd T.g_want_spliced T.F_want_spliced.kp T.b_want_spliced (da_cons (de_var 0) (da_cons (de_var 1) da_nil)) (alen_cons (alen_cons alen_nil)))) (dss_cons (ds_expr (de_call ((ok_want_number T).mono (by decide)) hr gd T.g_want_number T.F_want_number.kp T.b_want_number (da_cons (de_var 0) (da_cons (de_var 2) da_nil)) (alen_cons (alen_cons alen_nil)))) (dss_cons (ds_par (i := 3) (j := 4) (bi := true) (bj := true) rfl sc_stand_ins.nd (by decide) (by decide) (da_cons (de_call ((ok_all_turns_of T).mono (by decide)) hr gd T.g_all_turns_of T.F_all_turns_of.kp T.b_all_turns_of (da_cons (de_var 0) da_nil) (alen_cons alen_nil)) (da_cons (de_lst da_nil) da_nil))) (dss_cons (ds_for PassesOwn.never rfl (di_enum T.n_enumerate (de_var 1)) (dq_tup rfl (dqs_cons (dq_name (j := 5) (b := false) sc_stand_ins.nd (by decide)) (dqs_cons (dq_tup rfl (dqs_cons (dq_name (j := 6) (b := false) sc_stand_ins.nd (by decide)) (dqs_cons (dq_name (j := 7) (b := false) sc_stand_ins.nd (by decide)) dqs_nil))) dqs_nil))) (dss_one (ds_if (dt_w (dw_and (dt_cmpR (o_lt hr.units) g_cmp (de_var 7) (de_callB o_len g_len T.n_len (da_cons (de_ixR (o_ix (hu_of hr)) g_ix (de_var 3) (de_var 2) (fun _ _ => rfl)) da_nil)) (nomark _)) (dw_and1 (dt_cmpR (o_eqT hr.units) g_eqT (de_ixR (o_ix (hu_of hr)) g_ix (de_ixR (o_ix (hu_of hr)) g_ix (de_var 3) (de_var 2) (fun _ _ => rfl)) (de_var 7) (fun _ _ => rfl)) (de_ixR (o_ix (hu_of hr)) g_ix (de_ixR (o_ix (hu_of hr)) g_ix (de_var 3) (de_var 6) (fun _ _ => rfl)) (de_var 7) (fun _ _ => rfl)) (nomark _))))) (dss_cons (ds_set (de_op2 o_add g_add (de_op2 o_add g_add (de_callT call_list_of g_lst T.n_list (da_cons (de_cut (de_var 1) do_none (do_some (de_var 5))) da_nil)) (de_lst (da_cons (de_tup (da_cons (de_var 2) (da_cons (de_var 7) da_nil))) da_nil))) (de_callT call_list_of g_lst T.n_list (da_cons (de_cut (de_var 1) (do_some (de_op2 o_add g_add (de_var 5) (de_nat 1))) do_none) da_nil))) (dq_name (j := 8) (b := true) sc_stand_ins.nd (by decide))) (dss_one (ds_if (dt_val (de_call ((ok_is_true_of T).mono (by decide)) hr gd T.g_is_true_of T.F_is_true_of.kp T.b_is_true_of (da_cons (de_var 0) (da_cons (de_frz (de_var 8)) (da_cons (de_frz (de_call ((ok_spliced_heads_of T).mono (by decide)) hr gd T.g_spliced_heads_of T.F_spliced_heads_of.kp T.b_spliced_heads_of (da_cons (de_var 0) (da_cons (de_frz (de_var 8)) da_nil)) (alen_cons (alen_cons alen_nil)))) da_nil))) (alen_cons (alen_cons (alen_cons alen_nil))))) (dss_one (ds_expr (de_mtl F.slot_list_append F.type_list_append mt_append g_app (de_var 4) (da_cons (de_var 5) da_nil)))) dss_nil))) dss_nil))) (dss_one (ds_ret (de_var 4)))))))
end
end Pwk85

set_option Elab.async false
set_option linter.all false
set_option maxRecDepth 100000
set_option maxHeartbeats 4000000
namespace Pwk85
open PySem PySem.Spec PyProof.Rows L2 Pw
section
variable {P : Program} {w : World} {K : PySem.W.Frag} {mg : Str → Option Value} {base : Heap}
theorem ok_may_always (T : TB K mg) : FnG P w K mg base 8 T.f_may_always T.d_may_always ["splice", "number", "other"] (fspec K ow_may_always 3 n_may_always m_may_always) := fng_d T.F_may_always sc_may_always rfl rfl fun cdv A outer s H hr gd => by
  unfold m_may_always
  exact (dss_cons (ds_expr (de_call ((ok_want_splice T).mono (by decide)) hr gd T.g_want_splice T.F_want_splice.kp T.b_want_splice (da_cons (de_var 0) da_nil) (alen_cons alen_nil))) (dss_cons (ds_expr (de_call ((ok_want_number T).mono (by decide)) hr gd T.g_want_number T.F_want_number.kp T.b_want_number (da_cons (de_var 0) (da_cons (de_var 1) da_nil)) (alen_cons (alen_cons alen_nil)))) (dss_cons (ds_expr (de_call ((ok_want_number T).mono (by decide)) hr gd T.g_want_number T.F_want_number.kp T.b_want_number (da_cons (de_var 0) (da_cons (de_var 2) da_nil)) (alen_cons (alen_cons alen_nil)))) (dss_cons (ds_set (de_call ((ok_all_turns_of T).mono (by decide)) hr gd T.g_all_turns_of T.F_all_turns_of.kp T.b_all_turns_of (da_cons (de_var 0) da_nil) (alen_cons alen_nil)) (dq_name (j := 3) (b := true) sc_may_always.nd (by decide))) (dss_cons (ds_par (i := 4) (j := 5) (bi := true) (bj := true) rfl sc_may_always.nd (by decide) (by decide) (da_cons (de_call ((ok_lead_of T).mono (by decide)) hr gd T.g_lead_of T.F_lead_of.kp T.b_lead_of (da_cons (de_ixR (o_ix (hu_of hr)) g_ix (de_ixR (o_ix (hu_of hr)) g_ix (de_var 0) (de_nat 1) (fun _ _ => rfl)) (de_var 1) (fun _ _ => rfl)) da_nil) (alen_cons alen_nil)) (da_cons (de_call ((ok_lead_of T).mono (by decide)) hr gd T.g_lead_of T.F_lead_of.kp T.b_lead_of (da_cons (de_ixR (o_ix (hu_of hr)) g_ix (de_ixR (o_ix (hu_of hr)) g_ix (de_var 0) (de_nat 1) (fun _ _ => rfl)) (de_var 2) (fun _ _ => rfl)) da_nil) (alen_cons alen_nil)) da_nil))) (dss_one (ds_ret (de_and (de_cmpR (o_eqT hr.units) g_eqT (de_ixR (o_ix (hu_of hr)) g_ix (de_var 3) (de_var 1) (fun _ _ => rfl)) (de_ixR (o_ix (hu_of hr)) g_ix (de_var 3) (de_var 2) (fun _ _ => rfl)) (nomark _)) (de_one (de_cmpR (o_eqT hr.units) g_eqT (de_callB (o_sortA rfl hr.units) g_sortA T.n_sorted (da_cons (de_var 4) da_nil)) (de_callB (o_sortA rfl hr.units) g_sortA T.n_sorted (da_cons (de_var 5) da_nil)) (nomark _)))))))))))
end
end Pwk85

set_option Elab.async false
set_option linter.all false
set_option maxRecDepth 100000
set_option maxHeartbeats 4000000
namespace Pwk85
open PySem PySem.Spec PyProof.Rows L2 Pw
section
variable {P : Program} {w : World} {K : PySem.W.Frag} {mg : Str → Option Value} {base : Heap}
theorem ok__law_changed (T : TB K mg) : FnG P w K mg base 1 T.f__law_changed T.d__law_changed ["row", "change"] (fspec K ow__law_changed 2 n__law_changed m__law_changed) := fng_d T.F__law_changed sc__law_changed rfl rfl fun cdv A outer s H hr gd => by
  unfold m__law_changed
  exact (dss_cons (ds_par (i := 2) (j := 3) (bi := true) (bj := false) rfl sc__law_changed.nd (by decide) (by decide) (da_cons (de_callT call_list_of g_lst T.n_list (da_cons (de_var 0) da_nil)) (da_cons (de_nat 0) da_nil))) (dss_cons (ds_while 100000 PassesOwn.never (dt_cmpR (o_lt hr.units) g_cmp (de_var 3) (de_callB o_len g_len T.n_len (da_cons (de_var 0) da_nil)) (nomark _)) (dss_one (ds_if (dt_cmpR (o_in hr.units) g_in (de_var 3) (de_var 1) (by with_unfolding_all rfl)) (dss_one (ds_set (de_op2 o_add g_add (de_var 3) (de_nat 1)) (dq_name (j := 3) (b := false) sc__law_changed.nd (by decide)))) (dss_cons (ds_set (de_tup (da_cons (de_ixR (o_ix (hu_of hr)) g_ix (de_var 0) (de_op2 o_add g_add (de_var 3) (de_nat 1)) (fun _ _ => rfl)) (da_cons (de_ixR (o_ix (hu_of hr)) g_ix (de_var 0) (de_var 3) (fun _ _ => rfl)) da_nil))) (dq_tup rfl (dqs_cons (dq_sub (hu_of hr) (de_var 2) (de_var 3)) (dqs_cons (dq_sub (hu_of hr) (de_var 2) (de_op2 o_add g_add (de_var 3) (de_nat 1))) dqs_nil)))) (dss_one (ds_set (de_op2 o_add g_add (de_var 3) (de_nat 2)) (dq_name (j := 3) (b := false) sc__law_changed.nd (by decide)))))))) (dss_one (ds_ret (de_callT call_tuple_of g_tup T.n_tuple (da_cons (de_var 2) da_nil))))))
end
end Pwk85

set_option Elab.async false
set_option linter.all false
set_option maxRecDepth 100000
set_option maxHeartbeats 4000000
namespace Pwk85
open PySem PySem.Spec PyProof.Rows L2 Pw
section
variable {P : Program} {w : World} {K : PySem.W.Frag} {mg : Str → Option Value} {base : Heap}
theorem ok__law_lead (T : TB K mg) : FnG P w K mg base 2 T.f__law_lead T.d__law_lead ["method", "head", "call"] (fspec K ow__law_lead 3 n__law_lead m__law_lead) := fng_d T.F__law_lead sc__law_lead rfl rfl fun cdv A outer s H hr gd => by
  unfold m__law_lead
  exact (dss_cons (ds_par (i := 3) (j := 4) (bi := true) (bj := false) rfl sc__law_lead.nd (by decide) (by decide) (da_cons (de_lst da_nil) (da_cons (de_var 1) da_nil))) (dss_cons (ds_set (de_ixR (o_ix (hu_of hr)) g_ix (de_op2 o_add g_add (de_cut (de_ixR (o_ix (hu_of hr)) g_ix (de_var 0) (de_nat 2) (fun _ _ => rfl)) (do_some (de_un un_neg g_neg (de_nat 1))) do_none) (de_ixR (o_ix (hu_of hr)) g_ix (de_var 0) (de_nat 3) (fun _ _ => rfl))) (de_var 2) (fun _ _ => rfl)) (dq_name (j := 5) (b := false) sc__law_lead.nd (by decide))) (dss_cons (ds_for PassesOwn.never rfl (di_seq (de_op2 o_add g_add (de_cut (de_ixR (o_ix (hu_of hr)) g_ix (de_var 0) (de_nat 2) (fun _ _ => rfl)) do_none (do_some (de_un un_neg g_neg (de_nat 1)))) (de_tup (da_cons (de_var 5) da_nil)))) (dq_name (j := 6) (b := false) sc__law_lead.nd (by decide)) (dss_cons (ds_expr (de_mtl F.slot_list_append F.type_list_append mt_append g_app (de_var 3) (da_cons (de_var 4) da_nil))) (dss_one (ds_set (de_call ((ok__law_changed T).mono (by decide)) hr gd T.g__law_changed T.F__law_changed.kp T.b__law_changed (da_cons (de_var 4) (da_cons (de_var 6) da_nil)) (alen_cons (alen_cons alen_nil))) (dq_name (j := 4) (b := false) sc__law_lead.nd (by decide)))))) (dss_one (ds_ret (de_tup (da_cons (de_frz (de_var 3)) (da_cons (de_var 4) da_nil))))))))
end
end Pwk85

set_option Elab.async false
set_option linter.all false
set_option maxRecDepth 100000
set_option maxHeartbeats 4000000
namespace Pwk85
open PySem PySem.Spec PyProof.Rows L2 Pw
section
variable {P : Program} {w : World} {K : PySem.W.Frag} {mg : Str → Option Value} {base : Heap}
theorem ok__law_pick (T : TB K mg) : FnG P w K mg base 2 T.f__law_pick T.d__law_pick ["pot", "some"] (fspec K ow__law_pick 2 n__law_pick m__law_pick) := fng_d T.F__law_pick sc__law_pick rfl rfl fun cdv A outer s H hr gd => by
  unfold m__law_pick
  exact (dss_one (ds_ret (de_ixR (o_ix (hu_of hr)) g_ix (de_var 1) (de_callP ((ok__law_draw T).mono (by decide)) hr gd T.g__law_draw T.F__law_draw.kp T.b__law_draw (da_cons (de_var 0) (da_cons (de_callB o_len g_len T.n_len (da_cons (de_var 1) da_nil)) da_nil)) (alen_cons (alen_cons alen_nil))) (fun _ _ => rfl))))
end
end Pwk85

set_option Elab.async false
set_option linter.all false
set_option maxRecDepth 100000
set_option maxHeartbeats 4000000
namespace Pwk85
open PySem PySem.Spec PyProof.Rows L2 Pw
section
variable {P : Program} {w : World} {K : PySem.W.Frag} {mg : Str → Option Value} {base : Heap}
theorem ok__law_mixed (T : TB K mg) : FnG P w K mg base 2 T.f__law_mixed T.d__law_mixed ["pot", "some"] (fspec K ow__law_mixed 2 n__law_mixed m__law_mixed) := fng_d T.F__law_mixed sc__law_mixed rfl rfl fun cdv A outer s H hr gd => by
  unfold m__law_mixed
  exact (dss_cons (ds_par (i := 2) (j := 3) (bi := true) (bj := true) rfl sc__law_mixed.nd (by decide) (by decide) (da_cons (de_callT call_list_of g_lst T.n_list (da_cons (de_var 1) da_nil)) (da_cons (de_lst da_nil) da_nil))) (dss_cons (ds_while 100000 PassesOwn.never (dt_cmpR (o_neT hr.units) g_neT (de_var 2) (de_lst da_nil) (nomark _)) (dss_one (ds_expr (de_mtl F.slot_list_append F.type_list_append mt_append g_app (de_var 3) (da_cons (de_mtl F.slot_list_pop F.type_list_pop mt_popAt g_pop (de_var 2) (da_cons (de_callP ((ok__law_draw T).mono (by decide)) hr gd T.g__law_draw T.F__law_draw.kp T.b__law_draw (da_cons (de_var 0) (da_cons (de_callB o_len g_len T.n_len (da_cons (de_var 2) da_nil)) da_nil)) (alen_cons (alen_cons alen_nil))) da_nil)) da_nil))))) (dss_one (ds_ret (de_var 3)))))
end
end Pwk85

set_option Elab.async false
set_option linter.all false
set_option maxRecDepth 100000
set_option maxHeartbeats 4000000
namespace Pwk85
open PySem PySem.Spec PyProof.Rows L2 Pw
section
variable {P : Program} {w : World} {K : PySem.W.Frag} {mg : Str → Option Value} {base : Heap}
theorem ok__law_changes (T : TB K mg) : FnG P w K mg base 1 T.f__law_changes T.d__law_changes ["bells"] (fspec K ow__law_changes 1 n__law_changes m__law_changes) := fng_d T.F__law_changes sc__law_changes rfl rfl fun cdv A outer s H hr gd => by
  unfold m__law_changes
  exact (dss_cons (ds_set (de_lst (da_cons (de_tup (da_cons (de_tup da_nil) (da_cons (de_nat 0) da_nil))) da_nil)) (dq_name (j := 1) (b := true) sc__law_changes.nd (by decide))) (dss_cons (ds_for PassesOwn.never rfl (di_rg (dg_1 T.n_range (de_var 0))) (dq_name (j := 2) (b := false) sc__law_changes.nd (by decide)) (dss_cons (ds_set (de_lst da_nil) (dq_name (j := 3) (b := true) sc__law_changes.nd (by decide))) (dss_cons (ds_for PassesOwn.never rfl (di_seq (de_frz (de_var 1))) (dq_tup rfl (dqs_cons (dq_name (j := 4) (b := false) sc__law_changes.nd (by decide)) (dqs_cons (dq_name (j := 5) (b := false) sc__law_changes.nd (by decide)) dqs_nil))) (dss_one (ds_if (dt_cmpR (o_lt hr.units) g_cmp (de_var 5) (de_var 0) (nomark _)) (dss_cons (ds_expr (de_mtl F.slot_list_append F.type_list_append mt_append g_app (de_var 3) (da_cons (de_tup (da_cons (de_op2 o_add g_add (de_var 4) (de_tup (da_cons (de_var 5) da_nil))) (da_cons (de_op2 o_add g_add (de_var 5) (de_nat 1)) da_nil))) da_nil))) (dss_one (ds_expr (de_mtl F.slot_list_extend F.type_list_extend mt_extF g_ext (de_var 3) (da_cons (de_frz (de_ifx (dt_cmpR (o_le hr.units) g_cmp (de_op2 o_add g_add (de_var 5) (de_nat 2)) (de_var 0) (nomark _)) (de_lst (da_cons (de_tup (da_cons (de_var 4) (da_cons (de_op2 o_add g_add (de_var 5) (de_nat 2)) da_nil))) da_nil)) (de_lst da_nil))) da_nil))))) (dss_one (ds_expr (de_mtl F.slot_list_append F.type_list_append mt_append g_app (de_var 3) (da_cons (de_tup (da_cons (de_var 4) (da_cons (de_var 5) da_nil))) da_nil))))))) (dss_one (ds_set (de_frz (de_var 3)) (dq_name (j := 1) (b := true) sc__law_changes.nd (by decide))))))) (dss_one (ds_ret (de_sortSet rfl hr.units T.n_sorted T.n_set (de_lc (own := [("made", 4), ("place", 5)]) rfl sc__law_changes.nd (di_seq (de_frz (de_var 1))) (blkOk_by (own := [("made", 4), ("place", 5)]) (N := nm__law_changes) (sc := (defScope s__law_changes)) (by decide +kernel)) (fun _ _ _ _ _ => (dq_tup rfl (dqs_cons (dq_name (j := 4) (b := false) sc__law_changes.nd (by decide)) (dqs_cons (dq_name (j := 5) (b := false) sc__law_changes.nd (by decide)) dqs_nil)))) (fun _ _ _ _ _ => (dts_one (dt_w (dw_and (dt_cmpR (o_eqT hr.units) g_eqT (de_var 5) (de_var 0) (nomark _)) (dw_and1 (dt_cmpR (o_lt hr.units) g_cmp (de_callB o_len g_len T.n_len (da_cons (de_var 4) da_nil)) (de_var 0) (nomark _))))))) (fun _ _ _ _ _ => (de_var 4)) (by decide) (by decide)))))))
end
end Pwk85

set_option Elab.async false
set_option linter.all false
set_option maxRecDepth 100000
set_option maxHeartbeats 4000000
namespace Pwk85
open PySem PySem.Spec PyProof.Rows L2 Pw
section
variable {P : Program} {w : World} {K : PySem.W.Frag} {mg : Str → Option Value} {base : Heap}
theorem ok__law_splice (T : TB K mg) : FnG P w K mg base 3 T.f__law_splice T.d__law_splice ["pot", "bells", "most", "long"] (fspec K ow__law_splice 4 n__law_splice m__law_splice) := fng_d T.F__law_splice sc__law_splice rfl rfl fun cdv A outer s H hr gd => by
  unfold m__law_splice
  exact (dss_cons (ds_parT2 (i := 4) (bi := true) (j := 5) (bj := true) rfl sc__law_splice.nd (by decide) (by decide) (da_cons (de_lst da_nil) (da_cons (de_call ((ok__law_changes T).mono (by decide)) hr gd T.g__law_changes T.F__law_changes.kp T.b__law_changes (da_cons (de_var 1) da_nil) (alen_cons alen_nil)) da_nil))) (dss_cons (ds_for PassesOwn.never rfl (di_rg (dg_1 T.n_range (de_op2 o_add g_add (de_nat 1) (de_callP ((ok__law_draw T).mono (by decide)) hr gd T.g__law_draw T.F__law_draw.kp T.b__law_draw (da_cons (de_var 0) (da_cons (de_var 2) da_nil)) (alen_cons (alen_cons alen_nil)))))) (dq_name (j := 6) (b := false) sc__law_splice.nd (by decide)) (dss_cons (ds_par (i := 7) (j := 8) (bi := false) (bj := false) rfl sc__law_splice.nd (by decide) (by decide) (da_cons (de_op2 o_add g_add (de_nat 1) (de_callP ((ok__law_draw T).mono (by decide)) hr gd T.g__law_draw T.F__law_draw.kp T.b__law_draw (da_cons (de_var 0) (da_cons (de_var 3) da_nil)) (alen_cons (alen_cons alen_nil)))) (da_cons (de_callP ((ok__law_draw T).mono (by decide)) hr gd T.g__law_draw T.F__law_draw.kp T.b__law_draw (da_cons (de_var 0) (da_cons (de_nat 4) da_nil)) (alen_cons (alen_cons alen_nil))) da_nil))) (dss_cons (ds_set (de_lc (own := [("step", 13)]) rfl sc__law_splice.nd (di_rg (dg_1 T.n_range (de_var 7))) (blkOk_by (own := [("step", 13)]) (N := nm__law_splice) (sc := (defScope s__law_splice)) (by decide +kernel)) (fun _ _ _ _ _ => (dq_name (j := 13) (b := false) sc__law_splice.nd (by decide))) (fun _ _ _ _ _ => dts_nil) (fun _ _ _ _ _ => (de_callP ((ok__law_pick T).mono (by decide)) hr gd T.g__law_pick T.F__law_pick.kp T.b__law_pick (da_cons (de_var 0) (da_cons (de_frz (de_var 5)) da_nil)) (alen_cons (alen_cons alen_nil)))) (by decide) (by decide)) (dq_name (j := 9) (b := true) sc__law_splice.nd (by decide))) (dss_cons (ds_if (dt_w (dw_and (dt_cmpR (o_eqT hr.units) g_eqT (de_var 8) (de_nat 0) (nomark _)) (dw_and1 (dt_cmpR (o_neT hr.units) g_neT (de_var 4) (de_lst da_nil) (nomark _))))) (dss_one (ds_set (de_callT call_list_of g_lst T.n_list (da_cons (de_op2 o_add g_add (de_rev (de_cut (de_ixR (o_ix (hu_of hr)) g_ix (de_ixR (o_ix (hu_of hr)) g_ix (de_var 4) (de_un un_neg g_neg (de_nat 1)) (fun _ _ => rfl)) (de_nat 2) (fun _ _ => rfl)) do_none (do_some (de_un un_neg g_neg (de_nat 1))))) (de_cut (de_ixR (o_ix (hu_of hr)) g_ix (de_ixR (o_ix (hu_of hr)) g_ix (de_var 4) (de_un un_neg g_neg (de_nat 1)) (fun _ _ => rfl)) (de_nat 2) (fun _ _ => rfl)) (do_some (de_un un_neg g_neg (de_nat 1))) do_none)) da_nil)) (dq_name (j := 9) (b := true) sc__law_splice.nd (by decide)))) dss_nil) (dss_cons (ds_if (dt_cmpR (o_eqT hr.units) g_eqT (de_var 8) (de_nat 1) (nomark _)) (dss_cons (ds_par (i := 10) (j := 11) (bi := false) (bj := false) rfl sc__law_splice.nd (by decide) (by decide) (da_cons (de_callP ((ok__law_pick T).mono (by decide)) hr gd T.g__law_pick T.F__law_pick.kp T.b__law_pick (da_cons (de_var 0) (da_cons (de_frz (de_var 5)) da_nil)) (alen_cons (alen_cons alen_nil))) (da_cons (de_callP ((ok__law_pick T).mono (by decide)) hr gd T.g__law_pick T.F__law_pick.kp T.b__law_pick (da_cons (de_var 0) (da_cons (de_frz (de_var 5)) da_nil)) (alen_cons (alen_cons alen_nil))) da_nil))) (dss_one (ds_set (de_op2 o_mul g_mul (de_lst (da_cons (de_var 10) (da_cons (de_var 11) da_nil))) (de_op2 o_add g_add (de_nat 1) (de_callP ((ok__law_draw T).mono (by decide)) hr gd T.g__law_draw T.F__law_draw.kp T.b__law_draw (da_cons (de_var 0) (da_cons (de_nat 3) da_nil)) (alen_cons (alen_cons alen_nil))))) (dq_name (j := 9) (b := true) sc__law_splice.nd (by decide))))) dss_nil) (dss_cons (ds_set (de_callP ((ok__law_mixed T).mono (by decide)) hr gd T.g__law_mixed T.F__law_mixed.kp T.b__law_mixed (da_cons (de_var 0) (da_cons (de_frz (de_lc (own := [("one", 14)]) rfl sc__law_splice.nd (di_seq (de_frz (de_var 5))) (blkOk_by (own := [("one", 14)]) (N := nm__law_splice) (sc := (defScope s__law_splice)) (by decide +kernel)) (fun _ _ _ _ _ => (dq_name (j := 14) (b := false) sc__law_splice.nd (by decide))) (fun _ _ _ _ _ => (dts_one (dt_cmpR (o_neT hr.units) g_neT (de_var 14) (de_ixR (o_ix (hu_of hr)) g_ix (de_var 9) (de_un un_neg g_neg (de_nat 1)) (fun _ _ => rfl)) (nomark _)))) (fun _ _ _ _ _ => (de_var 14)) (by decide) (by decide))) da_nil)) (alen_cons (alen_cons alen_nil))) (dq_name (j := 12) (b := true) sc__law_splice.nd (by decide))) (dss_cons (ds_expr (de_mtl F.slot_list_append F.type_list_append mt_append g_app (de_var 4) (da_cons (de_tup (da_cons de_str (da_cons (de_var 1) (da_cons (de_callT call_tuple_of g_tup T.n_tuple (da_cons (de_var 9) da_nil)) (da_cons (de_callT call_tuple_of g_tup T.n_tuple (da_cons (de_cut (de_var 12) do_none (do_some (de_callP ((ok__law_draw T).mono (by decide)) hr gd T.g__law_draw T.F__law_draw.kp T.b__law_draw (da_cons (de_var 0) (da_cons (de_nat 2) da_nil)) (alen_cons (alen_cons alen_nil))))) da_nil)) da_nil))))) da_nil))) (dss_one (ds_if (dt_w (dw_and (dt_cmpR (o_eqT hr.units) g_eqT (de_var 8) (de_nat 2) (nomark _)) (dw_and1 (dt_cmpR (o_gt hr.units) g_cmp (de_callB o_len g_len T.n_len (da_cons (de_var 4) da_nil)) (de_nat 1) (nomark _))))) (dss_one (ds_set (de_ixR (o_ix (hu_of hr)) g_ix (de_var 4) (de_nat 0) (fun _ _ => rfl)) (dq_sub (hu_of hr) (de_var 4) (de_un un_neg g_neg (de_nat 1))))) dss_nil))))))))) (dss_one (ds_ret (de_tup (da_cons de_str (da_cons (de_callT call_tuple_of g_tup T.n_tuple (da_cons (de_var 4) da_nil)) da_nil)))))))
end
end Pwk85

set_option Elab.async false
set_option linter.all false
set_option maxRecDepth 100000
set_option maxHeartbeats 4000000
namespace Pwk85
open PySem PySem.Spec PyProof.Rows L2 Pw
section
variable {P : Program} {w : World} {K : PySem.W.Frag} {mg : Str → Option Value} {base : Heap}
theorem ok__law_touch (T : TB K mg) : FnG P w K mg base 2 T.f__law_touch T.d__law_touch ["pot", "splice", "most"] (fspec K ow__law_touch 3 n__law_touch m__law_touch) := fng_d T.F__law_touch sc__law_touch rfl rfl fun cdv A outer s H hr gd => by
  unfold m__law_touch
  exact (dss_cons (ds_set (de_lst da_nil) (dq_name (j := 3) (b := true) sc__law_touch.nd (by decide))) (dss_cons (ds_for PassesOwn.never rfl (di_rg (dg_1 T.n_range (de_callP ((ok__law_draw T).mono (by decide)) hr gd T.g__law_draw T.F__law_draw.kp T.b__law_draw (da_cons (de_var 0) (da_cons (de_op2 o_add g_add (de_var 2) (de_nat 1)) da_nil)) (alen_cons (alen_cons alen_nil))))) (dq_name (j := 4) (b := false) sc__law_touch.nd (by decide)) (dss_cons (ds_set (de_callP ((ok__law_draw T).mono (by decide)) hr gd T.g__law_draw T.F__law_draw.kp T.b__law_draw (da_cons (de_var 0) (da_cons (de_callB o_len g_len T.n_len (da_cons (de_ixR (o_ix (hu_of hr)) g_ix (de_var 1) (de_nat 1) (fun _ _ => rfl)) da_nil)) da_nil)) (alen_cons (alen_cons alen_nil))) (dq_name (j := 5) (b := false) sc__law_touch.nd (by decide))) (dss_one (ds_expr (de_mtl F.slot_list_append F.type_list_append mt_append g_app (de_var 3) (da_cons (de_tup (da_cons (de_var 5) (da_cons (de_callP ((ok__law_draw T).mono (by decide)) hr gd T.g__law_draw T.F__law_draw.kp T.b__law_draw (da_cons (de_var 0) (da_cons (de_op2 o_add g_add (de_callB o_len g_len T.n_len (da_cons (de_ixR (o_ix (hu_of hr)) g_ix (de_ixR (o_ix (hu_of hr)) g_ix (de_ixR (o_ix (hu_of hr)) g_ix (de_var 1) (de_nat 1) (fun _ _ => rfl)) (de_var 5) (fun _ _ => rfl)) (de_nat 3) (fun _ _ => rfl)) da_nil)) (de_nat 1)) da_nil)) (alen_cons (alen_cons alen_nil))) da_nil))) da_nil)))))) (dss_one (ds_ret (de_var 3)))))
end
end Pwk85

set_option Elab.async false
set_option linter.all false
set_option maxRecDepth 100000
set_option maxHeartbeats 4000000
namespace Pwk85
open PySem PySem.Spec PyProof.Rows L2 Pw
section
variable {P : Program} {w : World} {K : PySem.W.Frag} {mg : Str → Option Value} {base : Heap}
theorem ok__law_rung (T : TB K mg) : FnG P w K mg base 3 T.f__law_rung T.d__law_rung ["splice", "touch"] (fspec K ow__law_rung 2 n__law_rung m__law_rung) := fng_d T.F__law_rung sc__law_rung rfl rfl fun cdv A outer s H hr gd => by
  unfold m__law_rung
  exact (dss_cons (ds_set (de_rgT rfl T.n_tuple (dg_1 T.n_range (de_ixR (o_ix (hu_of hr)) g_ix (de_ixR (o_ix (hu_of hr)) g_ix (de_ixR (o_ix (hu_of hr)) g_ix (de_var 0) (de_nat 1) (fun _ _ => rfl)) (de_nat 0) (fun _ _ => rfl)) (de_nat 1) (fun _ _ => rfl)))) (dq_name (j := 2) (b := false) sc__law_rung.nd (by decide))) (dss_cons (ds_par (i := 3) (j := 4) (bi := true) (bj := true) rfl sc__law_rung.nd (by decide) (by decide) (da_cons (de_lst da_nil) (da_cons (de_lst (da_cons (de_var 2) da_nil)) da_nil))) (dss_cons (ds_for PassesOwn.never rfl (di_seq (de_var 1)) (dq_tup rfl (dqs_cons (dq_name (j := 5) (b := false) sc__law_rung.nd (by decide)) (dqs_cons (dq_name (j := 6) (b := false) sc__law_rung.nd (by decide)) dqs_nil))) (dss_cons (ds_set (de_call ((ok__law_lead T).mono (by decide)) hr gd T.g__law_lead T.F__law_lead.kp T.b__law_lead (da_cons (de_ixR (o_ix (hu_of hr)) g_ix (de_ixR (o_ix (hu_of hr)) g_ix (de_var 0) (de_nat 1) (fun _ _ => rfl)) (de_var 5) (fun _ _ => rfl)) (da_cons (de_var 2) (da_cons (de_var 6) da_nil))) (alen_cons (alen_cons (alen_cons alen_nil)))) (dq_tup rfl (dqs_cons (dq_name (j := 7) (b := false) sc__law_rung.nd (by decide)) (dqs_cons (dq_name (j := 2) (b := false) sc__law_rung.nd (by decide)) dqs_nil)))) (dss_one (ds_par (i := 3) (j := 4) (bi := true) (bj := true) rfl sc__law_rung.nd (by decide) (by decide) (da_cons (de_op2 o_add g_add (de_var 3) (de_var 7)) (da_cons (de_op2 o_add g_add (de_var 4) (de_lst (da_cons (de_var 2) da_nil))) da_nil)))))) (dss_one (ds_ret (de_tup (da_cons (de_frz (de_var 3)) (da_cons (de_frz (de_var 4)) da_nil))))))))
end
end Pwk85

set_option Elab.async false
set_option linter.all false
set_option maxRecDepth 100000
set_option maxHeartbeats 4000000
namespace Pwk85
open PySem PySem.Spec PyProof.Rows L2 Pw
section
variable {P : Program} {w : World} {K : PySem.W.Frag} {mg : Str → Option Value} {base : Heap}
theorem ok__law_is_true (T : TB K mg) : FnG P w K mg base 1 T.f__law_is_true T.d__law_is_true ["rows"] (fspec K ow__law_is_true 1 n__law_is_true m__law_is_true) := fng_d T.F__law_is_true sc__law_is_true rfl rfl fun cdv A outer s H hr gd => by
  unfold m__law_is_true
  exact (dss_one (ds_ret (de_cmpR (o_eqT hr.units) g_eqT (de_callB o_len g_len T.n_len (da_cons (de_callT (o_dictP rfl hr.units) g_dictP T.n_dict (da_cons (de_lc (own := [("row", 1)]) rfl sc__law_is_true.nd (di_seq (de_var 0)) (blkOk_by (own := [("row", 1)]) (N := nm__law_is_true) (sc := (defScope s__law_is_true)) (by decide +kernel)) (fun _ _ _ _ _ => (dq_name (j := 1) (b := false) sc__law_is_true.nd (by decide))) (fun _ _ _ _ _ => dts_nil) (fun _ _ _ _ _ => (de_tup (da_cons (de_var 1) (da_cons (de_nat 0) da_nil)))) (by decide) (by decide)) da_nil)) da_nil)) (de_callB o_len g_len T.n_len (da_cons (de_var 0) da_nil)) (nomark _))))
end
end Pwk85

set_option Elab.async false
set_option linter.all false
set_option maxRecDepth 100000
set_option maxHeartbeats 4000000
namespace Pwk85
open PySem PySem.Spec PyProof.Rows L2 Pw
section
variable {P : Program} {w : World} {K : PySem.W.Frag} {mg : Str → Option Value} {base : Heap}
theorem ok__law_near (T : TB K mg) : FnG P w K mg base 2 T.f__law_near T.d__law_near ["pot", "method"] (fspec K ow__law_near 2 n__law_near m__law_near) := fng_d T.F__law_near sc__law_near rfl rfl fun cdv A outer s H hr gd => by
  unfold m__law_near
  exact (dss_cons (ds_set (de_var 1) (dq_tup rfl (dqs_cons (dq_name (j := 2) (b := false) sc__law_near.nd (by decide)) (dqs_cons (dq_name (j := 3) (b := false) sc__law_near.nd (by decide)) (dqs_cons (dq_name (j := 4) (b := false) sc__law_near.nd (by decide)) (dqs_cons (dq_name (j := 5) (b := false) sc__law_near.nd (by decide)) dqs_nil)))))) (dss_cons (ds_par3 (i := 6) (j := 7) (l := 8) (bi := false) (bj := false) (bl := true) rfl sc__law_near.nd (by decide) (by decide) (by decide) (da_cons (de_callP ((ok__law_draw T).mono (by decide)) hr gd T.g__law_draw T.F__law_draw.kp T.b__law_draw (da_cons (de_var 0) (da_cons (de_callB o_len g_len T.n_len (da_cons (de_var 4) da_nil)) da_nil)) (alen_cons (alen_cons alen_nil))) (da_cons (de_callP ((ok__law_draw T).mono (by decide)) hr gd T.g__law_draw T.F__law_draw.kp T.b__law_draw (da_cons (de_var 0) (da_cons (de_nat 4) da_nil)) (alen_cons (alen_cons alen_nil))) (da_cons (de_callT call_list_of g_lst T.n_list (da_cons (de_var 4) da_nil)) da_nil)))) (dss_cons (ds_if (dt_w (dw_and (dt_cmpR (o_eqT hr.units) g_eqT (de_var 7) (de_nat 0) (nomark _)) (dw_and1 (dt_cmpR (o_lt hr.units) g_cmp (de_op2 o_add g_add (de_var 6) (de_nat 2)) (de_callB o_len g_len T.n_len (da_cons (de_var 8) da_nil)) (nomark _))))) (dss_one (ds_set (de_tup (da_cons (de_ixR (o_ix (hu_of hr)) g_ix (de_var 8) (de_op2 o_add g_add (de_var 6) (de_nat 1)) (fun _ _ => rfl)) (da_cons (de_ixR (o_ix (hu_of hr)) g_ix (de_var 8) (de_var 6) (fun _ _ => rfl)) da_nil))) (dq_tup rfl (dqs_cons (dq_sub (hu_of hr) (de_var 8) (de_var 6)) (dqs_cons (dq_sub (hu_of hr) (de_var 8) (de_op2 o_add g_add (de_var 6) (de_nat 1))) dqs_nil))))) dss_nil) (dss_cons (ds_if (dt_cmpR (o_eqT hr.units) g_eqT (de_var 7) (de_nat 1) (nomark _)) (dss_one (ds_set (de_op2 o_add g_add (de_rev (de_cut (de_var 8) do_none (do_some (de_un un_neg g_neg (de_nat 1))))) (de_cut (de_var 8) (do_some (de_un un_neg g_neg (de_nat 1))) do_none)) (dq_name (j := 8) (b := true) sc__law_near.nd (by decide)))) dss_nil) (dss_cons (ds_if (dt_cmpR (o_eqT hr.units) g_eqT (de_var 7) (de_nat 2) (nomark _)) (dss_one (ds_ret (de_tup (da_cons (de_var 2) (da_cons (de_var 3) (da_cons (de_op2 o_mulT g_mulT (de_callT call_tuple_of g_tup T.n_tuple (da_cons (de_var 8) da_nil)) (de_ifx (dt_cmpR (o_lt hr.units) g_cmp (de_callB o_len g_len T.n_len (da_cons (de_var 8) da_nil)) (de_nat 4) (nomark _)) (de_nat 2) (de_nat 1))) (da_cons (de_var 5) da_nil))))))) dss_nil) (dss_one (ds_ret (de_tup (da_cons (de_var 2) (da_cons (de_var 3) (da_cons (de_callT call_tuple_of g_tup T.n_tuple (da_cons (de_var 8) da_nil)) (da_cons (de_var 5) da_nil))))))))))))
end
end Pwk85

set_option Elab.async false
set_option linter.all false
set_option maxRecDepth 100000
set_option maxHeartbeats 4000000
namespace Pwk85
open PySem PySem.Spec PyProof.Rows L2 Pw
section
variable {P : Program} {w : World} {K : PySem.W.Frag} {mg : Str → Option Value} {base : Heap}
theorem ok__law_right (T : TB K mg) : FnG P w K mg base 10 T.f__law_right T.d__law_right ["pot", "bells"] (fspec K ow__law_right 2 n__law_right m__law_right) := fng_d T.F__law_right sc__law_right rfl rfl fun cdv A outer s H hr gd => by
  unfold m__law_right
  exact (dss_cons (ds_set (de_callP ((ok__law_splice T).mono (by decide)) hr gd T.g__law_splice T.F__law_splice.kp T.b__law_splice (da_cons (de_var 0) (da_cons (de_var 1) (da_cons (de_nat 2) (da_cons (de_nat 5) da_nil)))) (alen_cons (alen_cons (alen_cons (alen_cons alen_nil))))) (dq_name (j := 2) (b := false) sc__law_right.nd (by decide))) (dss_cons (ds_set (de_tup (da_cons de_str (da_cons (de_op2 o_add g_add (de_op2 o_add g_add (de_ixR (o_ix (hu_of hr)) g_ix (de_var 2) (de_nat 1) (fun _ _ => rfl)) (de_tup (da_cons (de_callP ((ok__law_near T).mono (by decide)) hr gd T.g__law_near T.F__law_near.kp T.b__law_near (da_cons (de_var 0) (da_cons (de_ixR (o_ix (hu_of hr)) g_ix (de_ixR (o_ix (hu_of hr)) g_ix (de_var 2) (de_nat 1) (fun _ _ => rfl)) (de_nat 0) (fun _ _ => rfl)) da_nil)) (alen_cons (alen_cons alen_nil))) da_nil))) (de_cut (de_ixR (o_ix (hu_of hr)) g_ix (de_var 2) (de_nat 1) (fun _ _ => rfl)) do_none (do_some (de_nat 1)))) da_nil))) (dq_name (j := 2) (b := false) sc__law_right.nd (by decide))) (dss_cons (ds_parT2 (i := 3) (bi := true) (j := 4) (bj := false) rfl sc__law_right.nd (by decide) (by decide) (da_cons (de_callP ((ok__law_touch T).mono (by decide)) hr gd T.g__law_touch T.F__law_touch.kp T.b__law_touch (da_cons (de_var 0) (da_cons (de_var 2) (da_cons (de_ifx (dt_cmpR (o_eqT hr.units) g_eqT (de_callP ((ok__law_draw T).mono (by decide)) hr gd T.g__law_draw T.F__law_draw.kp T.b__law_draw (da_cons (de_var 0) (da_cons (de_nat 2) da_nil)) (alen_cons (alen_cons alen_nil))) (de_nat 0) (nomark _)) (de_nat 8) (de_nat 3)) da_nil))) (alen_cons (alen_cons (alen_cons alen_nil)))) (da_cons (de_rgT rfl T.n_tuple (dg_1 T.n_range (de_var 1))) da_nil))) (dss_cons (ds_par (i := 5) (j := 6) (bi := false) (bj := false) rfl sc__law_right.nd (by decide) (by decide) (da_cons (de_showL gd hr.units T.n_repr (da_cons (de_var 2) (da_cons (de_var 3) da_nil))) (da_cons (de_callP ((ok__law_draw T).mono (by decide)) hr gd T.g__law_draw T.F__law_draw.kp T.b__law_draw (da_cons (de_var 0) (da_cons (de_callB o_len g_len T.n_len (da_cons (de_ixR (o_ix (hu_of hr)) g_ix (de_var 2) (de_nat 1) (fun _ _ => rfl)) da_nil)) da_nil)) (alen_cons (alen_cons alen_nil))) da_nil))) (dss_cons (ds_setLc (own := [("one", 7)]) (i := 9) (bi := true) rfl sc__law_right.nd (by decide) rfl rfl (sw_true rfl rfl rfl rfl) (di_seq (de_ixR (o_ix (hu_of hr)) g_ix (de_var 2) (de_nat 1) (fun _ _ => rfl))) (blkOk_by (own := [("one", 7)]) (N := nm__law_right) (sc := (defScope s__law_right)) (by decide +kernel)) (fun _ _ _ _ _ => (dq_name (j := 7) (b := false) sc__law_right.nd (by decide))) (fun _ _ _ _ _ => dts_nil) (fun _ _ _ _ _ => (de_frz (de_lc (own := [("call", 8)]) rfl sc__law_right.nd (di_rg (dg_1 T.n_range (de_op2 o_add g_add (de_callB o_len g_len T.n_len (da_cons (de_ixR (o_ix (hu_of hr)) g_ix (de_var 7) (de_nat 3) (fun _ _ => rfl)) da_nil)) (de_nat 1)))) (blkOk_by (own := [("call", 8)]) (N := nm__law_right) (sc := (relS {
                    kind := PySem.ScopeKind.function,
                    names := [
                      (PySem.Str.ofString ".0", PySem.NameKind.local),
                      (PySem.Str.ofString "one", PySem.NameKind.cell),
                      (PySem.Str.ofString "range", PySem.NameKind.globalImplicit),
                      (PySem.Str.ofString "len", PySem.NameKind.globalImplicit),
                      (PySem.Str.ofString "rounds", PySem.NameKind.free)],
                    isGenerator := false,
                    isCoroutine := false,
                    more := [] : PySem.Scope } (defScope s__law_right))) (by decide +kernel)) (fun _ _ _ _ _ => (dq_name (j := 8) (b := false) sc__law_right.nd (by decide))) (fun _ _ _ _ _ => dts_nil) (fun _ _ _ _ _ => (de_ixR (o_ix (hu_of hr)) g_ix (de_call ((ok__law_lead T).mono (by decide)) hr gd T.g__law_lead T.F__law_lead.kp T.b__law_lead (da_cons (de_var 7) (da_cons (de_var 4) (da_cons (de_var 8) da_nil))) (alen_cons (alen_cons (alen_cons alen_nil)))) (de_nat 1) (fun _ _ => rfl))) (by decide) (by decide)))) (by decide) (by decide)) (dss_cons (ds_set (de_lst da_nil) (dq_name (j := 10) (b := true) sc__law_right.nd (by decide))) (dss_cons (ds_for PassesOwn.never rfl (di_enum T.n_enumerate (de_frz (de_var 3))) (dq_tup rfl (dqs_cons (dq_name (j := 11) (b := false) sc__law_right.nd (by decide)) (dqs_cons (dq_tup rfl (dqs_cons (dq_name (j := 12) (b := false) sc__law_right.nd (by decide)) (dqs_cons (dq_name (j := 8) (b := false) sc__law_right.nd (by decide)) dqs_nil))) dqs_nil))) (dss_cons (ds_set (de_op2 o_add g_add (de_op2 o_add g_add (de_cut (de_var 3) do_none (do_some (de_var 11))) (de_lst (da_cons (de_tup (da_cons (de_var 6) (da_cons (de_var 8) da_nil))) da_nil))) (de_cut (de_var 3) (do_some (de_op2 o_add g_add (de_var 11) (de_nat 1))) do_none)) (dq_name (j := 13) (b := true) sc__law_right.nd (by decide))) (dss_one (ds_if (dt_w (dw_and (dt_cmpR (o_lt hr.units) g_cmp (de_var 8) (de_callB o_len g_len T.n_len (da_cons (de_ixR (o_ix (hu_of hr)) g_ix (de_var 9) (de_var 6) (fun _ _ => rfl)) da_nil)) (nomark _)) (dw_and (dt_cmpR (o_eqT hr.units) g_eqT (de_ixR (o_ix (hu_of hr)) g_ix (de_ixR (o_ix (hu_of hr)) g_ix (de_var 9) (de_var 6) (fun _ _ => rfl)) (de_var 8) (fun _ _ => rfl)) (de_ixR (o_ix (hu_of hr)) g_ix (de_ixR (o_ix (hu_of hr)) g_ix (de_var 9) (de_var 12) (fun _ _ => rfl)) (de_var 8) (fun _ _ => rfl)) (nomark _)) (dw_and1 (dt_val (de_call ((ok__law_is_true T).mono (by decide)) hr gd T.g__law_is_true T.F__law_is_true.kp T.b__law_is_true (da_cons (de_ixR (o_ix (hu_of hr)) g_ix (de_call ((ok__law_rung T).mono (by decide)) hr gd T.g__law_rung T.F__law_rung.kp T.b__law_rung (da_cons (de_var 2) (da_cons (de_frz (de_var 13)) da_nil)) (alen_cons (alen_cons alen_nil))) (de_nat 0) (fun _ _ => rfl)) da_nil) (alen_cons alen_nil))))))) (dss_one (ds_expr (de_mtl F.slot_list_append F.type_list_append mt_append g_app (de_var 10) (da_cons (de_var 11) da_nil)))) dss_nil)))) (dss_cons (ds_set (de_call ((ok_stand_ins T).mono (by decide)) hr gd T.g_stand_ins T.F_stand_ins.kp T.b_stand_ins (da_cons (de_var 2) (da_cons (de_frz (de_var 3)) (da_cons (de_var 6) da_nil))) (alen_cons (alen_cons (alen_cons alen_nil)))) (dq_name (j := 14) (b := true) sc__law_right.nd (by decide))) (dss_cons (ds_if (dt_cmpR (o_neT hr.units) g_neT (de_showL gd hr.units T.n_repr (da_cons (de_var 14) (da_cons (de_callK ((ok_stand_ins T).mono (by decide)) hr gd T.g_stand_ins T.F_stand_ins.kp T.k0_stand_ins (dk_cons (de_var 6) (dk_cons (de_callT call_tuple_of g_tup T.n_tuple (da_cons (de_var 3) da_nil)) (dk_cons (de_var 2) dk_nil))) (alen_cons (alen_cons (alen_cons alen_nil))) (fun rs h => by match rs, h with | [_, _, _], _ => rfl)) da_nil))) (de_showL gd hr.units T.n_repr (da_cons (de_var 10) (da_cons (de_var 10) da_nil))) (nomark _)) (dss_one (ds_ret de_bl)) dss_nil) (dss_cons (ds_expr (de_mtl F.slot_list_append F.type_list_append mt_append g_app (de_var 14) (da_cons de_non da_nil))) (dss_cons (ds_for PassesOwn.never rfl (di_rg (dg_1 T.n_range (de_callB o_len g_len T.n_len (da_cons (de_ixR (o_ix (hu_of hr)) g_ix (de_var 2) (de_nat 1) (fun _ _ => rfl)) da_nil)))) (dq_name (j := 7) (b := false) sc__law_right.nd (by decide)) (dss_one (ds_for PassesOwn.never rfl (di_rg (dg_1 T.n_range (de_callB o_len g_len T.n_len (da_cons (de_ixR (o_ix (hu_of hr)) g_ix (de_var 2) (de_nat 1) (fun _ _ => rfl)) da_nil)))) (dq_name (j := 15) (b := false) sc__law_right.nd (by decide)) (dss_cons (ds_setLc (own := [("at", 11)]) (i := 16) (bi := true) rfl sc__law_right.nd (by decide) rfl rfl (sw_true rfl rfl rfl rfl) (di_seq (de_tup (da_cons (de_var 7) (da_cons (de_var 15) da_nil)))) (blkOk_by (own := [("at", 11)]) (N := nm__law_right) (sc := (defScope s__law_right)) (by decide +kernel)) (fun _ _ _ _ _ => (dq_name (j := 11) (b := false) sc__law_right.nd (by decide))) (fun _ _ _ _ _ => dts_nil) (fun _ _ _ _ _ => (de_frz (de_callB (o_sortA rfl hr.units) g_sortA T.n_sorted (da_cons (de_ixR (o_ix (hu_of hr)) g_ix (de_call ((ok__law_lead T).mono (by decide)) hr gd T.g__law_lead T.F__law_lead.kp T.b__law_lead (da_cons (de_ixR (o_ix (hu_of hr)) g_ix (de_ixR (o_ix (hu_of hr)) g_ix (de_var 2) (de_nat 1) (fun _ _ => rfl)) (de_var 11) (fun _ _ => rfl)) (da_cons (de_var 4) (da_cons (de_nat 0) da_nil))) (alen_cons (alen_cons (alen_cons alen_nil)))) (de_nat 0) (fun _ _ => rfl)) da_nil)))) (by decide) (by decide)) (dss_cons (ds_set (de_and (de_cmpR (o_eqT hr.units) g_eqT (de_ixR (o_ix (hu_of hr)) g_ix (de_var 9) (de_var 7) (fun _ _ => rfl)) (de_ixR (o_ix (hu_of hr)) g_ix (de_var 9) (de_var 15) (fun _ _ => rfl)) (nomark _)) (de_one (de_cmpR (o_eqT hr.units) g_eqT (de_ixR (o_ix (hu_of hr)) g_ix (de_var 16) (de_nat 0) (fun _ _ => rfl)) (de_ixR (o_ix (hu_of hr)) g_ix (de_var 16) (de_nat 1) (fun _ _ => rfl)) (nomark _)))) (dq_name (j := 17) (b := false) sc__law_right.nd (by decide))) (dss_cons (ds_if (dt_cmpR (o_neT hr.units) g_neT (de_showL gd hr.units T.n_repr (da_cons (de_call ((ok_may_always T).mono (by decide)) hr gd T.g_may_always T.F_may_always.kp T.b_may_always (da_cons (de_var 2) (da_cons (de_var 7) (da_cons (de_var 15) da_nil))) (alen_cons (alen_cons (alen_cons alen_nil)))) (da_cons (de_callK ((ok_may_always T).mono (by decide)) hr gd T.g_may_always T.F_may_always.kp T.k0_may_always (dk_cons (de_var 15) (dk_cons (de_var 7) (dk_cons (de_var 2) dk_nil))) (alen_cons (alen_cons (alen_cons alen_nil))) (fun rs h => by match rs, h with | [_, _, _], _ => rfl)) da_nil))) (de_showL gd hr.units T.n_repr (da_cons (de_var 17) (da_cons (de_var 17) da_nil))) (nomark _)) (dss_one (ds_ret de_bl)) dss_nil) (dss_one (ds_if (dt_val (de_var 17)) (dss_cons (ds_setLc (own := [("own", 12), ("call", 8)]) (i := 13) (bi := true) rfl sc__law_right.nd (by decide) rfl rfl (sw_true rfl rfl rfl rfl) (di_seq (de_frz (de_var 3))) (blkOk_by (own := [("own", 12), ("call", 8)]) (N := nm__law_right) (sc := (defScope s__law_right)) (by decide +kernel)) (fun _ _ _ _ _ => (dq_tup rfl (dqs_cons (dq_name (j := 12) (b := false) sc__law_right.nd (by decide)) (dqs_cons (dq_name (j := 8) (b := false) sc__law_right.nd (by decide)) dqs_nil)))) (fun _ _ _ _ _ => dts_nil) (fun _ _ _ _ _ => (de_ifx (dt_w (dw_and (dt_cmpR (o_eqT hr.units) g_eqT (de_var 12) (de_var 15) (nomark _)) (dw_and1 (dt_cmpR (o_eqT hr.units) g_eqT (de_callP ((ok__law_draw T).mono (by decide)) hr gd T.g__law_draw T.F__law_draw.kp T.b__law_draw (da_cons (de_var 0) (da_cons (de_nat 2) da_nil)) (alen_cons (alen_cons alen_nil))) (de_nat 0) (nomark _))))) (de_tup (da_cons (de_var 7) (da_cons (de_var 8) da_nil))) (de_tup (da_cons (de_var 12) (da_cons (de_var 8) da_nil))))) (by decide) (by decide)) (dss_one (ds_if (dt_cmpR (o_neT hr.units) g_neT (de_call ((ok_is_spliced_true T).mono (by decide)) hr gd T.g_is_spliced_true T.F_is_spliced_true.kp T.b_is_spliced_true (da_cons (de_var 2) (da_cons (de_frz (de_var 13)) da_nil)) (alen_cons (alen_cons alen_nil))) (de_call ((ok_is_spliced_true T).mono (by decide)) hr gd T.g_is_spliced_true T.F_is_spliced_true.kp T.b_is_spliced_true (da_cons (de_var 2) (da_cons (de_frz (de_var 3)) da_nil)) (alen_cons (alen_cons alen_nil))) (nomark _)) (dss_one (ds_ret de_bl)) dss_nil))) dss_nil)))))))) (dss_one (ds_ret (de_cmpR (o_eqT hr.units) g_eqT (de_showL gd hr.units T.n_repr (da_cons (de_var 2) (da_cons (de_var 3) da_nil))) (de_var 5) (nomark _)))))))))))))))
end
end Pwk85

set_option Elab.async false
set_option linter.all false
set_option maxRecDepth 100000
set_option maxHeartbeats 4000000
namespace Pwk85
open PySem PySem.Spec PyProof.Rows L2 Pw
section
variable {P : Program} {w : World} {K : PySem.W.Frag} {mg : Str → Option Value} {base : Heap}
theorem ok_law (T : TB K mg) : FnG P w K mg base 11 T.f_law T.d_law ["script"] (fspec K ow_law 1 n_law m_law) := fng_d T.F_law sc_law rfl rfl fun cdv A outer s H hr gd => by
  unfold m_law
  exact (dss_cons (ds_par (i := 1) (j := 2) (bi := true) (bj := true) rfl sc_law.nd (by decide) (by decide) (da_cons (de_call ((ok__law_pot T).mono (by decide)) hr gd T.g__law_pot T.F__law_pot.kp T.b__law_pot (da_cons (de_var 0) (da_cons (de_nat 0) da_nil)) (alen_cons (alen_cons alen_nil))) (da_cons (de_call ((ok__law_pot T).mono (by decide)) hr gd T.g__law_pot T.F__law_pot.kp T.b__law_pot (da_cons (de_var 0) (da_cons (de_nat 1) da_nil)) (alen_cons (alen_cons alen_nil))) da_nil))) (dss_one (ds_ret (de_and (de_callP ((ok__law_right T).mono (by decide)) hr gd T.g__law_right T.F__law_right.kp T.b__law_right (da_cons (de_var 1) (da_cons (de_op2 o_add g_add (de_nat 3) (de_callP ((ok__law_draw T).mono (by decide)) hr gd T.g__law_draw T.F__law_draw.kp T.b__law_draw (da_cons (de_var 1) (da_cons (de_nat 2) da_nil)) (alen_cons (alen_cons alen_nil)))) da_nil)) (alen_cons (alen_cons alen_nil))) (de_one (de_callP ((ok__law_right T).mono (by decide)) hr gd T.g__law_right T.F__law_right.kp T.b__law_right (da_cons (de_var 2) (da_cons (de_op2 o_add g_add (de_nat 4) (de_callP ((ok__law_draw T).mono (by decide)) hr gd T.g__law_draw T.F__law_draw.kp T.b__law_draw (da_cons (de_var 2) (da_cons (de_nat 2) da_nil)) (alen_cons (alen_cons alen_nil)))) da_nil)) (alen_cons (alen_cons alen_nil))))))))
end
end Pwk85

set_option Elab.async false
set_option linter.all false
set_option maxRecDepth 100000
set_option maxHeartbeats 4000000
/-! the end: the top, the law. -/
namespace Pwk85
open PySem PySem.Spec PyProof.Rows L2 Pw
theorem all_mk {K : PySem.W.Frag} {mg : Str → Option Value} {h : Heap} (X : K.In h) (G : h.Ns mainGlobals mg)
    {f0 : Addr} {oc0 : Value} {od0 an0 : Option Addr} {osl0 : Array (Option Value)} {kV0 dc0 pm0 cd0 ct0 : Value} (a0 : PySem.W.nsIn K mainGlobals "_law_pot" = some (some (.ref f0)))
    (l0 : K.lookup f0 = some ⟨oc0, od0, .func (PySem.W.fnOf "_law_pot" "_law_pot" (defArgs s__law_pot) (defBody s__law_pot) (defScope s__law_pot) .none kV0 dc0 pm0 an0 cd0 ct0), osl0⟩) (c0 : PySem.W.codeIn K cd0 "_law_pot" = true) (k0 : PySem.W.keepIn K (.ref f0) = true)
    {f1 : Addr} {oc1 : Value} {od1 an1 : Option Addr} {osl1 : Array (Option Value)} {kV1 dc1 pm1 cd1 ct1 : Value} (a1 : PySem.W.nsIn K mainGlobals "_law_draw" = some (some (.ref f1)))
    (l1 : K.lookup f1 = some ⟨oc1, od1, .func (PySem.W.fnOf "_law_draw" "_law_draw" (defArgs s__law_draw) (defBody s__law_draw) (defScope s__law_draw) .none kV1 dc1 pm1 an1 cd1 ct1), osl1⟩) (c1 : PySem.W.codeIn K cd1 "_law_draw" = true) (k1 : PySem.W.keepIn K (.ref f1) = true)
    {f2 : Addr} {oc2 : Value} {od2 an2 : Option Addr} {osl2 : Array (Option Value)} {kV2 dc2 pm2 cd2 ct2 : Value} (a2 : PySem.W.nsIn K mainGlobals "is_tuple" = some (some (.ref f2)))
    (l2 : K.lookup f2 = some ⟨oc2, od2, .func (PySem.W.fnOf "is_tuple" "is_tuple" (defArgs s_is_tuple) (defBody s_is_tuple) (defScope s_is_tuple) .none kV2 dc2 pm2 an2 cd2 ct2), osl2⟩) (c2 : PySem.W.codeIn K cd2 "is_tuple" = true) (k2 : PySem.W.keepIn K (.ref f2) = true)
    {f3 : Addr} {oc3 : Value} {od3 an3 : Option Addr} {osl3 : Array (Option Value)} {kV3 dc3 pm3 cd3 ct3 : Value} (a3 : PySem.W.nsIn K mainGlobals "is_integer" = some (some (.ref f3)))
    (l3 : K.lookup f3 = some ⟨oc3, od3, .func (PySem.W.fnOf "is_integer" "is_integer" (defArgs s_is_integer) (defBody s_is_integer) (defScope s_is_integer) .none kV3 dc3 pm3 an3 cd3 ct3), osl3⟩) (c3 : PySem.W.codeIn K cd3 "is_integer" = true) (k3 : PySem.W.keepIn K (.ref f3) = true)
    {f4 : Addr} {oc4 : Value} {od4 an4 : Option Addr} {osl4 : Array (Option Value)} {kV4 dc4 pm4 cd4 ct4 : Value} (a4 : PySem.W.nsIn K mainGlobals "is_within" = some (some (.ref f4)))
    (l4 : K.lookup f4 = some ⟨oc4, od4, .func (PySem.W.fnOf "is_within" "is_within" (defArgs s_is_within) (defBody s_is_within) (defScope s_is_within) .none kV4 dc4 pm4 an4 cd4 ct4), osl4⟩) (c4 : PySem.W.codeIn K cd4 "is_within" = true) (k4 : PySem.W.keepIn K (.ref f4) = true)
    {f5 : Addr} {oc5 : Value} {od5 an5 : Option Addr} {osl5 : Array (Option Value)} {kV5 dc5 pm5 cd5 ct5 : Value} (a5 : PySem.W.nsIn K mainGlobals "is_bells" = some (some (.ref f5)))
    (l5 : K.lookup f5 = some ⟨oc5, od5, .func (PySem.W.fnOf "is_bells" "is_bells" (defArgs s_is_bells) (defBody s_is_bells) (defScope s_is_bells) .none kV5 dc5 pm5 an5 cd5 ct5), osl5⟩) (c5 : PySem.W.codeIn K cd5 "is_bells" = true) (k5 : PySem.W.keepIn K (.ref f5) = true)
    {f6 : Addr} {oc6 : Value} {od6 an6 : Option Addr} {osl6 : Array (Option Value)} {kV6 dc6 pm6 cd6 ct6 : Value} (a6 : PySem.W.nsIn K mainGlobals "are_rising" = some (some (.ref f6)))
    (l6 : K.lookup f6 = some ⟨oc6, od6, .func (PySem.W.fnOf "are_rising" "are_rising" (defArgs s_are_rising) (defBody s_are_rising) (defScope s_are_rising) .none kV6 dc6 pm6 an6 cd6 ct6), osl6⟩) (c6 : PySem.W.codeIn K cd6 "are_rising" = true) (k6 : PySem.W.keepIn K (.ref f6) = true)
    {f7 : Addr} {oc7 : Value} {od7 an7 : Option Addr} {osl7 : Array (Option Value)} {kV7 dc7 pm7 cd7 ct7 : Value} (a7 : PySem.W.nsIn K mainGlobals "is_lot" = some (some (.ref f7)))
    (l7 : K.lookup f7 = some ⟨oc7, od7, .func (PySem.W.fnOf "is_lot" "is_lot" (defArgs s_is_lot) (defBody s_is_lot) (defScope s_is_lot) .none kV7 dc7 pm7 an7 cd7 ct7), osl7⟩) (c7 : PySem.W.codeIn K cd7 "is_lot" = true) (k7 : PySem.W.keepIn K (.ref f7) = true)
    {f8 : Addr} {oc8 : Value} {od8 an8 : Option Addr} {osl8 : Array (Option Value)} {kV8 dc8 pm8 cd8 ct8 : Value} (a8 : PySem.W.nsIn K mainGlobals "pairs_of" = some (some (.ref f8)))
    (l8 : K.lookup f8 = some ⟨oc8, od8, .func (PySem.W.fnOf "pairs_of" "pairs_of" (defArgs s_pairs_of) (defBody s_pairs_of) (defScope s_pairs_of) .none kV8 dc8 pm8 an8 cd8 ct8), osl8⟩) (c8 : PySem.W.codeIn K cd8 "pairs_of" = true) (k8 : PySem.W.keepIn K (.ref f8) = true)
    {f9 : Addr} {oc9 : Value} {od9 an9 : Option Addr} {osl9 : Array (Option Value)} {kV9 dc9 pm9 cd9 ct9 : Value} (a9 : PySem.W.nsIn K mainGlobals "is_change_of" = some (some (.ref f9)))
    (l9 : K.lookup f9 = some ⟨oc9, od9, .func (PySem.W.fnOf "is_change_of" "is_change_of" (defArgs s_is_change_of) (defBody s_is_change_of) (defScope s_is_change_of) .none kV9 dc9 pm9 an9 cd9 ct9), osl9⟩) (c9 : PySem.W.codeIn K cd9 "is_change_of" = true) (k9 : PySem.W.keepIn K (.ref f9) = true)
    {f10 : Addr} {oc10 : Value} {od10 an10 : Option Addr} {osl10 : Array (Option Value)} {kV10 dc10 pm10 cd10 ct10 : Value} (a10 : PySem.W.nsIn K mainGlobals "is_method_any" = some (some (.ref f10)))
    (l10 : K.lookup f10 = some ⟨oc10, od10, .func (PySem.W.fnOf "is_method_any" "is_method_any" (defArgs s_is_method_any) (defBody s_is_method_any) (defScope s_is_method_any) .none kV10 dc10 pm10 an10 cd10 ct10), osl10⟩) (c10 : PySem.W.codeIn K cd10 "is_method_any" = true) (k10 : PySem.W.keepIn K (.ref f10) = true)
    {f11 : Addr} {oc11 : Value} {od11 an11 : Option Addr} {osl11 : Array (Option Value)} {kV11 dc11 pm11 cd11 ct11 : Value} (a11 : PySem.W.nsIn K mainGlobals "is_splice_any" = some (some (.ref f11)))
    (l11 : K.lookup f11 = some ⟨oc11, od11, .func (PySem.W.fnOf "is_splice_any" "is_splice_any" (defArgs s_is_splice_any) (defBody s_is_splice_any) (defScope s_is_splice_any) .none kV11 dc11 pm11 an11 cd11 ct11), osl11⟩) (c11 : PySem.W.codeIn K cd11 "is_splice_any" = true) (k11 : PySem.W.keepIn K (.ref f11) = true)
    {f12 : Addr} {oc12 : Value} {od12 an12 : Option Addr} {osl12 : Array (Option Value)} {kV12 dc12 pm12 cd12 ct12 : Value} (a12 : PySem.W.nsIn K mainGlobals "want_splice" = some (some (.ref f12)))
    (l12 : K.lookup f12 = some ⟨oc12, od12, .func (PySem.W.fnOf "want_splice" "want_splice" (defArgs s_want_splice) (defBody s_want_splice) (defScope s_want_splice) .none kV12 dc12 pm12 an12 cd12 ct12), osl12⟩) (c12 : PySem.W.codeIn K cd12 "want_splice" = true) (k12 : PySem.W.keepIn K (.ref f12) = true)
    {f13 : Addr} {oc13 : Value} {od13 an13 : Option Addr} {osl13 : Array (Option Value)} {kV13 dc13 pm13 cd13 ct13 : Value} (a13 : PySem.W.nsIn K mainGlobals "is_list" = some (some (.ref f13)))
    (l13 : K.lookup f13 = some ⟨oc13, od13, .func (PySem.W.fnOf "is_list" "is_list" (defArgs s_is_list) (defBody s_is_list) (defScope s_is_list) .none kV13 dc13 pm13 an13 cd13 ct13), osl13⟩) (c13 : PySem.W.codeIn K cd13 "is_list" = true) (k13 : PySem.W.keepIn K (.ref f13) = true)
    {f14 : Addr} {oc14 : Value} {od14 an14 : Option Addr} {osl14 : Array (Option Value)} {kV14 dc14 pm14 cd14 ct14 : Value} (a14 : PySem.W.nsIn K mainGlobals "is_lead_any" = some (some (.ref f14)))
    (l14 : K.lookup f14 = some ⟨oc14, od14, .func (PySem.W.fnOf "is_lead_any" "is_lead_any" (defArgs s_is_lead_any) (defBody s_is_lead_any) (defScope s_is_lead_any) .none kV14 dc14 pm14 an14 cd14 ct14), osl14⟩) (c14 : PySem.W.codeIn K cd14 "is_lead_any" = true) (k14 : PySem.W.keepIn K (.ref f14) = true)
    {f15 : Addr} {oc15 : Value} {od15 an15 : Option Addr} {osl15 : Array (Option Value)} {kV15 dc15 pm15 cd15 ct15 : Value} (a15 : PySem.W.nsIn K mainGlobals "is_spliced_any" = some (some (.ref f15)))
    (l15 : K.lookup f15 = some ⟨oc15, od15, .func (PySem.W.fnOf "is_spliced_any" "is_spliced_any" (defArgs s_is_spliced_any) (defBody s_is_spliced_any) (defScope s_is_spliced_any) .none kV15 dc15 pm15 an15 cd15 ct15), osl15⟩) (c15 : PySem.W.codeIn K cd15 "is_spliced_any" = true) (k15 : PySem.W.keepIn K (.ref f15) = true)
    {f16 : Addr} {oc16 : Value} {od16 an16 : Option Addr} {osl16 : Array (Option Value)} {kV16 dc16 pm16 cd16 ct16 : Value} (a16 : PySem.W.nsIn K mainGlobals "want_spliced" = some (some (.ref f16)))
    (l16 : K.lookup f16 = some ⟨oc16, od16, .func (PySem.W.fnOf "want_spliced" "want_spliced" (defArgs s_want_spliced) (defBody s_want_spliced) (defScope s_want_spliced) .none kV16 dc16 pm16 an16 cd16 ct16), osl16⟩) (c16 : PySem.W.codeIn K cd16 "want_spliced" = true) (k16 : PySem.W.keepIn K (.ref f16) = true)
    {f17 : Addr} {oc17 : Value} {od17 an17 : Option Addr} {osl17 : Array (Option Value)} {kV17 dc17 pm17 cd17 ct17 : Value} (a17 : PySem.W.nsIn K mainGlobals "rounds_of" = some (some (.ref f17)))
    (l17 : K.lookup f17 = some ⟨oc17, od17, .func (PySem.W.fnOf "rounds_of" "rounds_of" (defArgs s_rounds_of) (defBody s_rounds_of) (defScope s_rounds_of) .none kV17 dc17 pm17 an17 cd17 ct17), osl17⟩) (c17 : PySem.W.codeIn K cd17 "rounds_of" = true) (k17 : PySem.W.keepIn K (.ref f17) = true)
    {f18 : Addr} {oc18 : Value} {od18 an18 : Option Addr} {osl18 : Array (Option Value)} {kV18 dc18 pm18 cd18 ct18 : Value} (a18 : PySem.W.nsIn K mainGlobals "times" = some (some (.ref f18)))
    (l18 : K.lookup f18 = some ⟨oc18, od18, .func (PySem.W.fnOf "times" "times" (defArgs s_times) (defBody s_times) (defScope s_times) .none kV18 dc18 pm18 an18 cd18 ct18), osl18⟩) (c18 : PySem.W.codeIn K cd18 "times" = true) (k18 : PySem.W.keepIn K (.ref f18) = true)
    {f19 : Addr} {oc19 : Value} {od19 an19 : Option Addr} {osl19 : Array (Option Value)} {kV19 dc19 pm19 cd19 ct19 : Value} (a19 : PySem.W.nsIn K mainGlobals "change_row" = some (some (.ref f19)))
    (l19 : K.lookup f19 = some ⟨oc19, od19, .func (PySem.W.fnOf "change_row" "change_row" (defArgs s_change_row) (defBody s_change_row) (defScope s_change_row) .none kV19 dc19 pm19 an19 cd19 ct19), osl19⟩) (c19 : PySem.W.codeIn K cd19 "change_row" = true) (k19 : PySem.W.keepIn K (.ref f19) = true)
    {f20 : Addr} {oc20 : Value} {od20 an20 : Option Addr} {osl20 : Array (Option Value)} {kV20 dc20 pm20 cd20 ct20 : Value} (a20 : PySem.W.nsIn K mainGlobals "lead_of" = some (some (.ref f20)))
    (l20 : K.lookup f20 = some ⟨oc20, od20, .func (PySem.W.fnOf "lead_of" "lead_of" (defArgs s_lead_of) (defBody s_lead_of) (defScope s_lead_of) .none kV20 dc20 pm20 an20 cd20 ct20), osl20⟩) (c20 : PySem.W.codeIn K cd20 "lead_of" = true) (k20 : PySem.W.keepIn K (.ref f20) = true)
    {f21 : Addr} {oc21 : Value} {od21 an21 : Option Addr} {osl21 : Array (Option Value)} {kV21 dc21 pm21 cd21 ct21 : Value} (a21 : PySem.W.nsIn K mainGlobals "turns_of" = some (some (.ref f21)))
    (l21 : K.lookup f21 = some ⟨oc21, od21, .func (PySem.W.fnOf "turns_of" "turns_of" (defArgs s_turns_of) (defBody s_turns_of) (defScope s_turns_of) .none kV21 dc21 pm21 an21 cd21 ct21), osl21⟩) (c21 : PySem.W.codeIn K cd21 "turns_of" = true) (k21 : PySem.W.keepIn K (.ref f21) = true)
    {f22 : Addr} {oc22 : Value} {od22 an22 : Option Addr} {osl22 : Array (Option Value)} {kV22 dc22 pm22 cd22 ct22 : Value} (a22 : PySem.W.nsIn K mainGlobals "all_turns_of" = some (some (.ref f22)))
    (l22 : K.lookup f22 = some ⟨oc22, od22, .func (PySem.W.fnOf "all_turns_of" "all_turns_of" (defArgs s_all_turns_of) (defBody s_all_turns_of) (defScope s_all_turns_of) .none kV22 dc22 pm22 an22 cd22 ct22), osl22⟩) (c22 : PySem.W.codeIn K cd22 "all_turns_of" = true) (k22 : PySem.W.keepIn K (.ref f22) = true)
    {f23 : Addr} {oc23 : Value} {od23 an23 : Option Addr} {osl23 : Array (Option Value)} {kV23 dc23 pm23 cd23 ct23 : Value} (a23 : PySem.W.nsIn K mainGlobals "spliced_heads_of" = some (some (.ref f23)))
    (l23 : K.lookup f23 = some ⟨oc23, od23, .func (PySem.W.fnOf "spliced_heads_of" "spliced_heads_of" (defArgs s_spliced_heads_of) (defBody s_spliced_heads_of) (defScope s_spliced_heads_of) .none kV23 dc23 pm23 an23 cd23 ct23), osl23⟩) (c23 : PySem.W.codeIn K cd23 "spliced_heads_of" = true) (k23 : PySem.W.keepIn K (.ref f23) = true)
    {f24 : Addr} {oc24 : Value} {od24 an24 : Option Addr} {osl24 : Array (Option Value)} {kV24 dc24 pm24 cd24 ct24 : Value} (a24 : PySem.W.nsIn K mainGlobals "is_lead_true" = some (some (.ref f24)))
    (l24 : K.lookup f24 = some ⟨oc24, od24, .func (PySem.W.fnOf "is_lead_true" "is_lead_true" (defArgs s_is_lead_true) (defBody s_is_lead_true) (defScope s_is_lead_true) .none kV24 dc24 pm24 an24 cd24 ct24), osl24⟩) (c24 : PySem.W.codeIn K cd24 "is_lead_true" = true) (k24 : PySem.W.keepIn K (.ref f24) = true)
    {f25 : Addr} {oc25 : Value} {od25 an25 : Option Addr} {osl25 : Array (Option Value)} {kV25 dc25 pm25 cd25 ct25 : Value} (a25 : PySem.W.nsIn K mainGlobals "inverse_of" = some (some (.ref f25)))
    (l25 : K.lookup f25 = some ⟨oc25, od25, .func (PySem.W.fnOf "inverse_of" "inverse_of" (defArgs s_inverse_of) (defBody s_inverse_of) (defScope s_inverse_of) .none kV25 dc25 pm25 an25 cd25 ct25), osl25⟩) (c25 : PySem.W.codeIn K cd25 "inverse_of" = true) (k25 : PySem.W.keepIn K (.ref f25) = true)
    {f26 : Addr} {oc26 : Value} {od26 an26 : Option Addr} {osl26 : Array (Option Value)} {kV26 dc26 pm26 cd26 ct26 : Value} (a26 : PySem.W.nsIn K mainGlobals "between_of" = some (some (.ref f26)))
    (l26 : K.lookup f26 = some ⟨oc26, od26, .func (PySem.W.fnOf "between_of" "between_of" (defArgs s_between_of) (defBody s_between_of) (defScope s_between_of) .none kV26 dc26 pm26 an26 cd26 ct26), osl26⟩) (c26 : PySem.W.codeIn K cd26 "between_of" = true) (k26 : PySem.W.keepIn K (.ref f26) = true)
    {f27 : Addr} {oc27 : Value} {od27 an27 : Option Addr} {osl27 : Array (Option Value)} {kV27 dc27 pm27 cd27 ct27 : Value} (a27 : PySem.W.nsIn K mainGlobals "all_between" = some (some (.ref f27)))
    (l27 : K.lookup f27 = some ⟨oc27, od27, .func (PySem.W.fnOf "all_between" "all_between" (defArgs s_all_between) (defBody s_all_between) (defScope s_all_between) .none kV27 dc27 pm27 an27 cd27 ct27), osl27⟩) (c27 : PySem.W.codeIn K cd27 "all_between" = true) (k27 : PySem.W.keepIn K (.ref f27) = true)
    {f28 : Addr} {oc28 : Value} {od28 an28 : Option Addr} {osl28 : Array (Option Value)} {kV28 dc28 pm28 cd28 ct28 : Value} (a28 : PySem.W.nsIn K mainGlobals "is_apart" = some (some (.ref f28)))
    (l28 : K.lookup f28 = some ⟨oc28, od28, .func (PySem.W.fnOf "is_apart" "is_apart" (defArgs s_is_apart) (defBody s_is_apart) (defScope s_is_apart) .none kV28 dc28 pm28 an28 cd28 ct28), osl28⟩) (c28 : PySem.W.codeIn K cd28 "is_apart" = true) (k28 : PySem.W.keepIn K (.ref f28) = true)
    {f29 : Addr} {oc29 : Value} {od29 an29 : Option Addr} {osl29 : Array (Option Value)} {kV29 dc29 pm29 cd29 ct29 : Value} (a29 : PySem.W.nsIn K mainGlobals "is_true_of" = some (some (.ref f29)))
    (l29 : K.lookup f29 = some ⟨oc29, od29, .func (PySem.W.fnOf "is_true_of" "is_true_of" (defArgs s_is_true_of) (defBody s_is_true_of) (defScope s_is_true_of) .none kV29 dc29 pm29 an29 cd29 ct29), osl29⟩) (c29 : PySem.W.codeIn K cd29 "is_true_of" = true) (k29 : PySem.W.keepIn K (.ref f29) = true)
    {f30 : Addr} {oc30 : Value} {od30 an30 : Option Addr} {osl30 : Array (Option Value)} {kV30 dc30 pm30 cd30 ct30 : Value} (a30 : PySem.W.nsIn K mainGlobals "is_spliced_true" = some (some (.ref f30)))
    (l30 : K.lookup f30 = some ⟨oc30, od30, .func (PySem.W.fnOf "is_spliced_true" "is_spliced_true" (defArgs s_is_spliced_true) (defBody s_is_spliced_true) (defScope s_is_spliced_true) .none kV30 dc30 pm30 an30 cd30 ct30), osl30⟩) (c30 : PySem.W.codeIn K cd30 "is_spliced_true" = true) (k30 : PySem.W.keepIn K (.ref f30) = true)
    {f31 : Addr} {oc31 : Value} {od31 an31 : Option Addr} {osl31 : Array (Option Value)} {kV31 dc31 pm31 cd31 ct31 : Value} (a31 : PySem.W.nsIn K mainGlobals "want_number" = some (some (.ref f31)))
    (l31 : K.lookup f31 = some ⟨oc31, od31, .func (PySem.W.fnOf "want_number" "want_number" (defArgs s_want_number) (defBody s_want_number) (defScope s_want_number) .none kV31 dc31 pm31 an31 cd31 ct31), osl31⟩) (c31 : PySem.W.codeIn K cd31 "want_number" = true) (k31 : PySem.W.keepIn K (.ref f31) = true)
    {f32 : Addr} {oc32 : Value} {od32 an32 : Option Addr} {osl32 : Array (Option Value)} {kV32 dc32 pm32 cd32 ct32 : Value} (a32 : PySem.W.nsIn K mainGlobals "stand_ins" = some (some (.ref f32)))
    (l32 : K.lookup f32 = some ⟨oc32, od32, .func (PySem.W.fnOf "stand_ins" "stand_ins" (defArgs s_stand_ins) (defBody s_stand_ins) (defScope s_stand_ins) .none kV32 dc32 pm32 an32 cd32 ct32), osl32⟩) (c32 : PySem.W.codeIn K cd32 "stand_ins" = true) (k32 : PySem.W.keepIn K (.ref f32) = true)
    {f33 : Addr} {oc33 : Value} {od33 an33 : Option Addr} {osl33 : Array (Option Value)} {kV33 dc33 pm33 cd33 ct33 : Value} (a33 : PySem.W.nsIn K mainGlobals "may_always" = some (some (.ref f33)))
    (l33 : K.lookup f33 = some ⟨oc33, od33, .func (PySem.W.fnOf "may_always" "may_always" (defArgs s_may_always) (defBody s_may_always) (defScope s_may_always) .none kV33 dc33 pm33 an33 cd33 ct33), osl33⟩) (c33 : PySem.W.codeIn K cd33 "may_always" = true) (k33 : PySem.W.keepIn K (.ref f33) = true)
    {f34 : Addr} {oc34 : Value} {od34 an34 : Option Addr} {osl34 : Array (Option Value)} {kV34 dc34 pm34 cd34 ct34 : Value} (a34 : PySem.W.nsIn K mainGlobals "_law_changed" = some (some (.ref f34)))
    (l34 : K.lookup f34 = some ⟨oc34, od34, .func (PySem.W.fnOf "_law_changed" "_law_changed" (defArgs s__law_changed) (defBody s__law_changed) (defScope s__law_changed) .none kV34 dc34 pm34 an34 cd34 ct34), osl34⟩) (c34 : PySem.W.codeIn K cd34 "_law_changed" = true) (k34 : PySem.W.keepIn K (.ref f34) = true)
    {f35 : Addr} {oc35 : Value} {od35 an35 : Option Addr} {osl35 : Array (Option Value)} {kV35 dc35 pm35 cd35 ct35 : Value} (a35 : PySem.W.nsIn K mainGlobals "_law_lead" = some (some (.ref f35)))
    (l35 : K.lookup f35 = some ⟨oc35, od35, .func (PySem.W.fnOf "_law_lead" "_law_lead" (defArgs s__law_lead) (defBody s__law_lead) (defScope s__law_lead) .none kV35 dc35 pm35 an35 cd35 ct35), osl35⟩) (c35 : PySem.W.codeIn K cd35 "_law_lead" = true) (k35 : PySem.W.keepIn K (.ref f35) = true)
    {f36 : Addr} {oc36 : Value} {od36 an36 : Option Addr} {osl36 : Array (Option Value)} {kV36 dc36 pm36 cd36 ct36 : Value} (a36 : PySem.W.nsIn K mainGlobals "_law_pick" = some (some (.ref f36)))
    (l36 : K.lookup f36 = some ⟨oc36, od36, .func (PySem.W.fnOf "_law_pick" "_law_pick" (defArgs s__law_pick) (defBody s__law_pick) (defScope s__law_pick) .none kV36 dc36 pm36 an36 cd36 ct36), osl36⟩) (c36 : PySem.W.codeIn K cd36 "_law_pick" = true) (k36 : PySem.W.keepIn K (.ref f36) = true)
    {f37 : Addr} {oc37 : Value} {od37 an37 : Option Addr} {osl37 : Array (Option Value)} {kV37 dc37 pm37 cd37 ct37 : Value} (a37 : PySem.W.nsIn K mainGlobals "_law_mixed" = some (some (.ref f37)))
    (l37 : K.lookup f37 = some ⟨oc37, od37, .func (PySem.W.fnOf "_law_mixed" "_law_mixed" (defArgs s__law_mixed) (defBody s__law_mixed) (defScope s__law_mixed) .none kV37 dc37 pm37 an37 cd37 ct37), osl37⟩) (c37 : PySem.W.codeIn K cd37 "_law_mixed" = true) (k37 : PySem.W.keepIn K (.ref f37) = true)
    {f38 : Addr} {oc38 : Value} {od38 an38 : Option Addr} {osl38 : Array (Option Value)} {kV38 dc38 pm38 cd38 ct38 : Value} (a38 : PySem.W.nsIn K mainGlobals "_law_changes" = some (some (.ref f38)))
    (l38 : K.lookup f38 = some ⟨oc38, od38, .func (PySem.W.fnOf "_law_changes" "_law_changes" (defArgs s__law_changes) (defBody s__law_changes) (defScope s__law_changes) .none kV38 dc38 pm38 an38 cd38 ct38), osl38⟩) (c38 : PySem.W.codeIn K cd38 "_law_changes" = true) (k38 : PySem.W.keepIn K (.ref f38) = true)
    {f39 : Addr} {oc39 : Value} {od39 an39 : Option Addr} {osl39 : Array (Option Value)} {kV39 dc39 pm39 cd39 ct39 : Value} (a39 : PySem.W.nsIn K mainGlobals "_law_splice" = some (some (.ref f39)))
    (l39 : K.lookup f39 = some ⟨oc39, od39, .func (PySem.W.fnOf "_law_splice" "_law_splice" (defArgs s__law_splice) (defBody s__law_splice) (defScope s__law_splice) .none kV39 dc39 pm39 an39 cd39 ct39), osl39⟩) (c39 : PySem.W.codeIn K cd39 "_law_splice" = true) (k39 : PySem.W.keepIn K (.ref f39) = true)
    {f40 : Addr} {oc40 : Value} {od40 an40 : Option Addr} {osl40 : Array (Option Value)} {kV40 dc40 pm40 cd40 ct40 : Value} (a40 : PySem.W.nsIn K mainGlobals "_law_touch" = some (some (.ref f40)))
    (l40 : K.lookup f40 = some ⟨oc40, od40, .func (PySem.W.fnOf "_law_touch" "_law_touch" (defArgs s__law_touch) (defBody s__law_touch) (defScope s__law_touch) .none kV40 dc40 pm40 an40 cd40 ct40), osl40⟩) (c40 : PySem.W.codeIn K cd40 "_law_touch" = true) (k40 : PySem.W.keepIn K (.ref f40) = true)
    {f41 : Addr} {oc41 : Value} {od41 an41 : Option Addr} {osl41 : Array (Option Value)} {kV41 dc41 pm41 cd41 ct41 : Value} (a41 : PySem.W.nsIn K mainGlobals "_law_rung" = some (some (.ref f41)))
    (l41 : K.lookup f41 = some ⟨oc41, od41, .func (PySem.W.fnOf "_law_rung" "_law_rung" (defArgs s__law_rung) (defBody s__law_rung) (defScope s__law_rung) .none kV41 dc41 pm41 an41 cd41 ct41), osl41⟩) (c41 : PySem.W.codeIn K cd41 "_law_rung" = true) (k41 : PySem.W.keepIn K (.ref f41) = true)
    {f42 : Addr} {oc42 : Value} {od42 an42 : Option Addr} {osl42 : Array (Option Value)} {kV42 dc42 pm42 cd42 ct42 : Value} (a42 : PySem.W.nsIn K mainGlobals "_law_is_true" = some (some (.ref f42)))
    (l42 : K.lookup f42 = some ⟨oc42, od42, .func (PySem.W.fnOf "_law_is_true" "_law_is_true" (defArgs s__law_is_true) (defBody s__law_is_true) (defScope s__law_is_true) .none kV42 dc42 pm42 an42 cd42 ct42), osl42⟩) (c42 : PySem.W.codeIn K cd42 "_law_is_true" = true) (k42 : PySem.W.keepIn K (.ref f42) = true)
    {f43 : Addr} {oc43 : Value} {od43 an43 : Option Addr} {osl43 : Array (Option Value)} {kV43 dc43 pm43 cd43 ct43 : Value} (a43 : PySem.W.nsIn K mainGlobals "_law_near" = some (some (.ref f43)))
    (l43 : K.lookup f43 = some ⟨oc43, od43, .func (PySem.W.fnOf "_law_near" "_law_near" (defArgs s__law_near) (defBody s__law_near) (defScope s__law_near) .none kV43 dc43 pm43 an43 cd43 ct43), osl43⟩) (c43 : PySem.W.codeIn K cd43 "_law_near" = true) (k43 : PySem.W.keepIn K (.ref f43) = true)
    {f44 : Addr} {oc44 : Value} {od44 an44 : Option Addr} {osl44 : Array (Option Value)} {kV44 dc44 pm44 cd44 ct44 : Value} (a44 : PySem.W.nsIn K mainGlobals "_law_right" = some (some (.ref f44)))
    (l44 : K.lookup f44 = some ⟨oc44, od44, .func (PySem.W.fnOf "_law_right" "_law_right" (defArgs s__law_right) (defBody s__law_right) (defScope s__law_right) .none kV44 dc44 pm44 an44 cd44 ct44), osl44⟩) (c44 : PySem.W.codeIn K cd44 "_law_right" = true) (k44 : PySem.W.keepIn K (.ref f44) = true)
    {f45 : Addr} {oc45 : Value} {od45 an45 : Option Addr} {osl45 : Array (Option Value)} {kV45 dc45 pm45 cd45 ct45 : Value} (a45 : PySem.W.nsIn K mainGlobals "law" = some (some (.ref f45)))
    (l45 : K.lookup f45 = some ⟨oc45, od45, .func (PySem.W.fnOf "law" "law" (defArgs s_law) (defBody s_law) (defScope s_law) .none kV45 dc45 pm45 an45 cd45 ct45), osl45⟩) (c45 : PySem.W.codeIn K cd45 "law" = true) (k45 : PySem.W.keepIn K (.ref f45) = true)
    (n_abs : PySem.W.nsIn K mainGlobals "abs" = some none)
    (n_all : PySem.W.nsIn K mainGlobals "all" = some none)
    (n_any : PySem.W.nsIn K mainGlobals "any" = some none)
    (n_bool : PySem.W.nsIn K mainGlobals "bool" = some none)
    (n_dict : PySem.W.nsIn K mainGlobals "dict" = some none)
    (n_divmod : PySem.W.nsIn K mainGlobals "divmod" = some none)
    (n_enumerate : PySem.W.nsIn K mainGlobals "enumerate" = some none)
    (n_int : PySem.W.nsIn K mainGlobals "int" = some none)
    (n_isinstance : PySem.W.nsIn K mainGlobals "isinstance" = some none)
    (n_len : PySem.W.nsIn K mainGlobals "len" = some none)
    (n_list : PySem.W.nsIn K mainGlobals "list" = some none)
    (n_max : PySem.W.nsIn K mainGlobals "max" = some none)
    (n_range : PySem.W.nsIn K mainGlobals "range" = some none)
    (n_repr : PySem.W.nsIn K mainGlobals "repr" = some none)
    (n_set : PySem.W.nsIn K mainGlobals "set" = some none)
    (n_sorted : PySem.W.nsIn K mainGlobals "sorted" = some none)
    (n_str : PySem.W.nsIn K mainGlobals "str" = some none)
    (n_sum : PySem.W.nsIn K mainGlobals "sum" = some none)
    (n_tuple : PySem.W.nsIn K mainGlobals "tuple" = some none)
    (n_zip : PySem.W.nsIn K mainGlobals "zip" = some none)
    {t_LEAST_BELLS : Tok} (c_LEAST_BELLS : PySem.W.nsIn K mainGlobals "LEAST_BELLS" = some (some (.int 3 t_LEAST_BELLS)))
    {t_METHOD : Tok} (c_METHOD : PySem.W.nsIn K mainGlobals "METHOD" = some (some (.str "method" t_METHOD)))
    {t_MOST_BELLS : Tok} (c_MOST_BELLS : PySem.W.nsIn K mainGlobals "MOST_BELLS" = some (some (.int 6 t_MOST_BELLS)))
    {t_MOST_CALLS : Tok} (c_MOST_CALLS : PySem.W.nsIn K mainGlobals "MOST_CALLS" = some (some (.int 3 t_MOST_CALLS)))
    {t_MOST_IN_LEAD : Tok} (c_MOST_IN_LEAD : PySem.W.nsIn K mainGlobals "MOST_IN_LEAD" = some (some (.int 40 t_MOST_IN_LEAD)))
    {t_MOST_METHODS : Tok} (c_MOST_METHODS : PySem.W.nsIn K mainGlobals "MOST_METHODS" = some (some (.int 4 t_MOST_METHODS)))
    {t_MOST_TOUCH : Tok} (c_MOST_TOUCH : PySem.W.nsIn K mainGlobals "MOST_TOUCH" = some (some (.int 800 t_MOST_TOUCH)))
    {t_SPLICE : Tok} (c_SPLICE : PySem.W.nsIn K mainGlobals "SPLICE" = some (some (.str "splice" t_SPLICE)))
    : ∃ T : TB K mg, T.f_law = f45 ∧ ∀ (s : Shared) (u : Value), BindsTo s T.d_law ⟨[u], []⟩ [("script", u)] :=
  ⟨{ f__law_pot := f0
     d__law_pot := _
     F__law_pot := (fun_mk (st := s__law_pot) l0 c0 k0)
     g__law_pot := PySem.W.mg_of X G a0
     b__law_pot := Fun.binds (fun_mk (st := s__law_pot) l0 c0 k0) (ps := ["script", "k"]) fun _ _ _ _ _ _ us hl => match us, hl with | [_, _], _ => rfl
     f__law_draw := f1
     d__law_draw := _
     F__law_draw := (fun_mk (st := s__law_draw) l1 c1 k1)
     g__law_draw := PySem.W.mg_of X G a1
     b__law_draw := Fun.binds (fun_mk (st := s__law_draw) l1 c1 k1) (ps := ["pot", "size"]) fun _ _ _ _ _ _ us hl => match us, hl with | [_, _], _ => rfl
     f_is_tuple := f2
     d_is_tuple := _
     F_is_tuple := (fun_mk (st := s_is_tuple) l2 c2 k2)
     g_is_tuple := PySem.W.mg_of X G a2
     b_is_tuple := Fun.binds (fun_mk (st := s_is_tuple) l2 c2 k2) (ps := ["value", "many"]) fun _ _ _ _ _ _ us hl => match us, hl with | [_, _], _ => rfl
     f_is_integer := f3
     d_is_integer := _
     F_is_integer := (fun_mk (st := s_is_integer) l3 c3 k3)
     g_is_integer := PySem.W.mg_of X G a3
     b_is_integer := Fun.binds (fun_mk (st := s_is_integer) l3 c3 k3) (ps := ["value"]) fun _ _ _ _ _ _ us hl => match us, hl with | [_], _ => rfl
     f_is_within := f4
     d_is_within := _
     F_is_within := (fun_mk (st := s_is_within) l4 c4 k4)
     g_is_within := PySem.W.mg_of X G a4
     b_is_within := Fun.binds (fun_mk (st := s_is_within) l4 c4 k4) (ps := ["value", "least", "most"]) fun _ _ _ _ _ _ us hl => match us, hl with | [_, _, _], _ => rfl
     f_is_bells := f5
     d_is_bells := _
     F_is_bells := (fun_mk (st := s_is_bells) l5 c5 k5)
     g_is_bells := PySem.W.mg_of X G a5
     b_is_bells := Fun.binds (fun_mk (st := s_is_bells) l5 c5 k5) (ps := ["value"]) fun _ _ _ _ _ _ us hl => match us, hl with | [_], _ => rfl
     f_are_rising := f6
     d_are_rising := _
     F_are_rising := (fun_mk (st := s_are_rising) l6 c6 k6)
     g_are_rising := PySem.W.mg_of X G a6
     b_are_rising := Fun.binds (fun_mk (st := s_are_rising) l6 c6 k6) (ps := ["values"]) fun _ _ _ _ _ _ us hl => match us, hl with | [_], _ => rfl
     f_is_lot := f7
     d_is_lot := _
     F_is_lot := (fun_mk (st := s_is_lot) l7 c7 k7)
     g_is_lot := PySem.W.mg_of X G a7
     b_is_lot := Fun.binds (fun_mk (st := s_is_lot) l7 c7 k7) (ps := ["value", "most"]) fun _ _ _ _ _ _ us hl => match us, hl with | [_, _], _ => rfl
     f_pairs_of := f8
     d_pairs_of := _
     F_pairs_of := (fun_mk (st := s_pairs_of) l8 c8 k8)
     g_pairs_of := PySem.W.mg_of X G a8
     b_pairs_of := Fun.binds (fun_mk (st := s_pairs_of) l8 c8 k8) (ps := ["bells", "change"]) fun _ _ _ _ _ _ us hl => match us, hl with | [_, _], _ => rfl
     f_is_change_of := f9
     d_is_change_of := _
     F_is_change_of := (fun_mk (st := s_is_change_of) l9 c9 k9)
     g_is_change_of := PySem.W.mg_of X G a9
     b_is_change_of := Fun.binds (fun_mk (st := s_is_change_of) l9 c9 k9) (ps := ["bells", "value"]) fun _ _ _ _ _ _ us hl => match us, hl with | [_, _], _ => rfl
     f_is_method_any := f10
     d_is_method_any := _
     F_is_method_any := (fun_mk (st := s_is_method_any) l10 c10 k10)
     g_is_method_any := PySem.W.mg_of X G a10
     b_is_method_any := Fun.binds (fun_mk (st := s_is_method_any) l10 c10 k10) (ps := ["value"]) fun _ _ _ _ _ _ us hl => match us, hl with | [_], _ => rfl
     f_is_splice_any := f11
     d_is_splice_any := _
     F_is_splice_any := (fun_mk (st := s_is_splice_any) l11 c11 k11)
     g_is_splice_any := PySem.W.mg_of X G a11
     b_is_splice_any := Fun.binds (fun_mk (st := s_is_splice_any) l11 c11 k11) (ps := ["value"]) fun _ _ _ _ _ _ us hl => match us, hl with | [_], _ => rfl
     f_want_splice := f12
     d_want_splice := _
     F_want_splice := (fun_mk (st := s_want_splice) l12 c12 k12)
     g_want_splice := PySem.W.mg_of X G a12
     b_want_splice := Fun.binds (fun_mk (st := s_want_splice) l12 c12 k12) (ps := ["splice"]) fun _ _ _ _ _ _ us hl => match us, hl with | [_], _ => rfl
     f_is_list := f13
     d_is_list := _
     F_is_list := (fun_mk (st := s_is_list) l13 c13 k13)
     g_is_list := PySem.W.mg_of X G a13
     b_is_list := Fun.binds (fun_mk (st := s_is_list) l13 c13 k13) (ps := ["value"]) fun _ _ _ _ _ _ us hl => match us, hl with | [_], _ => rfl
     f_is_lead_any := f14
     d_is_lead_any := _
     F_is_lead_any := (fun_mk (st := s_is_lead_any) l14 c14 k14)
     g_is_lead_any := PySem.W.mg_of X G a14
     b_is_lead_any := Fun.binds (fun_mk (st := s_is_lead_any) l14 c14 k14) (ps := ["splice", "value"]) fun _ _ _ _ _ _ us hl => match us, hl with | [_, _], _ => rfl
     f_is_spliced_any := f15
     d_is_spliced_any := _
     F_is_spliced_any := (fun_mk (st := s_is_spliced_any) l15 c15 k15)
     g_is_spliced_any := PySem.W.mg_of X G a15
     b_is_spliced_any := Fun.binds (fun_mk (st := s_is_spliced_any) l15 c15 k15) (ps := ["splice", "value"]) fun _ _ _ _ _ _ us hl => match us, hl with | [_, _], _ => rfl
     f_want_spliced := f16
     d_want_spliced := _
     F_want_spliced := (fun_mk (st := s_want_spliced) l16 c16 k16)
     g_want_spliced := PySem.W.mg_of X G a16
     b_want_spliced := Fun.binds (fun_mk (st := s_want_spliced) l16 c16 k16) (ps := ["splice", "touch"]) fun _ _ _ _ _ _ us hl => match us, hl with | [_, _], _ => rfl
     f_rounds_of := f17
     d_rounds_of := _
     F_rounds_of := (fun_mk (st := s_rounds_of) l17 c17 k17)
     g_rounds_of := PySem.W.mg_of X G a17
     b_rounds_of := Fun.binds (fun_mk (st := s_rounds_of) l17 c17 k17) (ps := ["bells"]) fun _ _ _ _ _ _ us hl => match us, hl with | [_], _ => rfl
     f_times := f18
     d_times := _
     F_times := (fun_mk (st := s_times) l18 c18 k18)
     g_times := PySem.W.mg_of X G a18
     b_times := Fun.binds (fun_mk (st := s_times) l18 c18 k18) (ps := ["row", "other"]) fun _ _ _ _ _ _ us hl => match us, hl with | [_, _], _ => rfl
     f_change_row := f19
     d_change_row := _
     F_change_row := (fun_mk (st := s_change_row) l19 c19 k19)
     g_change_row := PySem.W.mg_of X G a19
     b_change_row := Fun.binds (fun_mk (st := s_change_row) l19 c19 k19) (ps := ["bells", "change"]) fun _ _ _ _ _ _ us hl => match us, hl with | [_, _], _ => rfl
     f_lead_of := f20
     d_lead_of := _
     F_lead_of := (fun_mk (st := s_lead_of) l20 c20 k20)
     g_lead_of := PySem.W.mg_of X G a20
     b_lead_of := Fun.binds (fun_mk (st := s_lead_of) l20 c20 k20) (ps := ["method"]) fun _ _ _ _ _ _ us hl => match us, hl with | [_], _ => rfl
     f_turns_of := f21
     d_turns_of := _
     F_turns_of := (fun_mk (st := s_turns_of) l21 c21 k21)
     g_turns_of := PySem.W.mg_of X G a21
     b_turns_of := Fun.binds (fun_mk (st := s_turns_of) l21 c21 k21) (ps := ["method"]) fun _ _ _ _ _ _ us hl => match us, hl with | [_], _ => rfl
     f_all_turns_of := f22
     d_all_turns_of := _
     F_all_turns_of := (fun_mk (st := s_all_turns_of) l22 c22 k22)
     g_all_turns_of := PySem.W.mg_of X G a22
     b_all_turns_of := Fun.binds (fun_mk (st := s_all_turns_of) l22 c22 k22) (ps := ["splice"]) fun _ _ _ _ _ _ us hl => match us, hl with | [_], _ => rfl
     f_spliced_heads_of := f23
     d_spliced_heads_of := _
     F_spliced_heads_of := (fun_mk (st := s_spliced_heads_of) l23 c23 k23)
     g_spliced_heads_of := PySem.W.mg_of X G a23
     b_spliced_heads_of := Fun.binds (fun_mk (st := s_spliced_heads_of) l23 c23 k23) (ps := ["splice", "touch"]) fun _ _ _ _ _ _ us hl => match us, hl with | [_, _], _ => rfl
     f_is_lead_true := f24
     d_is_lead_true := _
     F_is_lead_true := (fun_mk (st := s_is_lead_true) l24 c24 k24)
     g_is_lead_true := PySem.W.mg_of X G a24
     b_is_lead_true := Fun.binds (fun_mk (st := s_is_lead_true) l24 c24 k24) (ps := ["method"]) fun _ _ _ _ _ _ us hl => match us, hl with | [_], _ => rfl
     f_inverse_of := f25
     d_inverse_of := _
     F_inverse_of := (fun_mk (st := s_inverse_of) l25 c25 k25)
     g_inverse_of := PySem.W.mg_of X G a25
     b_inverse_of := Fun.binds (fun_mk (st := s_inverse_of) l25 c25 k25) (ps := ["row"]) fun _ _ _ _ _ _ us hl => match us, hl with | [_], _ => rfl
     f_between_of := f26
     d_between_of := _
     F_between_of := (fun_mk (st := s_between_of) l26 c26 k26)
     g_between_of := PySem.W.mg_of X G a26
     b_between_of := Fun.binds (fun_mk (st := s_between_of) l26 c26 k26) (ps := ["method", "other"]) fun _ _ _ _ _ _ us hl => match us, hl with | [_, _], _ => rfl
     f_all_between := f27
     d_all_between := _
     F_all_between := (fun_mk (st := s_all_between) l27 c27 k27)
     g_all_between := PySem.W.mg_of X G a27
     b_all_between := Fun.binds (fun_mk (st := s_all_between) l27 c27 k27) (ps := ["splice"]) fun _ _ _ _ _ _ us hl => match us, hl with | [_], _ => rfl
     f_is_apart := f28
     d_is_apart := _
     F_is_apart := (fun_mk (st := s_is_apart) l28 c28 k28)
     g_is_apart := PySem.W.mg_of X G a28
     b_is_apart := Fun.binds (fun_mk (st := s_is_apart) l28 c28 k28) (ps := ["between", "head", "number", "heads", "numbers"]) fun _ _ _ _ _ _ us hl => match us, hl with | [_, _, _, _, _], _ => rfl
     f_is_true_of := f29
     d_is_true_of := _
     F_is_true_of := (fun_mk (st := s_is_true_of) l29 c29 k29)
     g_is_true_of := PySem.W.mg_of X G a29
     b_is_true_of := Fun.binds (fun_mk (st := s_is_true_of) l29 c29 k29) (ps := ["splice", "touch", "heads"]) fun _ _ _ _ _ _ us hl => match us, hl with | [_, _, _], _ => rfl
     f_is_spliced_true := f30
     d_is_spliced_true := _
     F_is_spliced_true := (fun_mk (st := s_is_spliced_true) l30 c30 k30)
     g_is_spliced_true := PySem.W.mg_of X G a30
     b_is_spliced_true := Fun.binds (fun_mk (st := s_is_spliced_true) l30 c30 k30) (ps := ["splice", "touch"]) fun _ _ _ _ _ _ us hl => match us, hl with | [_, _], _ => rfl
     f_want_number := f31
     d_want_number := _
     F_want_number := (fun_mk (st := s_want_number) l31 c31 k31)
     g_want_number := PySem.W.mg_of X G a31
     b_want_number := Fun.binds (fun_mk (st := s_want_number) l31 c31 k31) (ps := ["splice", "number"]) fun _ _ _ _ _ _ us hl => match us, hl with | [_, _], _ => rfl
     f_stand_ins := f32
     d_stand_ins := _
     F_stand_ins := (fun_mk (st := s_stand_ins) l32 c32 k32)
     g_stand_ins := PySem.W.mg_of X G a32
     b_stand_ins := Fun.binds (fun_mk (st := s_stand_ins) l32 c32 k32) (ps := ["splice", "touch", "number"]) fun _ _ _ _ _ _ us hl => match us, hl with | [_, _, _], _ => rfl
     k0_stand_ins := fun_bindsK (fun_mk (st := s_stand_ins) l32 c32 k32) (ps := ["splice", "touch", "number"]) (ks := ["number", "touch", "splice"]) (perm := [2, 1, 0]) fun _ _ _ _ _ _ us hl => match us, hl with | [_, _, _], _ => rfl
     f_may_always := f33
     d_may_always := _
     F_may_always := (fun_mk (st := s_may_always) l33 c33 k33)
     g_may_always := PySem.W.mg_of X G a33
     b_may_always := Fun.binds (fun_mk (st := s_may_always) l33 c33 k33) (ps := ["splice", "number", "other"]) fun _ _ _ _ _ _ us hl => match us, hl with | [_, _, _], _ => rfl
     k0_may_always := fun_bindsK (fun_mk (st := s_may_always) l33 c33 k33) (ps := ["splice", "number", "other"]) (ks := ["other", "number", "splice"]) (perm := [2, 1, 0]) fun _ _ _ _ _ _ us hl => match us, hl with | [_, _, _], _ => rfl
     f__law_changed := f34
     d__law_changed := _
     F__law_changed := (fun_mk (st := s__law_changed) l34 c34 k34)
     g__law_changed := PySem.W.mg_of X G a34
     b__law_changed := Fun.binds (fun_mk (st := s__law_changed) l34 c34 k34) (ps := ["row", "change"]) fun _ _ _ _ _ _ us hl => match us, hl with | [_, _], _ => rfl
     f__law_lead := f35
     d__law_lead := _
     F__law_lead := (fun_mk (st := s__law_lead) l35 c35 k35)
     g__law_lead := PySem.W.mg_of X G a35
     b__law_lead := Fun.binds (fun_mk (st := s__law_lead) l35 c35 k35) (ps := ["method", "head", "call"]) fun _ _ _ _ _ _ us hl => match us, hl with | [_, _, _], _ => rfl
     f__law_pick := f36
     d__law_pick := _
     F__law_pick := (fun_mk (st := s__law_pick) l36 c36 k36)
     g__law_pick := PySem.W.mg_of X G a36
     b__law_pick := Fun.binds (fun_mk (st := s__law_pick) l36 c36 k36) (ps := ["pot", "some"]) fun _ _ _ _ _ _ us hl => match us, hl with | [_, _], _ => rfl
     f__law_mixed := f37
     d__law_mixed := _
     F__law_mixed := (fun_mk (st := s__law_mixed) l37 c37 k37)
     g__law_mixed := PySem.W.mg_of X G a37
     b__law_mixed := Fun.binds (fun_mk (st := s__law_mixed) l37 c37 k37) (ps := ["pot", "some"]) fun _ _ _ _ _ _ us hl => match us, hl with | [_, _], _ => rfl
     f__law_changes := f38
     d__law_changes := _
     F__law_changes := (fun_mk (st := s__law_changes) l38 c38 k38)
     g__law_changes := PySem.W.mg_of X G a38
     b__law_changes := Fun.binds (fun_mk (st := s__law_changes) l38 c38 k38) (ps := ["bells"]) fun _ _ _ _ _ _ us hl => match us, hl with | [_], _ => rfl
     f__law_splice := f39
     d__law_splice := _
     F__law_splice := (fun_mk (st := s__law_splice) l39 c39 k39)
     g__law_splice := PySem.W.mg_of X G a39
     b__law_splice := Fun.binds (fun_mk (st := s__law_splice) l39 c39 k39) (ps := ["pot", "bells", "most", "long"]) fun _ _ _ _ _ _ us hl => match us, hl with | [_, _, _, _], _ => rfl
     f__law_touch := f40
     d__law_touch := _
     F__law_touch := (fun_mk (st := s__law_touch) l40 c40 k40)
     g__law_touch := PySem.W.mg_of X G a40
     b__law_touch := Fun.binds (fun_mk (st := s__law_touch) l40 c40 k40) (ps := ["pot", "splice", "most"]) fun _ _ _ _ _ _ us hl => match us, hl with | [_, _, _], _ => rfl
     f__law_rung := f41
     d__law_rung := _
     F__law_rung := (fun_mk (st := s__law_rung) l41 c41 k41)
     g__law_rung := PySem.W.mg_of X G a41
     b__law_rung := Fun.binds (fun_mk (st := s__law_rung) l41 c41 k41) (ps := ["splice", "touch"]) fun _ _ _ _ _ _ us hl => match us, hl with | [_, _], _ => rfl
     f__law_is_true := f42
     d__law_is_true := _
     F__law_is_true := (fun_mk (st := s__law_is_true) l42 c42 k42)
     g__law_is_true := PySem.W.mg_of X G a42
     b__law_is_true := Fun.binds (fun_mk (st := s__law_is_true) l42 c42 k42) (ps := ["rows"]) fun _ _ _ _ _ _ us hl => match us, hl with | [_], _ => rfl
     f__law_near := f43
     d__law_near := _
     F__law_near := (fun_mk (st := s__law_near) l43 c43 k43)
     g__law_near := PySem.W.mg_of X G a43
     b__law_near := Fun.binds (fun_mk (st := s__law_near) l43 c43 k43) (ps := ["pot", "method"]) fun _ _ _ _ _ _ us hl => match us, hl with | [_, _], _ => rfl
     f__law_right := f44
     d__law_right := _
     F__law_right := (fun_mk (st := s__law_right) l44 c44 k44)
     g__law_right := PySem.W.mg_of X G a44
     b__law_right := Fun.binds (fun_mk (st := s__law_right) l44 c44 k44) (ps := ["pot", "bells"]) fun _ _ _ _ _ _ us hl => match us, hl with | [_, _], _ => rfl
     f_law := f45
     d_law := _
     F_law := (fun_mk (st := s_law) l45 c45 k45)
     g_law := PySem.W.mg_of X G a45
     b_law := Fun.binds (fun_mk (st := s_law) l45 c45 k45) (ps := ["script"]) fun _ _ _ _ _ _ us hl => match us, hl with | [_], _ => rfl
     n_abs := PySem.W.mg_none_of X G n_abs
     n_all := PySem.W.mg_none_of X G n_all
     n_any := PySem.W.mg_none_of X G n_any
     n_bool := PySem.W.mg_none_of X G n_bool
     n_dict := PySem.W.mg_none_of X G n_dict
     n_divmod := PySem.W.mg_none_of X G n_divmod
     n_enumerate := PySem.W.mg_none_of X G n_enumerate
     n_int := PySem.W.mg_none_of X G n_int
     n_isinstance := PySem.W.mg_none_of X G n_isinstance
     n_len := PySem.W.mg_none_of X G n_len
     n_list := PySem.W.mg_none_of X G n_list
     n_max := PySem.W.mg_none_of X G n_max
     n_range := PySem.W.mg_none_of X G n_range
     n_repr := PySem.W.mg_none_of X G n_repr
     n_set := PySem.W.mg_none_of X G n_set
     n_sorted := PySem.W.mg_none_of X G n_sorted
     n_str := PySem.W.mg_none_of X G n_str
     n_sum := PySem.W.mg_none_of X G n_sum
     n_tuple := PySem.W.mg_none_of X G n_tuple
     n_zip := PySem.W.mg_none_of X G n_zip
     t_LEAST_BELLS := t_LEAST_BELLS
     c_LEAST_BELLS := PySem.W.mg_of X G c_LEAST_BELLS
     t_METHOD := t_METHOD
     c_METHOD := PySem.W.mg_of X G c_METHOD
     t_MOST_BELLS := t_MOST_BELLS
     c_MOST_BELLS := PySem.W.mg_of X G c_MOST_BELLS
     t_MOST_CALLS := t_MOST_CALLS
     c_MOST_CALLS := PySem.W.mg_of X G c_MOST_CALLS
     t_MOST_IN_LEAD := t_MOST_IN_LEAD
     c_MOST_IN_LEAD := PySem.W.mg_of X G c_MOST_IN_LEAD
     t_MOST_METHODS := t_MOST_METHODS
     c_MOST_METHODS := PySem.W.mg_of X G c_MOST_METHODS
     t_MOST_TOUCH := t_MOST_TOUCH
     c_MOST_TOUCH := PySem.W.mg_of X G c_MOST_TOUCH
     t_SPLICE := t_SPLICE
     c_SPLICE := PySem.W.mg_of X G c_SPLICE }, rfl, fun s u => .of_eq rfl⟩
theorem fin_mk {P : Program} {w : World} {K : PySem.W.Frag} {mg : Str → Option Value} {fa : Addr} {h : Heap} (X : K.In h) (G : h.Ns mainGlobals mg) (hmg : mg "law" = some (.ref fa))
    {f0 : Addr} {oc0 : Value} {od0 an0 : Option Addr} {osl0 : Array (Option Value)} {kV0 dc0 pm0 cd0 ct0 : Value} (a0 : PySem.W.nsIn K mainGlobals "_law_pot" = some (some (.ref f0)))
    (l0 : K.lookup f0 = some ⟨oc0, od0, .func (PySem.W.fnOf "_law_pot" "_law_pot" (defArgs s__law_pot) (defBody s__law_pot) (defScope s__law_pot) .none kV0 dc0 pm0 an0 cd0 ct0), osl0⟩) (c0 : PySem.W.codeIn K cd0 "_law_pot" = true) (k0 : PySem.W.keepIn K (.ref f0) = true)
    {f1 : Addr} {oc1 : Value} {od1 an1 : Option Addr} {osl1 : Array (Option Value)} {kV1 dc1 pm1 cd1 ct1 : Value} (a1 : PySem.W.nsIn K mainGlobals "_law_draw" = some (some (.ref f1)))
    (l1 : K.lookup f1 = some ⟨oc1, od1, .func (PySem.W.fnOf "_law_draw" "_law_draw" (defArgs s__law_draw) (defBody s__law_draw) (defScope s__law_draw) .none kV1 dc1 pm1 an1 cd1 ct1), osl1⟩) (c1 : PySem.W.codeIn K cd1 "_law_draw" = true) (k1 : PySem.W.keepIn K (.ref f1) = true)
    {f2 : Addr} {oc2 : Value} {od2 an2 : Option Addr} {osl2 : Array (Option Value)} {kV2 dc2 pm2 cd2 ct2 : Value} (a2 : PySem.W.nsIn K mainGlobals "is_tuple" = some (some (.ref f2)))
    (l2 : K.lookup f2 = some ⟨oc2, od2, .func (PySem.W.fnOf "is_tuple" "is_tuple" (defArgs s_is_tuple) (defBody s_is_tuple) (defScope s_is_tuple) .none kV2 dc2 pm2 an2 cd2 ct2), osl2⟩) (c2 : PySem.W.codeIn K cd2 "is_tuple" = true) (k2 : PySem.W.keepIn K (.ref f2) = true)
    {f3 : Addr} {oc3 : Value} {od3 an3 : Option Addr} {osl3 : Array (Option Value)} {kV3 dc3 pm3 cd3 ct3 : Value} (a3 : PySem.W.nsIn K mainGlobals "is_integer" = some (some (.ref f3)))
    (l3 : K.lookup f3 = some ⟨oc3, od3, .func (PySem.W.fnOf "is_integer" "is_integer" (defArgs s_is_integer) (defBody s_is_integer) (defScope s_is_integer) .none kV3 dc3 pm3 an3 cd3 ct3), osl3⟩) (c3 : PySem.W.codeIn K cd3 "is_integer" = true) (k3 : PySem.W.keepIn K (.ref f3) = true)
    {f4 : Addr} {oc4 : Value} {od4 an4 : Option Addr} {osl4 : Array (Option Value)} {kV4 dc4 pm4 cd4 ct4 : Value} (a4 : PySem.W.nsIn K mainGlobals "is_within" = some (some (.ref f4)))
    (l4 : K.lookup f4 = some ⟨oc4, od4, .func (PySem.W.fnOf "is_within" "is_within" (defArgs s_is_within) (defBody s_is_within) (defScope s_is_within) .none kV4 dc4 pm4 an4 cd4 ct4), osl4⟩) (c4 : PySem.W.codeIn K cd4 "is_within" = true) (k4 : PySem.W.keepIn K (.ref f4) = true)
    {f5 : Addr} {oc5 : Value} {od5 an5 : Option Addr} {osl5 : Array (Option Value)} {kV5 dc5 pm5 cd5 ct5 : Value} (a5 : PySem.W.nsIn K mainGlobals "is_bells" = some (some (.ref f5)))
    (l5 : K.lookup f5 = some ⟨oc5, od5, .func (PySem.W.fnOf "is_bells" "is_bells" (defArgs s_is_bells) (defBody s_is_bells) (defScope s_is_bells) .none kV5 dc5 pm5 an5 cd5 ct5), osl5⟩) (c5 : PySem.W.codeIn K cd5 "is_bells" = true) (k5 : PySem.W.keepIn K (.ref f5) = true)
    {f6 : Addr} {oc6 : Value} {od6 an6 : Option Addr} {osl6 : Array (Option Value)} {kV6 dc6 pm6 cd6 ct6 : Value} (a6 : PySem.W.nsIn K mainGlobals "are_rising" = some (some (.ref f6)))
    (l6 : K.lookup f6 = some ⟨oc6, od6, .func (PySem.W.fnOf "are_rising" "are_rising" (defArgs s_are_rising) (defBody s_are_rising) (defScope s_are_rising) .none kV6 dc6 pm6 an6 cd6 ct6), osl6⟩) (c6 : PySem.W.codeIn K cd6 "are_rising" = true) (k6 : PySem.W.keepIn K (.ref f6) = true)
    {f7 : Addr} {oc7 : Value} {od7 an7 : Option Addr} {osl7 : Array (Option Value)} {kV7 dc7 pm7 cd7 ct7 : Value} (a7 : PySem.W.nsIn K mainGlobals "is_lot" = some (some (.ref f7)))
    (l7 : K.lookup f7 = some ⟨oc7, od7, .func (PySem.W.fnOf "is_lot" "is_lot" (defArgs s_is_lot) (defBody s_is_lot) (defScope s_is_lot) .none kV7 dc7 pm7 an7 cd7 ct7), osl7⟩) (c7 : PySem.W.codeIn K cd7 "is_lot" = true) (k7 : PySem.W.keepIn K (.ref f7) = true)
    {f8 : Addr} {oc8 : Value} {od8 an8 : Option Addr} {osl8 : Array (Option Value)} {kV8 dc8 pm8 cd8 ct8 : Value} (a8 : PySem.W.nsIn K mainGlobals "pairs_of" = some (some (.ref f8)))
    (l8 : K.lookup f8 = some ⟨oc8, od8, .func (PySem.W.fnOf "pairs_of" "pairs_of" (defArgs s_pairs_of) (defBody s_pairs_of) (defScope s_pairs_of) .none kV8 dc8 pm8 an8 cd8 ct8), osl8⟩) (c8 : PySem.W.codeIn K cd8 "pairs_of" = true) (k8 : PySem.W.keepIn K (.ref f8) = true)
    {f9 : Addr} {oc9 : Value} {od9 an9 : Option Addr} {osl9 : Array (Option Value)} {kV9 dc9 pm9 cd9 ct9 : Value} (a9 : PySem.W.nsIn K mainGlobals "is_change_of" = some (some (.ref f9)))
    (l9 : K.lookup f9 = some ⟨oc9, od9, .func (PySem.W.fnOf "is_change_of" "is_change_of" (defArgs s_is_change_of) (defBody s_is_change_of) (defScope s_is_change_of) .none kV9 dc9 pm9 an9 cd9 ct9), osl9⟩) (c9 : PySem.W.codeIn K cd9 "is_change_of" = true) (k9 : PySem.W.keepIn K (.ref f9) = true)
    {f10 : Addr} {oc10 : Value} {od10 an10 : Option Addr} {osl10 : Array (Option Value)} {kV10 dc10 pm10 cd10 ct10 : Value} (a10 : PySem.W.nsIn K mainGlobals "is_method_any" = some (some (.ref f10)))
    (l10 : K.lookup f10 = some ⟨oc10, od10, .func (PySem.W.fnOf "is_method_any" "is_method_any" (defArgs s_is_method_any) (defBody s_is_method_any) (defScope s_is_method_any) .none kV10 dc10 pm10 an10 cd10 ct10), osl10⟩) (c10 : PySem.W.codeIn K cd10 "is_method_any" = true) (k10 : PySem.W.keepIn K (.ref f10) = true)
    {f11 : Addr} {oc11 : Value} {od11 an11 : Option Addr} {osl11 : Array (Option Value)} {kV11 dc11 pm11 cd11 ct11 : Value} (a11 : PySem.W.nsIn K mainGlobals "is_splice_any" = some (some (.ref f11)))
    (l11 : K.lookup f11 = some ⟨oc11, od11, .func (PySem.W.fnOf "is_splice_any" "is_splice_any" (defArgs s_is_splice_any) (defBody s_is_splice_any) (defScope s_is_splice_any) .none kV11 dc11 pm11 an11 cd11 ct11), osl11⟩) (c11 : PySem.W.codeIn K cd11 "is_splice_any" = true) (k11 : PySem.W.keepIn K (.ref f11) = true)
    {f12 : Addr} {oc12 : Value} {od12 an12 : Option Addr} {osl12 : Array (Option Value)} {kV12 dc12 pm12 cd12 ct12 : Value} (a12 : PySem.W.nsIn K mainGlobals "want_splice" = some (some (.ref f12)))
    (l12 : K.lookup f12 = some ⟨oc12, od12, .func (PySem.W.fnOf "want_splice" "want_splice" (defArgs s_want_splice) (defBody s_want_splice) (defScope s_want_splice) .none kV12 dc12 pm12 an12 cd12 ct12), osl12⟩) (c12 : PySem.W.codeIn K cd12 "want_splice" = true) (k12 : PySem.W.keepIn K (.ref f12) = true)
    {f13 : Addr} {oc13 : Value} {od13 an13 : Option Addr} {osl13 : Array (Option Value)} {kV13 dc13 pm13 cd13 ct13 : Value} (a13 : PySem.W.nsIn K mainGlobals "is_list" = some (some (.ref f13)))
    (l13 : K.lookup f13 = some ⟨oc13, od13, .func (PySem.W.fnOf "is_list" "is_list" (defArgs s_is_list) (defBody s_is_list) (defScope s_is_list) .none kV13 dc13 pm13 an13 cd13 ct13), osl13⟩) (c13 : PySem.W.codeIn K cd13 "is_list" = true) (k13 : PySem.W.keepIn K (.ref f13) = true)
    {f14 : Addr} {oc14 : Value} {od14 an14 : Option Addr} {osl14 : Array (Option Value)} {kV14 dc14 pm14 cd14 ct14 : Value} (a14 : PySem.W.nsIn K mainGlobals "is_lead_any" = some (some (.ref f14)))
    (l14 : K.lookup f14 = some ⟨oc14, od14, .func (PySem.W.fnOf "is_lead_any" "is_lead_any" (defArgs s_is_lead_any) (defBody s_is_lead_any) (defScope s_is_lead_any) .none kV14 dc14 pm14 an14 cd14 ct14), osl14⟩) (c14 : PySem.W.codeIn K cd14 "is_lead_any" = true) (k14 : PySem.W.keepIn K (.ref f14) = true)
    {f15 : Addr} {oc15 : Value} {od15 an15 : Option Addr} {osl15 : Array (Option Value)} {kV15 dc15 pm15 cd15 ct15 : Value} (a15 : PySem.W.nsIn K mainGlobals "is_spliced_any" = some (some (.ref f15)))
    (l15 : K.lookup f15 = some ⟨oc15, od15, .func (PySem.W.fnOf "is_spliced_any" "is_spliced_any" (defArgs s_is_spliced_any) (defBody s_is_spliced_any) (defScope s_is_spliced_any) .none kV15 dc15 pm15 an15 cd15 ct15), osl15⟩) (c15 : PySem.W.codeIn K cd15 "is_spliced_any" = true) (k15 : PySem.W.keepIn K (.ref f15) = true)
    {f16 : Addr} {oc16 : Value} {od16 an16 : Option Addr} {osl16 : Array (Option Value)} {kV16 dc16 pm16 cd16 ct16 : Value} (a16 : PySem.W.nsIn K mainGlobals "want_spliced" = some (some (.ref f16)))
    (l16 : K.lookup f16 = some ⟨oc16, od16, .func (PySem.W.fnOf "want_spliced" "want_spliced" (defArgs s_want_spliced) (defBody s_want_spliced) (defScope s_want_spliced) .none kV16 dc16 pm16 an16 cd16 ct16), osl16⟩) (c16 : PySem.W.codeIn K cd16 "want_spliced" = true) (k16 : PySem.W.keepIn K (.ref f16) = true)
    {f17 : Addr} {oc17 : Value} {od17 an17 : Option Addr} {osl17 : Array (Option Value)} {kV17 dc17 pm17 cd17 ct17 : Value} (a17 : PySem.W.nsIn K mainGlobals "rounds_of" = some (some (.ref f17)))
    (l17 : K.lookup f17 = some ⟨oc17, od17, .func (PySem.W.fnOf "rounds_of" "rounds_of" (defArgs s_rounds_of) (defBody s_rounds_of) (defScope s_rounds_of) .none kV17 dc17 pm17 an17 cd17 ct17), osl17⟩) (c17 : PySem.W.codeIn K cd17 "rounds_of" = true) (k17 : PySem.W.keepIn K (.ref f17) = true)
    {f18 : Addr} {oc18 : Value} {od18 an18 : Option Addr} {osl18 : Array (Option Value)} {kV18 dc18 pm18 cd18 ct18 : Value} (a18 : PySem.W.nsIn K mainGlobals "times" = some (some (.ref f18)))
    (l18 : K.lookup f18 = some ⟨oc18, od18, .func (PySem.W.fnOf "times" "times" (defArgs s_times) (defBody s_times) (defScope s_times) .none kV18 dc18 pm18 an18 cd18 ct18), osl18⟩) (c18 : PySem.W.codeIn K cd18 "times" = true) (k18 : PySem.W.keepIn K (.ref f18) = true)
    {f19 : Addr} {oc19 : Value} {od19 an19 : Option Addr} {osl19 : Array (Option Value)} {kV19 dc19 pm19 cd19 ct19 : Value} (a19 : PySem.W.nsIn K mainGlobals "change_row" = some (some (.ref f19)))
    (l19 : K.lookup f19 = some ⟨oc19, od19, .func (PySem.W.fnOf "change_row" "change_row" (defArgs s_change_row) (defBody s_change_row) (defScope s_change_row) .none kV19 dc19 pm19 an19 cd19 ct19), osl19⟩) (c19 : PySem.W.codeIn K cd19 "change_row" = true) (k19 : PySem.W.keepIn K (.ref f19) = true)
    {f20 : Addr} {oc20 : Value} {od20 an20 : Option Addr} {osl20 : Array (Option Value)} {kV20 dc20 pm20 cd20 ct20 : Value} (a20 : PySem.W.nsIn K mainGlobals "lead_of" = some (some (.ref f20)))
    (l20 : K.lookup f20 = some ⟨oc20, od20, .func (PySem.W.fnOf "lead_of" "lead_of" (defArgs s_lead_of) (defBody s_lead_of) (defScope s_lead_of) .none kV20 dc20 pm20 an20 cd20 ct20), osl20⟩) (c20 : PySem.W.codeIn K cd20 "lead_of" = true) (k20 : PySem.W.keepIn K (.ref f20) = true)
    {f21 : Addr} {oc21 : Value} {od21 an21 : Option Addr} {osl21 : Array (Option Value)} {kV21 dc21 pm21 cd21 ct21 : Value} (a21 : PySem.W.nsIn K mainGlobals "turns_of" = some (some (.ref f21)))
    (l21 : K.lookup f21 = some ⟨oc21, od21, .func (PySem.W.fnOf "turns_of" "turns_of" (defArgs s_turns_of) (defBody s_turns_of) (defScope s_turns_of) .none kV21 dc21 pm21 an21 cd21 ct21), osl21⟩) (c21 : PySem.W.codeIn K cd21 "turns_of" = true) (k21 : PySem.W.keepIn K (.ref f21) = true)
    {f22 : Addr} {oc22 : Value} {od22 an22 : Option Addr} {osl22 : Array (Option Value)} {kV22 dc22 pm22 cd22 ct22 : Value} (a22 : PySem.W.nsIn K mainGlobals "all_turns_of" = some (some (.ref f22)))
    (l22 : K.lookup f22 = some ⟨oc22, od22, .func (PySem.W.fnOf "all_turns_of" "all_turns_of" (defArgs s_all_turns_of) (defBody s_all_turns_of) (defScope s_all_turns_of) .none kV22 dc22 pm22 an22 cd22 ct22), osl22⟩) (c22 : PySem.W.codeIn K cd22 "all_turns_of" = true) (k22 : PySem.W.keepIn K (.ref f22) = true)
    {f23 : Addr} {oc23 : Value} {od23 an23 : Option Addr} {osl23 : Array (Option Value)} {kV23 dc23 pm23 cd23 ct23 : Value} (a23 : PySem.W.nsIn K mainGlobals "spliced_heads_of" = some (some (.ref f23)))
    (l23 : K.lookup f23 = some ⟨oc23, od23, .func (PySem.W.fnOf "spliced_heads_of" "spliced_heads_of" (defArgs s_spliced_heads_of) (defBody s_spliced_heads_of) (defScope s_spliced_heads_of) .none kV23 dc23 pm23 an23 cd23 ct23), osl23⟩) (c23 : PySem.W.codeIn K cd23 "spliced_heads_of" = true) (k23 : PySem.W.keepIn K (.ref f23) = true)
    {f24 : Addr} {oc24 : Value} {od24 an24 : Option Addr} {osl24 : Array (Option Value)} {kV24 dc24 pm24 cd24 ct24 : Value} (a24 : PySem.W.nsIn K mainGlobals "is_lead_true" = some (some (.ref f24)))
    (l24 : K.lookup f24 = some ⟨oc24, od24, .func (PySem.W.fnOf "is_lead_true" "is_lead_true" (defArgs s_is_lead_true) (defBody s_is_lead_true) (defScope s_is_lead_true) .none kV24 dc24 pm24 an24 cd24 ct24), osl24⟩) (c24 : PySem.W.codeIn K cd24 "is_lead_true" = true) (k24 : PySem.W.keepIn K (.ref f24) = true)
    {f25 : Addr} {oc25 : Value} {od25 an25 : Option Addr} {osl25 : Array (Option Value)} {kV25 dc25 pm25 cd25 ct25 : Value} (a25 : PySem.W.nsIn K mainGlobals "inverse_of" = some (some (.ref f25)))
    (l25 : K.lookup f25 = some ⟨oc25, od25, .func (PySem.W.fnOf "inverse_of" "inverse_of" (defArgs s_inverse_of) (defBody s_inverse_of) (defScope s_inverse_of) .none kV25 dc25 pm25 an25 cd25 ct25), osl25⟩) (c25 : PySem.W.codeIn K cd25 "inverse_of" = true) (k25 : PySem.W.keepIn K (.ref f25) = true)
    {f26 : Addr} {oc26 : Value} {od26 an26 : Option Addr} {osl26 : Array (Option Value)} {kV26 dc26 pm26 cd26 ct26 : Value} (a26 : PySem.W.nsIn K mainGlobals "between_of" = some (some (.ref f26)))
    (l26 : K.lookup f26 = some ⟨oc26, od26, .func (PySem.W.fnOf "between_of" "between_of" (defArgs s_between_of) (defBody s_between_of) (defScope s_between_of) .none kV26 dc26 pm26 an26 cd26 ct26), osl26⟩) (c26 : PySem.W.codeIn K cd26 "between_of" = true) (k26 : PySem.W.keepIn K (.ref f26) = true)
    {f27 : Addr} {oc27 : Value} {od27 an27 : Option Addr} {osl27 : Array (Option Value)} {kV27 dc27 pm27 cd27 ct27 : Value} (a27 : PySem.W.nsIn K mainGlobals "all_between" = some (some (.ref f27)))
    (l27 : K.lookup f27 = some ⟨oc27, od27, .func (PySem.W.fnOf "all_between" "all_between" (defArgs s_all_between) (defBody s_all_between) (defScope s_all_between) .none kV27 dc27 pm27 an27 cd27 ct27), osl27⟩) (c27 : PySem.W.codeIn K cd27 "all_between" = true) (k27 : PySem.W.keepIn K (.ref f27) = true)
    {f28 : Addr} {oc28 : Value} {od28 an28 : Option Addr} {osl28 : Array (Option Value)} {kV28 dc28 pm28 cd28 ct28 : Value} (a28 : PySem.W.nsIn K mainGlobals "is_apart" = some (some (.ref f28)))
    (l28 : K.lookup f28 = some ⟨oc28, od28, .func (PySem.W.fnOf "is_apart" "is_apart" (defArgs s_is_apart) (defBody s_is_apart) (defScope s_is_apart) .none kV28 dc28 pm28 an28 cd28 ct28), osl28⟩) (c28 : PySem.W.codeIn K cd28 "is_apart" = true) (k28 : PySem.W.keepIn K (.ref f28) = true)
    {f29 : Addr} {oc29 : Value} {od29 an29 : Option Addr} {osl29 : Array (Option Value)} {kV29 dc29 pm29 cd29 ct29 : Value} (a29 : PySem.W.nsIn K mainGlobals "is_true_of" = some (some (.ref f29)))
    (l29 : K.lookup f29 = some ⟨oc29, od29, .func (PySem.W.fnOf "is_true_of" "is_true_of" (defArgs s_is_true_of) (defBody s_is_true_of) (defScope s_is_true_of) .none kV29 dc29 pm29 an29 cd29 ct29), osl29⟩) (c29 : PySem.W.codeIn K cd29 "is_true_of" = true) (k29 : PySem.W.keepIn K (.ref f29) = true)
    {f30 : Addr} {oc30 : Value} {od30 an30 : Option Addr} {osl30 : Array (Option Value)} {kV30 dc30 pm30 cd30 ct30 : Value} (a30 : PySem.W.nsIn K mainGlobals "is_spliced_true" = some (some (.ref f30)))
    (l30 : K.lookup f30 = some ⟨oc30, od30, .func (PySem.W.fnOf "is_spliced_true" "is_spliced_true" (defArgs s_is_spliced_true) (defBody s_is_spliced_true) (defScope s_is_spliced_true) .none kV30 dc30 pm30 an30 cd30 ct30), osl30⟩) (c30 : PySem.W.codeIn K cd30 "is_spliced_true" = true) (k30 : PySem.W.keepIn K (.ref f30) = true)
    {f31 : Addr} {oc31 : Value} {od31 an31 : Option Addr} {osl31 : Array (Option Value)} {kV31 dc31 pm31 cd31 ct31 : Value} (a31 : PySem.W.nsIn K mainGlobals "want_number" = some (some (.ref f31)))
    (l31 : K.lookup f31 = some ⟨oc31, od31, .func (PySem.W.fnOf "want_number" "want_number" (defArgs s_want_number) (defBody s_want_number) (defScope s_want_number) .none kV31 dc31 pm31 an31 cd31 ct31), osl31⟩) (c31 : PySem.W.codeIn K cd31 "want_number" = true) (k31 : PySem.W.keepIn K (.ref f31) = true)
    {f32 : Addr} {oc32 : Value} {od32 an32 : Option Addr} {osl32 : Array (Option Value)} {kV32 dc32 pm32 cd32 ct32 : Value} (a32 : PySem.W.nsIn K mainGlobals "stand_ins" = some (some (.ref f32)))
    (l32 : K.lookup f32 = some ⟨oc32, od32, .func (PySem.W.fnOf "stand_ins" "stand_ins" (defArgs s_stand_ins) (defBody s_stand_ins) (defScope s_stand_ins) .none kV32 dc32 pm32 an32 cd32 ct32), osl32⟩) (c32 : PySem.W.codeIn K cd32 "stand_ins" = true) (k32 : PySem.W.keepIn K (.ref f32) = true)
    {f33 : Addr} {oc33 : Value} {od33 an33 : Option Addr} {osl33 : Array (Option Value)} {kV33 dc33 pm33 cd33 ct33 : Value} (a33 : PySem.W.nsIn K mainGlobals "may_always" = some (some (.ref f33)))
    (l33 : K.lookup f33 = some ⟨oc33, od33, .func (PySem.W.fnOf "may_always" "may_always" (defArgs s_may_always) (defBody s_may_always) (defScope s_may_always) .none kV33 dc33 pm33 an33 cd33 ct33), osl33⟩) (c33 : PySem.W.codeIn K cd33 "may_always" = true) (k33 : PySem.W.keepIn K (.ref f33) = true)
    {f34 : Addr} {oc34 : Value} {od34 an34 : Option Addr} {osl34 : Array (Option Value)} {kV34 dc34 pm34 cd34 ct34 : Value} (a34 : PySem.W.nsIn K mainGlobals "_law_changed" = some (some (.ref f34)))
    (l34 : K.lookup f34 = some ⟨oc34, od34, .func (PySem.W.fnOf "_law_changed" "_law_changed" (defArgs s__law_changed) (defBody s__law_changed) (defScope s__law_changed) .none kV34 dc34 pm34 an34 cd34 ct34), osl34⟩) (c34 : PySem.W.codeIn K cd34 "_law_changed" = true) (k34 : PySem.W.keepIn K (.ref f34) = true)
    {f35 : Addr} {oc35 : Value} {od35 an35 : Option Addr} {osl35 : Array (Option Value)} {kV35 dc35 pm35 cd35 ct35 : Value} (a35 : PySem.W.nsIn K mainGlobals "_law_lead" = some (some (.ref f35)))
    (l35 : K.lookup f35 = some ⟨oc35, od35, .func (PySem.W.fnOf "_law_lead" "_law_lead" (defArgs s__law_lead) (defBody s__law_lead) (defScope s__law_lead) .none kV35 dc35 pm35 an35 cd35 ct35), osl35⟩) (c35 : PySem.W.codeIn K cd35 "_law_lead" = true) (k35 : PySem.W.keepIn K (.ref f35) = true)
    {f36 : Addr} {oc36 : Value} {od36 an36 : Option Addr} {osl36 : Array (Option Value)} {kV36 dc36 pm36 cd36 ct36 : Value} (a36 : PySem.W.nsIn K mainGlobals "_law_pick" = some (some (.ref f36)))
    (l36 : K.lookup f36 = some ⟨oc36, od36, .func (PySem.W.fnOf "_law_pick" "_law_pick" (defArgs s__law_pick) (defBody s__law_pick) (defScope s__law_pick) .none kV36 dc36 pm36 an36 cd36 ct36), osl36⟩) (c36 : PySem.W.codeIn K cd36 "_law_pick" = true) (k36 : PySem.W.keepIn K (.ref f36) = true)
    {f37 : Addr} {oc37 : Value} {od37 an37 : Option Addr} {osl37 : Array (Option Value)} {kV37 dc37 pm37 cd37 ct37 : Value} (a37 : PySem.W.nsIn K mainGlobals "_law_mixed" = some (some (.ref f37)))
    (l37 : K.lookup f37 = some ⟨oc37, od37, .func (PySem.W.fnOf "_law_mixed" "_law_mixed" (defArgs s__law_mixed) (defBody s__law_mixed) (defScope s__law_mixed) .none kV37 dc37 pm37 an37 cd37 ct37), osl37⟩) (c37 : PySem.W.codeIn K cd37 "_law_mixed" = true) (k37 : PySem.W.keepIn K (.ref f37) = true)
    {f38 : Addr} {oc38 : Value} {od38 an38 : Option Addr} {osl38 : Array (Option Value)} {kV38 dc38 pm38 cd38 ct38 : Value} (a38 : PySem.W.nsIn K mainGlobals "_law_changes" = some (some (.ref f38)))
    (l38 : K.lookup f38 = some ⟨oc38, od38, .func (PySem.W.fnOf "_law_changes" "_law_changes" (defArgs s__law_changes) (defBody s__law_changes) (defScope s__law_changes) .none kV38 dc38 pm38 an38 cd38 ct38), osl38⟩) (c38 : PySem.W.codeIn K cd38 "_law_changes" = true) (k38 : PySem.W.keepIn K (.ref f38) = true)
    {f39 : Addr} {oc39 : Value} {od39 an39 : Option Addr} {osl39 : Array (Option Value)} {kV39 dc39 pm39 cd39 ct39 : Value} (a39 : PySem.W.nsIn K mainGlobals "_law_splice" = some (some (.ref f39)))
    (l39 : K.lookup f39 = some ⟨oc39, od39, .func (PySem.W.fnOf "_law_splice" "_law_splice" (defArgs s__law_splice) (defBody s__law_splice) (defScope s__law_splice) .none kV39 dc39 pm39 an39 cd39 ct39), osl39⟩) (c39 : PySem.W.codeIn K cd39 "_law_splice" = true) (k39 : PySem.W.keepIn K (.ref f39) = true)
    {f40 : Addr} {oc40 : Value} {od40 an40 : Option Addr} {osl40 : Array (Option Value)} {kV40 dc40 pm40 cd40 ct40 : Value} (a40 : PySem.W.nsIn K mainGlobals "_law_touch" = some (some (.ref f40)))
    (l40 : K.lookup f40 = some ⟨oc40, od40, .func (PySem.W.fnOf "_law_touch" "_law_touch" (defArgs s__law_touch) (defBody s__law_touch) (defScope s__law_touch) .none kV40 dc40 pm40 an40 cd40 ct40), osl40⟩) (c40 : PySem.W.codeIn K cd40 "_law_touch" = true) (k40 : PySem.W.keepIn K (.ref f40) = true)
    {f41 : Addr} {oc41 : Value} {od41 an41 : Option Addr} {osl41 : Array (Option Value)} {kV41 dc41 pm41 cd41 ct41 : Value} (a41 : PySem.W.nsIn K mainGlobals "_law_rung" = some (some (.ref f41)))
    (l41 : K.lookup f41 = some ⟨oc41, od41, .func (PySem.W.fnOf "_law_rung" "_law_rung" (defArgs s__law_rung) (defBody s__law_rung) (defScope s__law_rung) .none kV41 dc41 pm41 an41 cd41 ct41), osl41⟩) (c41 : PySem.W.codeIn K cd41 "_law_rung" = true) (k41 : PySem.W.keepIn K (.ref f41) = true)
    {f42 : Addr} {oc42 : Value} {od42 an42 : Option Addr} {osl42 : Array (Option Value)} {kV42 dc42 pm42 cd42 ct42 : Value} (a42 : PySem.W.nsIn K mainGlobals "_law_is_true" = some (some (.ref f42)))
    (l42 : K.lookup f42 = some ⟨oc42, od42, .func (PySem.W.fnOf "_law_is_true" "_law_is_true" (defArgs s__law_is_true) (defBody s__law_is_true) (defScope s__law_is_true) .none kV42 dc42 pm42 an42 cd42 ct42), osl42⟩) (c42 : PySem.W.codeIn K cd42 "_law_is_true" = true) (k42 : PySem.W.keepIn K (.ref f42) = true)
    {f43 : Addr} {oc43 : Value} {od43 an43 : Option Addr} {osl43 : Array (Option Value)} {kV43 dc43 pm43 cd43 ct43 : Value} (a43 : PySem.W.nsIn K mainGlobals "_law_near" = some (some (.ref f43)))
    (l43 : K.lookup f43 = some ⟨oc43, od43, .func (PySem.W.fnOf "_law_near" "_law_near" (defArgs s__law_near) (defBody s__law_near) (defScope s__law_near) .none kV43 dc43 pm43 an43 cd43 ct43), osl43⟩) (c43 : PySem.W.codeIn K cd43 "_law_near" = true) (k43 : PySem.W.keepIn K (.ref f43) = true)
    {f44 : Addr} {oc44 : Value} {od44 an44 : Option Addr} {osl44 : Array (Option Value)} {kV44 dc44 pm44 cd44 ct44 : Value} (a44 : PySem.W.nsIn K mainGlobals "_law_right" = some (some (.ref f44)))
    (l44 : K.lookup f44 = some ⟨oc44, od44, .func (PySem.W.fnOf "_law_right" "_law_right" (defArgs s__law_right) (defBody s__law_right) (defScope s__law_right) .none kV44 dc44 pm44 an44 cd44 ct44), osl44⟩) (c44 : PySem.W.codeIn K cd44 "_law_right" = true) (k44 : PySem.W.keepIn K (.ref f44) = true)
    {f45 : Addr} {oc45 : Value} {od45 an45 : Option Addr} {osl45 : Array (Option Value)} {kV45 dc45 pm45 cd45 ct45 : Value} (a45 : PySem.W.nsIn K mainGlobals "law" = some (some (.ref f45)))
    (l45 : K.lookup f45 = some ⟨oc45, od45, .func (PySem.W.fnOf "law" "law" (defArgs s_law) (defBody s_law) (defScope s_law) .none kV45 dc45 pm45 an45 cd45 ct45), osl45⟩) (c45 : PySem.W.codeIn K cd45 "law" = true) (k45 : PySem.W.keepIn K (.ref f45) = true)
    (n_abs : PySem.W.nsIn K mainGlobals "abs" = some none)
    (n_all : PySem.W.nsIn K mainGlobals "all" = some none)
    (n_any : PySem.W.nsIn K mainGlobals "any" = some none)
    (n_bool : PySem.W.nsIn K mainGlobals "bool" = some none)
    (n_dict : PySem.W.nsIn K mainGlobals "dict" = some none)
    (n_divmod : PySem.W.nsIn K mainGlobals "divmod" = some none)
    (n_enumerate : PySem.W.nsIn K mainGlobals "enumerate" = some none)
    (n_int : PySem.W.nsIn K mainGlobals "int" = some none)
    (n_isinstance : PySem.W.nsIn K mainGlobals "isinstance" = some none)
    (n_len : PySem.W.nsIn K mainGlobals "len" = some none)
    (n_list : PySem.W.nsIn K mainGlobals "list" = some none)
    (n_max : PySem.W.nsIn K mainGlobals "max" = some none)
    (n_range : PySem.W.nsIn K mainGlobals "range" = some none)
    (n_repr : PySem.W.nsIn K mainGlobals "repr" = some none)
    (n_set : PySem.W.nsIn K mainGlobals "set" = some none)
    (n_sorted : PySem.W.nsIn K mainGlobals "sorted" = some none)
    (n_str : PySem.W.nsIn K mainGlobals "str" = some none)
    (n_sum : PySem.W.nsIn K mainGlobals "sum" = some none)
    (n_tuple : PySem.W.nsIn K mainGlobals "tuple" = some none)
    (n_zip : PySem.W.nsIn K mainGlobals "zip" = some none)
    {t_LEAST_BELLS : Tok} (c_LEAST_BELLS : PySem.W.nsIn K mainGlobals "LEAST_BELLS" = some (some (.int 3 t_LEAST_BELLS)))
    {t_METHOD : Tok} (c_METHOD : PySem.W.nsIn K mainGlobals "METHOD" = some (some (.str "method" t_METHOD)))
    {t_MOST_BELLS : Tok} (c_MOST_BELLS : PySem.W.nsIn K mainGlobals "MOST_BELLS" = some (some (.int 6 t_MOST_BELLS)))
    {t_MOST_CALLS : Tok} (c_MOST_CALLS : PySem.W.nsIn K mainGlobals "MOST_CALLS" = some (some (.int 3 t_MOST_CALLS)))
    {t_MOST_IN_LEAD : Tok} (c_MOST_IN_LEAD : PySem.W.nsIn K mainGlobals "MOST_IN_LEAD" = some (some (.int 40 t_MOST_IN_LEAD)))
    {t_MOST_METHODS : Tok} (c_MOST_METHODS : PySem.W.nsIn K mainGlobals "MOST_METHODS" = some (some (.int 4 t_MOST_METHODS)))
    {t_MOST_TOUCH : Tok} (c_MOST_TOUCH : PySem.W.nsIn K mainGlobals "MOST_TOUCH" = some (some (.int 800 t_MOST_TOUCH)))
    {t_SPLICE : Tok} (c_SPLICE : PySem.W.nsIn K mainGlobals "SPLICE" = some (some (.str "splice" t_SPLICE)))
    : ∃ fd : FuncData, (∀ (s : Shared) (u : Value), BindsTo s fd ⟨[u], []⟩ [("script", u)]) ∧ ∀ base : Heap, K.In base → base.Ns mainGlobals mg → FnG P w K mg base 11 fa fd ["script"] (fspec K ow_law 1 n_law m_law) := by
  obtain ⟨T, e, hb⟩ := all_mk X G a0 l0 c0 k0 a1 l1 c1 k1 a2 l2 c2 k2 a3 l3 c3 k3 a4 l4 c4 k4 a5 l5 c5 k5 a6 l6 c6 k6 a7 l7 c7 k7 a8 l8 c8 k8 a9 l9 c9 k9 a10 l10 c10 k10 a11 l11 c11 k11 a12 l12 c12 k12 a13 l13 c13 k13 a14 l14 c14 k14 a15 l15 c15 k15 a16 l16 c16 k16 a17 l17 c17 k17 a18 l18 c18 k18 a19 l19 c19 k19 a20 l20 c20 k20 a21 l21 c21 k21 a22 l22 c22 k22 a23 l23 c23 k23 a24 l24 c24 k24 a25 l25 c25 k25 a26 l26 c26 k26 a27 l27 c27 k27 a28 l28 c28 k28 a29 l29 c29 k29 a30 l30 c30 k30 a31 l31 c31 k31 a32 l32 c32 k32 a33 l33 c33 k33 a34 l34 c34 k34 a35 l35 c35 k35 a36 l36 c36 k36 a37 l37 c37 k37 a38 l38 c38 k38 a39 l39 c39 k39 a40 l40 c40 k40 a41 l41 c41 k41 a42 l42 c42 k42 a43 l43 c43 k43 a44 l44 c44 k44 a45 l45 c45 k45 n_abs n_all n_any n_bool n_dict n_divmod n_enumerate n_int n_isinstance n_len n_list n_max n_range n_repr n_set n_sorted n_str n_sum n_tuple n_zip c_LEAST_BELLS c_METHOD c_MOST_BELLS c_MOST_CALLS c_MOST_IN_LEAD c_MOST_METHODS c_MOST_TOUCH c_SPLICE
  have z := hmg.symm.trans T.g_law
  cases z
  exact ⟨T.d_law, hb, fun base _ _ => ok_law T⟩
end Pwk85

open PySem PySem.W PyProof.Rows in
set_option maxRecDepth 100000 in
set_option maxHeartbeats 0 in
theorem PySem.Challenge.cw_pealworks_k85_whole_methods_that_stand_i_holds : PySem.Challenge.rw_pealworks_k85_whole_methods_that_stand_i.Holds := by
  w_on; o_law; k_head; (case hw => w_witness2)
  k_fill
  refine Pw.walk_d (l := PySem.Challenge.rw_pealworks_k85_whole_methods_that_stand_i) (n := 63) (k := 11) (nN := Pwk85.n_law) (x := "script") (OW := Pwk85.ow_law) (m := Pwk85.m_law) rfl (by decide) rfl ⟨rfl, by decide, by decide⟩ (fun w h Y => PySem.W.kIn_of Y) ?F (fun zs _ _ => Pwk85.r_law_run zs)
  case F =>
    intro w mg fa h KX G hmg
    refine' Pwk85.fin_mk KX G hmg ?a0 ?l0 ?c0 ?k0 ?a1 ?l1 ?c1 ?k1 ?a2 ?l2 ?c2 ?k2 ?a3 ?l3 ?c3 ?k3 ?a4 ?l4 ?c4 ?k4 ?a5 ?l5 ?c5 ?k5 ?a6 ?l6 ?c6 ?k6 ?a7 ?l7 ?c7 ?k7 ?a8 ?l8 ?c8 ?k8 ?a9 ?l9 ?c9 ?k9 ?a10 ?l10 ?c10 ?k10 ?a11 ?l11 ?c11 ?k11 ?a12 ?l12 ?c12 ?k12 ?a13 ?l13 ?c13 ?k13 ?a14 ?l14 ?c14 ?k14 ?a15 ?l15 ?c15 ?k15 ?a16 ?l16 ?c16 ?k16 ?a17 ?l17 ?c17 ?k17 ?a18 ?l18 ?c18 ?k18 ?a19 ?l19 ?c19 ?k19 ?a20 ?l20 ?c20 ?k20 ?a21 ?l21 ?c21 ?k21 ?a22 ?l22 ?c22 ?k22 ?a23 ?l23 ?c23 ?k23 ?a24 ?l24 ?c24 ?k24 ?a25 ?l25 ?c25 ?k25 ?a26 ?l26 ?c26 ?k26 ?a27 ?l27 ?c27 ?k27 ?a28 ?l28 ?c28 ?k28 ?a29 ?l29 ?c29 ?k29 ?a30 ?l30 ?c30 ?k30 ?a31 ?l31 ?c31 ?k31 ?a32 ?l32 ?c32 ?k32 ?a33 ?l33 ?c33 ?k33 ?a34 ?l34 ?c34 ?k34 ?a35 ?l35 ?c35 ?k35 ?a36 ?l36 ?c36 ?k36 ?a37 ?l37 ?c37 ?k37 ?a38 ?l38 ?c38 ?k38 ?a39 ?l39 ?c39 ?k39 ?a40 ?l40 ?c40 ?k40 ?a41 ?l41 ?c41 ?k41 ?a42 ?l42 ?c42 ?k42 ?a43 ?l43 ?c43 ?k43 ?a44 ?l44 ?c44 ?k44 ?a45 ?l45 ?c45 ?k45 ?n_abs ?n_all ?n_any ?n_bool ?n_dict ?n_divmod ?n_enumerate ?n_int ?n_isinstance ?n_len ?n_list ?n_max ?n_range ?n_repr ?n_set ?n_sorted ?n_str ?n_sum ?n_tuple ?n_zip ?c_LEAST_BELLS ?c_METHOD ?c_MOST_BELLS ?c_MOST_CALLS ?c_MOST_IN_LEAD ?c_MOST_METHODS ?c_MOST_TOUCH ?c_SPLICE
    (case a0 => k_is)
    (case l0 => k_is)
    (case c0 => k_is)
    (case k0 => k_is)
    (case a1 => k_is)
    (case l1 => k_is)
    (case c1 => k_is)
    (case k1 => k_is)
    (case a2 => k_is)
    (case l2 => k_is)
    (case c2 => k_is)
    (case k2 => k_is)
    (case a3 => k_is)
    (case l3 => k_is)
    (case c3 => k_is)
    (case k3 => k_is)
    (case a4 => k_is)
    (case l4 => k_is)
    (case c4 => k_is)
    (case k4 => k_is)
    (case a5 => k_is)
    (case l5 => k_is)
    (case c5 => k_is)
    (case k5 => k_is)
    (case a6 => k_is)
    (case l6 => k_is)
    (case c6 => k_is)
    (case k6 => k_is)
    (case a7 => k_is)
    (case l7 => k_is)
    (case c7 => k_is)
    (case k7 => k_is)
    (case a8 => k_is)
    (case l8 => k_is)
    (case c8 => k_is)
    (case k8 => k_is)
    (case a9 => k_is)
    (case l9 => k_is)
    (case c9 => k_is)
    (case k9 => k_is)
    (case a10 => k_is)
    (case l10 => k_is)
    (case c10 => k_is)
    (case k10 => k_is)
    (case a11 => k_is)
    (case l11 => k_is)
    (case c11 => k_is)
    (case k11 => k_is)
    (case a12 => k_is)
    (case l12 => k_is)
    (case c12 => k_is)
    (case k12 => k_is)
    (case a13 => k_is)
    (case l13 => k_is)
    (case c13 => k_is)
    (case k13 => k_is)
    (case a14 => k_is)
    (case l14 => k_is)
    (case c14 => k_is)
    (case k14 => k_is)
    (case a15 => k_is)
    (case l15 => k_is)
    (case c15 => k_is)
    (case k15 => k_is)
    (case a16 => k_is)
    (case l16 => k_is)
    (case c16 => k_is)
    (case k16 => k_is)
    (case a17 => k_is)
    (case l17 => k_is)
    (case c17 => k_is)
    (case k17 => k_is)
    (case a18 => k_is)
    (case l18 => k_is)
    (case c18 => k_is)
    (case k18 => k_is)
    (case a19 => k_is)
    (case l19 => k_is)
    (case c19 => k_is)
    (case k19 => k_is)
    (case a20 => k_is)
    (case l20 => k_is)
    (case c20 => k_is)
    (case k20 => k_is)
    (case a21 => k_is)
    (case l21 => k_is)
    (case c21 => k_is)
    (case k21 => k_is)
    (case a22 => k_is)
    (case l22 => k_is)
    (case c22 => k_is)
    (case k22 => k_is)
    (case a23 => k_is)
    (case l23 => k_is)
    (case c23 => k_is)
    (case k23 => k_is)
    (case a24 => k_is)
    (case l24 => k_is)
    (case c24 => k_is)
    (case k24 => k_is)
    (case a25 => k_is)
    (case l25 => k_is)
    (case c25 => k_is)
    (case k25 => k_is)
    (case a26 => k_is)
    (case l26 => k_is)
    (case c26 => k_is)
    (case k26 => k_is)
    (case a27 => k_is)
    (case l27 => k_is)
    (case c27 => k_is)
    (case k27 => k_is)
    (case a28 => k_is)
    (case l28 => k_is)
    (case c28 => k_is)
    (case k28 => k_is)
    (case a29 => k_is)
    (case l29 => k_is)
    (case c29 => k_is)
    (case k29 => k_is)
    (case a30 => k_is)
    (case l30 => k_is)
    (case c30 => k_is)
    (case k30 => k_is)
    (case a31 => k_is)
    (case l31 => k_is)
    (case c31 => k_is)
    (case k31 => k_is)
    (case a32 => k_is)
    (case l32 => k_is)
    (case c32 => k_is)
    (case k32 => k_is)
    (case a33 => k_is)
    (case l33 => k_is)
    (case c33 => k_is)
    (case k33 => k_is)
    (case a34 => k_is)
    (case l34 => k_is)
    (case c34 => k_is)
    (case k34 => k_is)
    (case a35 => k_is)
    (case l35 => k_is)
    (case c35 => k_is)
    (case k35 => k_is)
    (case a36 => k_is)
    (case l36 => k_is)
    (case c36 => k_is)
    (case k36 => k_is)
    (case a37 => k_is)
    (case l37 => k_is)
    (case c37 => k_is)
    (case k37 => k_is)
    (case a38 => k_is)
    (case l38 => k_is)
    (case c38 => k_is)
    (case k38 => k_is)
    (case a39 => k_is)
    (case l39 => k_is)
    (case c39 => k_is)
    (case k39 => k_is)
    (case a40 => k_is)
    (case l40 => k_is)
    (case c40 => k_is)
    (case k40 => k_is)
    (case a41 => k_is)
    (case l41 => k_is)
    (case c41 => k_is)
    (case k41 => k_is)
    (case a42 => k_is)
    (case l42 => k_is)
    (case c42 => k_is)
    (case k42 => k_is)
    (case a43 => k_is)
    (case l43 => k_is)
    (case c43 => k_is)
    (case k43 => k_is)
    (case a44 => k_is)
    (case l44 => k_is)
    (case c44 => k_is)
    (case k44 => k_is)
    (case a45 => k_is)
    (case l45 => k_is)
    (case c45 => k_is)
    (case k45 => k_is)
    (case n_abs => k_is)
    (case n_all => k_is)
    (case n_any => k_is)
    (case n_bool => k_is)
    (case n_dict => k_is)
    (case n_divmod => k_is)
    (case n_enumerate => k_is)
    (case n_int => k_is)
    (case n_isinstance => k_is)
    (case n_len => k_is)
    (case n_list => k_is)
    (case n_max => k_is)
    (case n_range => k_is)
    (case n_repr => k_is)
    (case n_set => k_is)
    (case n_sorted => k_is)
    (case n_str => k_is)
    (case n_sum => k_is)
    (case n_tuple => k_is)
    (case n_zip => k_is)
    (case c_LEAST_BELLS => k_is)
    (case c_METHOD => k_is)
    (case c_MOST_BELLS => k_is)
    (case c_MOST_CALLS => k_is)
    (case c_MOST_IN_LEAD => k_is)
    (case c_MOST_METHODS => k_is)
    (case c_MOST_TOUCH => k_is)
    (case c_SPLICE => k_is)

