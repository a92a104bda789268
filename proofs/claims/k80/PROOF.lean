import PyProof.Rows.All
import Wide.All
import OpenK.AllK
import Wide.FinOn
import HandS.Base
import HandS.Call
import HandS.List
import HandS.Exc
import HandS.Words
import HandS.WordsExc
import HandS.Ends
import HandS.EndBits
import HandS.ExcOwn
import HandS.Wide
import HandS.WideBits
import HandS.TupAny
import HandS.TupMul
import HandS.Style
import HandS.IsInst
import HandS.NoneIn
import HandS.Dict
import HandS.Text
import HandS.Iter
import HandS.Zip
import HandS.Comp
import HandS.CallSlots
import HandS.Defaults
import HandS.More
import KE.DatumOrd
import PyProof.ReprRoads
import PyProof.CallFns
import HandS.ForMost
import HandS.Property
import HandS.Codes
import PySem.Challenge.RW_spirowheels_k80_whole_same_lines_certifi
set_option Elab.async false
set_option linter.all false
set_option exponentiation.threshold 100000
set_option maxRecDepth 100000
set_option maxHeartbeats 4000000
namespace DL
open PySem PySem.Spec PyProof.Rows L2
/-- a value as data; a thing that others may change behind us is a cell -/
inductive D where
  | non | bl (b : Bool) | int (i : Int) | str (x : Str)
  | tup (ds : List D) | lst (ds : List D) | kst (ds : List D) | ktp (ds : List D)
  | dik (kvs : List (Key × D)) | dit (kvs : List (List Key × D))
  | ins (c : Str) (fs : List (Str × D))
  | cell (i : Nat)
  | glo (x : Str)
  | ty (n : String)
  | byv (v : V)
/-- the frozen part of the heap, the cells' addresses -/
structure Wd where
  F : Hp
  th : List Addr
section
variable (K : PySem.W.Frag) (mg : Str → Option Value) (W : Wd)
mutual
def rel : D → V → Prop
  | .non, v => v = .non
  | .bl b, v => v = .bl b
  | .int i, v => v = .int i
  | .str x, v => v = .str x
  | .ty n, v => v = .ty n
  | .byv u, v => v = u
  | .tup ds, v => ∃ p vs, v = .ref p ∧ W.F p = some (.tup vs) ∧ rels ds vs
  | .ktp ds, v => ∃ p vs, v = .ref p ∧ SqT K W.F p vs ∧ rels ds vs
  | .lst ds, v => ∃ p vs, v = .ref p ∧ W.F p = some (.lst vs) ∧ rels ds vs
  | .kst ds, v => ∃ p vs, v = .ref p ∧ SqL K W.F p vs ∧ rels ds vs
  | .dik kvs, v => ∃ p ws, v = .ref p ∧ W.F p = some (.dK ws) ∧ relK kvs ws
  | .dit kvs, v => ∃ p ws, v = .ref p ∧ W.F p = some (.dT ws) ∧ relT kvs ws
  | .ins c fs, v => ∃ p C dx ws, v = .ref p ∧ mg c = some (.ref C) ∧ W.F p = some (.ins C dx ws) ∧ relF fs ws
  | .cell i, v => ∃ p, v = .ref p ∧ W.th[i]? = some p
  | .glo x, v => ∃ p, v = .ref p ∧ mg x = some (.ref p)
def rels : List D → List V → Prop
  | [], vs => vs = []
  | d :: ds, vs => ∃ v ws, vs = v :: ws ∧ rel d v ∧ rels ds ws
def relK : List (Key × D) → List (Key × V) → Prop
  | [], vs => vs = []
  | (k, d) :: ds, vs => ∃ v ws, vs = (k, v) :: ws ∧ rel d v ∧ relK ds ws
def relT : List (List Key × D) → List (List Key × V) → Prop
  | [], vs => vs = []
  | (k, d) :: ds, vs => ∃ v ws, vs = (k, v) :: ws ∧ rel d v ∧ relT ds ws
def relF : List (Str × D) → List (Str × V) → Prop
  | [], vs => vs = []
  | (k, d) :: ds, vs => ∃ v ws, vs = (k, v) :: ws ∧ rel d v ∧ relF ds ws
end
end
/-- W' holds all that W does -/
structure WLe (W W' : Wd) : Prop where
  F : ∀ a o, W.F a = some o → W'.F a = some o
  th : ∃ more, W'.th = W.th ++ more
theorem WLe.refl (W : Wd) : WLe W W := ⟨fun _ _ h => h, ⟨[], by simp⟩⟩
theorem WLe.trans {W W1 W2 : Wd} (a : WLe W W1) (b : WLe W1 W2) : WLe W W2 := by
  refine ⟨fun p o h => b.F p o (a.F p o h), ?_⟩
  obtain ⟨m, e⟩ := a.th
  obtain ⟨n, e2⟩ := b.th
  exact ⟨m ++ n, by rw [e2, e, List.append_assoc]⟩
theorem sqL_le {K : PySem.W.Frag} {F F' : Hp} {p : Addr} {vs : List V} (le : ∀ a o, F a = some o → F' a = some o) (h : SqL K F p vs) : SqL K F' p vs := by
  rcases h with (h | ⟨o, h⟩) | h
  · exact .inl (.inl (le _ _ h))
  · exact .inl (.inr ⟨o, le _ _ h⟩)
  · exact .inr h
theorem sqT_le {K : PySem.W.Frag} {F F' : Hp} {p : Addr} {vs : List V} (le : ∀ a o, F a = some o → F' a = some o) (h : SqT K F p vs) : SqT K F' p vs := by
  rcases h with (h | ⟨o, h⟩) | h
  · exact .inl (.inl (le _ _ h))
  · exact .inl (.inr ⟨o, le _ _ h⟩)
  · exact .inr h
section
variable {K : PySem.W.Frag} {mg : Str → Option Value} {W W' : Wd}
mutual
theorem rel_le (le : WLe W W') : ∀ {d : D} {v : V}, rel K mg W d v → rel K mg W' d v
  | .non, _, h => h
  | .bl _, _, h => h
  | .int _, _, h => h
  | .str _, _, h => h
  | .ty _, _, h => h
  | .byv _, _, h => h
  | .tup ds, _, h => by
    obtain ⟨p, vs, e, s, r⟩ := h
    exact ⟨p, vs, e, le.F _ _ s, rels_le le r⟩
  | .ktp ds, _, h => by
    obtain ⟨p, vs, e, s, r⟩ := h
    exact ⟨p, vs, e, sqT_le le.F s, rels_le le r⟩
  | .lst ds, _, h => by
    obtain ⟨p, vs, e, s, r⟩ := h
    exact ⟨p, vs, e, le.F _ _ s, rels_le le r⟩
  | .kst ds, _, h => by
    obtain ⟨p, vs, e, s, r⟩ := h
    exact ⟨p, vs, e, sqL_le le.F s, rels_le le r⟩
  | .dik kvs, _, h => by
    obtain ⟨p, vs, e, s, r⟩ := h
    exact ⟨p, vs, e, le.F _ _ s, relK_le le r⟩
  | .dit kvs, _, h => by
    obtain ⟨p, vs, e, s, r⟩ := h
    exact ⟨p, vs, e, le.F _ _ s, relT_le le r⟩
  | .ins c fs, _, h => by
    obtain ⟨p, C, dx, vs, e, m, s, r⟩ := h
    exact ⟨p, C, dx, vs, e, m, le.F _ _ s, relF_le le r⟩
  | .cell i, _, h => by
    obtain ⟨p, e, s⟩ := h
    obtain ⟨m, q⟩ := le.th
    refine ⟨p, e, ?_⟩
    rw [q, List.getElem?_append_left (List.getElem?_eq_some_iff.mp s).1]
    exact s
  | .glo x, _, h => h
theorem rels_le (le : WLe W W') : ∀ {ds : List D} {vs : List V}, rels K mg W ds vs → rels K mg W' ds vs
  | [], _, h => h
  | d :: ds, _, h => by
    obtain ⟨v, ws, e, r, s⟩ := h
    exact ⟨v, ws, e, rel_le le r, rels_le le s⟩
theorem relK_le (le : WLe W W') : ∀ {ds : List (Key × D)} {vs : List (Key × V)}, relK K mg W ds vs → relK K mg W' ds vs
  | [], _, h => h
  | (k, d) :: ds, _, h => by
    obtain ⟨v, ws, e, r, s⟩ := h
    exact ⟨v, ws, e, rel_le le r, relK_le le s⟩
theorem relT_le (le : WLe W W') : ∀ {ds : List (List Key × D)} {vs : List (List Key × V)}, relT K mg W ds vs → relT K mg W' ds vs
  | [], _, h => h
  | (k, d) :: ds, _, h => by
    obtain ⟨v, ws, e, r, s⟩ := h
    exact ⟨v, ws, e, rel_le le r, relT_le le s⟩
theorem relF_le (le : WLe W W') : ∀ {ds : List (Str × D)} {vs : List (Str × V)}, relF K mg W ds vs → relF K mg W' ds vs
  | [], _, h => h
  | (k, d) :: ds, _, h => by
    obtain ⟨v, ws, e, r, s⟩ := h
    exact ⟨v, ws, e, rel_le le r, relF_le le s⟩
end
theorem rels_length : ∀ {ds : List D} {vs : List V}, rels K mg W ds vs → vs.length = ds.length
  | [], _, h => by cases (show _ = _ from h); rfl
  | d :: ds, _, h => by
    obtain ⟨v, ws, e, r, s⟩ := h
    rw [e, List.length_cons, List.length_cons, rels_length s]
theorem rels_get : ∀ {ds : List D} {vs : List V} {i : Nat} {d : D}, rels K mg W ds vs → ds[i]? = some d → ∃ v, vs[i]? = some v ∧ rel K mg W d v
  | [], _, _, _, _, e => by simp at e
  | d :: ds, _, 0, x, h, e => by
    obtain ⟨v, ws, e1, r, s⟩ := h
    simp at e
    subst e e1
    exact ⟨v, rfl, r⟩
  | d :: ds, _, i + 1, x, h, e => by
    obtain ⟨v, ws, e1, r, s⟩ := h
    obtain ⟨u, h1, h2⟩ := rels_get (i := i) (d := x) s (by simpa using e)
    subst e1
    exact ⟨u, by simpa using h1, h2⟩
theorem rels_append : ∀ {ds es : List D} {vs ws : List V}, rels K mg W ds vs → rels K mg W es ws → rels K mg W (ds ++ es) (vs ++ ws)
  | [], es, vs, ws, h, h2 => by cases (show _ = _ from h); exact h2
  | d :: ds, es, vs, ws, h, h2 => by
    obtain ⟨v, us, e, r, s⟩ := h
    subst e
    exact ⟨v, us ++ ws, rfl, r, rels_append s h2⟩
theorem rels_nil : rels K mg W [] [] := rfl
theorem rels_cons {d : D} {ds : List D} {v : V} {vs : List V} (r : rel K mg W d v) (s : rels K mg W ds vs) : rels K mg W (d :: ds) (v :: vs) := ⟨v, vs, rfl, r, s⟩
theorem rels_one {d : D} {v : V} (r : rel K mg W d v) : rels K mg W [d] [v] := rels_cons r rels_nil
theorem rels_set {d : D} {v : V} (r : rel K mg W d v) : ∀ {ds : List D} {vs : List V} (i : Nat), rels K mg W ds vs → rels K mg W (ds.set i d) (vs.set i v)
  | [], _, _, h => by cases (show _ = _ from h); exact rels_nil
  | _ :: _, _, 0, h => by
    obtain ⟨u, ws, e, _, s⟩ := h
    subst e
    exact rels_cons r s
  | _ :: _, _, i + 1, h => by
    obtain ⟨u, ws, e, q, s⟩ := h
    subst e
    exact rels_cons q (rels_set r i s)
theorem rels_take : ∀ {ds : List D} {vs : List V} (i : Nat), rels K mg W ds vs → rels K mg W (ds.take i) (vs.take i)
  | _, _, 0, _ => by rw [List.take_zero, List.take_zero]; exact rels_nil
  | [], _, i + 1, h => by cases (show _ = _ from h); exact rels_nil
  | _ :: _, _, i + 1, h => by
    obtain ⟨u, ws, e, q, s⟩ := h
    subst e
    exact rels_cons q (rels_take i s)
theorem rels_drop : ∀ {ds : List D} {vs : List V} (i : Nat), rels K mg W ds vs → rels K mg W (ds.drop i) (vs.drop i)
  | _, _, 0, h => h
  | [], _, i + 1, h => by cases (show _ = _ from h); exact rels_nil
  | _ :: _, _, i + 1, h => by
    obtain ⟨u, ws, e, q, s⟩ := h
    subst e
    exact rels_drop i s
theorem rels_reverse : ∀ {ds : List D} {vs : List V}, rels K mg W ds vs → rels K mg W ds.reverse vs.reverse
  | [], _, h => by cases (show _ = _ from h); exact rels_nil
  | d :: ds, _, h => by
    obtain ⟨u, ws, e, q, s⟩ := h
    subst e
    rw [List.reverse_cons, List.reverse_cons]
    exact rels_append (rels_reverse s) (rels_one q)
theorem relF_lookup : ∀ {fs : List (Str × D)} {ws : List (Str × V)} {n : Str} {d : D}, relF K mg W fs ws → fs.lookup n = some d → ∃ v, ws.lookup n = some v ∧ rel K mg W d v
  | [], _, _, _, _, e => by simp at e
  | (k, x) :: fs, _, n, d, h, e => by
    obtain ⟨v, ws, e1, r, s⟩ := h
    subst e1
    rw [List.lookup_cons] at e ⊢
    cases hb : n == k with
    | true => rw [hb] at e; cases e; exact ⟨v, rfl, r⟩
    | false => rw [hb] at e; exact relF_lookup s e
theorem relF_none : ∀ {fs : List (Str × D)} {ws : List (Str × V)} {n : Str}, relF K mg W fs ws → fs.lookup n = none → ws.lookup n = none
  | [], _, _, h, _ => by cases (show _ = _ from h); rfl
  | (k, x) :: fs, _, n, h, e => by
    obtain ⟨v, ws, e1, r, s⟩ := h
    subst e1
    rw [List.lookup_cons] at e ⊢
    cases hb : n == k with
    | true => rw [hb] at e; cases e
    | false => rw [hb] at e; exact relF_none s e
theorem relF_length : ∀ {fs : List (Str × D)} {ws : List (Str × V)}, relF K mg W fs ws → ws.length = fs.length
  | [], _, h => by cases (show _ = _ from h); rfl
  | (k, x) :: fs, _, h => by
    obtain ⟨v, ws, e1, r, s⟩ := h
    subst e1
    rw [List.length_cons, List.length_cons, relF_length s]
/-- a field stored -/
def putD (f : Str) (v : D) : List (Str × D) → List (Str × D)
  | [] => [(f, v)]
  | (g, x) :: r => if g = f then (g, v) :: r else (g, x) :: putD f v r
theorem relF_put {f : Str} {d : D} {v : V} (q : rel K mg W d v) : ∀ {fs : List (Str × D)} {ws : List (Str × V)}, relF K mg W fs ws → relF K mg W (putD f d fs) (putF f v ws)
  | [], _, h => by cases (show _ = _ from h); exact ⟨v, [], rfl, q, rfl⟩
  | (k, x) :: fs, _, h => by
    obtain ⟨y, ws, e1, r, s⟩ := h
    subst e1
    rw [show putF f v ((k, y) :: ws) = (if k = f then (k, v) :: ws else (k, y) :: putF f v ws) from rfl, show putD f d ((k, x) :: fs) = (if k = f then (k, d) :: fs else (k, x) :: putD f d fs) from rfl]
    by_cases hk : k = f
    · rw [if_pos hk, if_pos hk]
      exact ⟨v, ws, rfl, q, s⟩
    · rw [if_neg hk, if_neg hk]
      exact ⟨y, putF f v ws, rfl, r, relF_put q s⟩
end
/-- what a cell holds -/
inductive CO where
  | lst (ds : List D) | dik (kvs : List (Key × D)) | ins (c : Str) (fs : List (Str × D))
abbrev Gs := List CO
/-- an exception: its class, its fields -/
structure Ex where
  cls : Str
  fs : List (Str × D)
inductive Out (α : Type) where
  | ok (a : α) (g : Gs) | exc (x : Ex) (g : Gs) | bad
abbrev M (α : Type) := Gs → Out α
@[reducible] def Out.bind {α β : Type} : Out α → (α → M β) → Out β
  | .ok a g, k => k a g
  | .exc x g, _ => .exc x g
  | .bad, _ => .bad
@[reducible] def M.pure {α : Type} (a : α) : M α := fun g => .ok a g
@[reducible] def M.bind {α β : Type} (m : M α) (k : α → M β) : M β := fun g => (m g).bind k
@[reducible] def M.bad {α : Type} : M α := fun _ => .bad
section
variable (K : PySem.W.Frag) (mg : Str → Option Value) (W : Wd) (H : Hp)
def cellAt (p : Addr) : CO → Prop
  | .lst ds => ∃ vs, H p = some (.lst vs) ∧ rels K mg W ds vs
  | .dik kvs => ∃ ws, H p = some (.dK ws) ∧ relK K mg W kvs ws
  | .ins c fs => ∃ C dx ws, mg c = some (.ref C) ∧ H p = some (.ins C dx ws) ∧ relF K mg W fs ws
structure GOk (g : Gs) : Prop where
  len : g.length = W.th.length
  at_ : ∀ (i : Nat) (p : Addr) (c : CO), W.th[i]? = some p → g[i]? = some c → cellAt K mg W H p c
end
/-- the world fits the heap -/
structure WOk (W : Wd) (H : Hp) : Prop where
  sub : ∀ a o, W.F a = some o → H a = some o
  nd : W.th.Nodup
  free : ∀ a, a ∈ W.th → W.F a = none ∧ H a ≠ none
/-- from one world and heap to a later one -/
structure Ext (W : Wd) (H : Hp) (W' : Wd) (H' : Hp) : Prop where
  le : WLe W W'
  keep : ∀ a o, H a = some o → a ∉ W.th → H' a = some o
  old : ∀ a, H a ≠ none → W'.F a = W.F a ∧ (a ∈ W'.th → a ∈ W.th)
  there : ∀ a, H a ≠ none → H' a ≠ none
theorem Ext.refl (W : Wd) (H : Hp) : Ext W H W H := ⟨WLe.refl W, fun _ _ h _ => h, fun _ _ => ⟨rfl, id⟩, fun _ h => h⟩
theorem Ext.trans {W W1 W2 : Wd} {H H1 H2 : Hp} (a : Ext W H W1 H1) (b : Ext W1 H1 W2 H2) : Ext W H W2 H2 := by
  refine ⟨a.le.trans b.le, fun p o h n => ?_, fun p h => ?_, fun p h => b.there p (a.there p h)⟩
  · refine b.keep p o (a.keep p o h n) fun z => n ((a.old p (by rw [h]; exact fun q => nomatch q)).2 z)
  · have h1 := a.old p h
    have h2 := b.old p (a.there p h)
    exact ⟨h2.1.trans h1.1, fun z => h1.2 (h2.2 z)⟩
/-- the entry of a def: its world, its heap -/
structure Bs where
  W : Wd
  H : Hp
abbrev Env := List (Option D)
/-- a slot that owns its object: nobody else knows it, it is new since the entry -/
def ownAt (K : PySem.W.Frag) (mg : Str → Option Value) (B : Bs) (W : Wd) (H : Hp) (p : Addr) : D → Prop
  | .lst ds => ∃ vs, H p = some (.lst vs) ∧ rels K mg W ds vs
  | .dik kvs => ∃ ws, H p = some (.dK ws) ∧ relK K mg W kvs ws
  | .dit kvs => ∃ ws, H p = some (.dT ws) ∧ relT K mg W kvs ws
  | .ins c fs => ∃ C dx ws, mg c = some (.ref C) ∧ H p = some (.ins C dx ws) ∧ relF K mg W fs ws
  | _ => False
structure Own (K : PySem.W.Frag) (mg : Str → Option Value) (B : Bs) (W : Wd) (H : Hp) (p : Addr) (d : D) : Prop where
  at_ : ownAt K mg B W H p d
  nf : W.F p = none
  nt : p ∉ W.th
  new : B.H p = none
structure EnvOk (K : PySem.W.Frag) (mg : Str → Option Value) (B : Bs) (O : List Nat) (W : Wd) (σ : L2.St) (H : Hp) (ρ : Env) : Prop where
  len : ρ.length = σ.length
  val : ∀ (i : Nat) (d : D), i ∉ O → ρ[i]? = some (some d) → ∃ v, σ[i]? = some (some v) ∧ rel K mg W d v
  own : ∀ (i : Nat) (d : D), i ∈ O → ρ[i]? = some (some d) → ∃ p, σ[i]? = some (some (.ref p)) ∧ Own K mg B W H p d
  apart : ∀ (i j : Nat) (p : Addr), i ∈ O → j ∈ O → σ[i]? = some (some (.ref p)) → σ[j]? = some (some (.ref p)) → (∃ d, ρ[i]? = some (some d)) → (∃ d, ρ[j]? = some (some d)) → i = j
structure SR (K : PySem.W.Frag) (mg : Str → Option Value) (B : Bs) (O : List Nat) (W : Wd) (σ : L2.St) (H : Hp) (ρ : Env) (g : Gs) : Prop where
  ext : Ext B.W B.H W H
  wok : WOk W H
  env : EnvOk K mg B O W σ H ρ
  cells : GOk K mg W H g
/-- an exception in flight -/
def ExAt (K : PySem.W.Frag) (mg : Str → Option Value) (W : Wd) (H : Hp) (x : Ex) (c : Value) (dd : Option Addr) : Prop :=
  mg x.cls = some c ∧ match dd with
  | none => x.fs = []
  | some a => ∃ ws, H a = some (.xd ws) ∧ relF K mg W x.fs ws
section
variable {K : PySem.W.Frag} {mg : Str → Option Value} {B : Bs} {O : List Nat} {W W' : Wd} {σ : L2.St} {H H' : Hp} {ρ : Env} {g g' : Gs}
theorem Own.ext {p : Addr} {d : D} (o : Own K mg B W H p d) (x : Ext W H W' H') : Own K mg B W' H' p d := by
  obtain ⟨a, nf, nt, new⟩ := o
  have there : H p ≠ none := by
    cases d with
    | lst ds => obtain ⟨vs, h, _⟩ := a; rw [h]; simp
    | dik ds => obtain ⟨vs, h, _⟩ := a; rw [h]; simp
    | dit ds => obtain ⟨vs, h, _⟩ := a; rw [h]; simp
    | ins c fs => obtain ⟨C, dx, ws, m, h, _⟩ := a; rw [h]; simp
    | _ => exact a.elim
  refine ⟨?_, (x.old p there).1.trans nf, fun z => nt ((x.old p there).2 z), new⟩
  cases d with
  | lst ds => obtain ⟨vs, h, r⟩ := a; exact ⟨vs, x.keep _ _ h nt, rels_le x.le r⟩
  | dik ds => obtain ⟨vs, h, r⟩ := a; exact ⟨vs, x.keep _ _ h nt, relK_le x.le r⟩
  | dit ds => obtain ⟨vs, h, r⟩ := a; exact ⟨vs, x.keep _ _ h nt, relT_le x.le r⟩
  | ins c fs => obtain ⟨C, dx, ws, m, h, r⟩ := a; exact ⟨C, dx, ws, m, x.keep _ _ h nt, relF_le x.le r⟩
  | _ => exact a.elim
theorem EnvOk.ext (e : EnvOk K mg B O W σ H ρ) (x : Ext W H W' H') : EnvOk K mg B O W' σ H' ρ := by
  refine ⟨e.len, fun i d n h => ?_, fun i d n h => ?_, e.apart⟩
  · obtain ⟨v, h1, h2⟩ := e.val i d n h
    exact ⟨v, h1, rel_le x.le h2⟩
  · obtain ⟨p, h1, h2⟩ := e.own i d n h
    exact ⟨p, h1, h2.ext x⟩
theorem SR.ext' (s : SR K mg B O W σ H ρ g) (x : Ext W H W' H') (w : WOk W' H') (c : GOk K mg W' H' g') : SR K mg B O W' σ H' ρ g' :=
  ⟨s.ext.trans x, w, s.env.ext x, c⟩
/-- a new object, made known to all -/
theorem ext_new {p : Addr} {o : HO} (w : WOk W H) (hp : H p = none) : Ext W H ⟨upd W.F p o, W.th⟩ (upd H p o) ∧ WOk ⟨upd W.F p o, W.th⟩ (upd H p o) := by
  have fp : W.F p = none := by
    cases q : W.F p with
    | none => rfl
    | some u => rw [w.sub p u q] at hp; cases hp
  have tp : p ∉ W.th := fun z => (w.free p z).2 hp
  refine ⟨⟨⟨fun a u h => ?_, ⟨[], by simp⟩⟩, fun a u h _ => ?_, fun a h => ⟨?_, id⟩, fun a h => ?_⟩, ⟨fun a u h => ?_, w.nd, fun a h => ?_⟩⟩
  · show upd W.F p o a = some u
    rw [upd_ne (ne_of_none h fp)]; exact h
  · rw [upd_ne (ne_of_none h hp)]; exact h
  · show upd W.F p o a = W.F a
    exact upd_ne fun z => h (by rw [z]; exact hp)
  · rw [upd_ne fun z => h (by rw [z]; exact hp)]; exact h
  · have h : upd W.F p o a = some u := h
    by_cases e : a = p
    · subst e; rw [upd_same] at h ⊢; exact h
    · rw [upd_ne e] at h ⊢; exact w.sub a u h
  · have ne : a ≠ p := fun z => tp (by rw [← z]; exact h)
    show upd W.F p o a = none ∧ upd H p o a ≠ none
    rw [upd_ne ne, upd_ne ne]
    exact w.free a h
theorem cells_ext (c : GOk K mg W H g) (x : Ext W H W' H') (ht : W'.th = W.th) (hk : ∀ a, a ∈ W.th → H' a = H a) : GOk K mg W' H' g := by
  refine ⟨by rw [ht]; exact c.len, fun i p co e1 e2 => ?_⟩
  rw [ht] at e1
  have hp := hk p (List.mem_of_getElem? e1)
  have q := c.at_ i p co e1 e2
  cases co with
  | lst ds => obtain ⟨vs, h, r⟩ := q; exact ⟨vs, hp.trans h, rels_le x.le r⟩
  | dik ds => obtain ⟨vs, h, r⟩ := q; exact ⟨vs, hp.trans h, relK_le x.le r⟩
  | ins n fs => obtain ⟨C, dx, ws, m, h, r⟩ := q; exact ⟨C, dx, ws, m, hp.trans h, relF_le x.le r⟩
theorem cells_new {p : Addr} {o : HO} (w : WOk W H) (hp : H p = none) (c : GOk K mg W H g) : GOk K mg ⟨upd W.F p o, W.th⟩ (upd H p o) g :=
  cells_ext c (ext_new w hp).1 rfl fun a h => upd_ne fun z => (w.free a h).2 (by rw [z]; exact hp)
end
section
variable {α β : Type} (R : Wd → α → β → Prop) (K : PySem.W.Frag) (mg : Str → Option Value) (E : XK) (W : Wd) (H : Hp)
/-- .. of an expression, a test, a list of arguments -/
def Post : Out α → (β → Hp → Prop) → Prop
  | .ok d g, Q => ∀ v W' H', Ext W H W' H' → WOk W' H' → GOk K mg W' H' g → R W' d v → Q v H'
  | .exc x g, _ => ∀ c dd W' H', Ext W H W' H' → WOk W' H' → GOk K mg W' H' g → ExAt K mg W' H' x c dd → E c dd H'
  | .bad, _ => False
end
section
variable {α β α' β' : Type} {R : Wd → α → β → Prop} {R' : Wd → α' → β' → Prop} {K : PySem.W.Frag} {mg : Str → Option Value} {E E' : XK} {W W' : Wd} {H H' : Hp}
theorem Post.ext {o : Out α} {Q : β → Hp → Prop} (x : Ext W H W' H') (h : Post R K mg E W H o Q) : Post R K mg E W' H' o Q := by
  cases o with
  | ok d g => exact fun v W2 H2 e => h v W2 H2 (x.trans e)
  | exc y g => exact fun c dd W2 H2 e => h c dd W2 H2 (x.trans e)
  | bad => exact h
theorem Post.imp {o : Out α} {Q Q' : β → Hp → Prop} (h : Post R K mg E W H o Q) (q : ∀ v H, Q v H → Q' v H) : Post R K mg E W H o Q' := by
  cases o with
  | ok d g => exact fun v W2 H2 e w c r => q _ _ (h v W2 H2 e w c r)
  | exc y g => exact h
  | bad => exact h
theorem Post.bind {o : Out α} {k : α → M α'} {Q : β' → Hp → Prop} (h : Post R' K mg E W H (o.bind k) Q) :
    Post R K mg E W H o (fun v H1 => ∃ d W1 g1, Ext W H W1 H1 ∧ WOk W1 H1 ∧ GOk K mg W1 H1 g1 ∧ R W1 d v ∧ Post R' K mg E W1 H1 (k d g1) Q) := by
  cases o with
  | ok d g => exact fun v W2 H2 e w c r => ⟨d, W2, g, e, w, c, r, h.ext e⟩
  | exc y g => exact h
  | bad => exact h
theorem Post.done {d : α} {g : Gs} {v : β} {Q : β → Hp → Prop} (h : Post R K mg E W H (.ok d g) Q) (w : WOk W H) (c : GOk K mg W H g) (r : R W d v) : Q v H := h v W H (Ext.refl W H) w c r
/-- a new object is the outcome -/
theorem Post.new {d : α} {g : Gs} {v : β} {Q : β → Hp → Prop} {p : Addr} {o : HO} (h : Post R K mg E W H (.ok d g) Q) (w : WOk W H) (c : GOk K mg W H g) (hp : H p = none) (r : R ⟨upd W.F p o, W.th⟩ d v) : Q v (upd H p o) :=
  h v _ _ (ext_new w hp).1 (ext_new w hp).2 (cells_new w hp c) r
end
abbrev RD (X : Cx) : Wd → D → V → Prop := fun W => rel X.K X.mg W
abbrev RDs (X : Cx) : Wd → List D → List V → Prop := fun W => rels X.K X.mg W
abbrev RB : Wd → Bool → Bool → Prop := fun _ a b => b = a
abbrev FE := Env → M D
abbrev FT := Env → M Bool
abbrev FA := Env → M (List D)
def tE (X : Cx) (Wx : WX) (B : Bs) (O : List Nat) (f : FE) : TE := fun σ H Q => ∃ W ρ g, SR X.K X.mg B O W σ H ρ g ∧ Post (RD X) X.K X.mg (fun c d H' => Wx c d σ H') W H (f ρ g) Q
def tT (X : Cx) (Wx : WX) (B : Bs) (O : List Nat) (f : FT) : TT := fun σ H Q => ∃ W ρ g, SR X.K X.mg B O W σ H ρ g ∧ Post RB X.K X.mg (fun c d H' => Wx c d σ H') W H (f ρ g) Q
def tA (X : Cx) (Wx : WX) (B : Bs) (O : List Nat) (f : FA) : TA := fun σ H Q => ∃ W ρ g, SR X.K X.mg B O W σ H ρ g ∧ Post (RDs X) X.K X.mg (fun c d H' => Wx c d σ H') W H (f ρ g) Q
abbrev DE (X : Cx) (Wx : WX) (B : Bs) (O : List Nat) (e : Expr) (f : FE) : Prop := PE X e (tE X Wx B O f)
abbrev DT (X : Cx) (Wx : WX) (B : Bs) (O : List Nat) (e : Expr) (f : FT) : Prop := PT X e (tT X Wx B O f)
abbrev DW (X : Cx) (Wx : WX) (B : Bs) (O : List Nat) (e : Expr) (f : FT) : Prop := PW X e (tT X Wx B O f)
abbrev DA (X : Cx) (Wx : WX) (B : Bs) (O : List Nat) (es : List Expr) (f : FA) : Prop := PA X es (tA X Wx B O f)
section
variable {X : Cx} {Wx : WX} {B : Bs} {O : List Nat} {e a b : Expr} {es : List Expr} {f fa fb : FE} {fs : FA} {pos : Pos}
def fVar (i : Nat) : FE := fun ρ g => match ρ[i]? with
  | some (some d) => .ok d g
  | _ => .bad
theorem de_var (i : Nat) {x : Str} (hO : i ∉ O := by decide) (hN : X.N[i]? = some x := by rfl) (hv : Vis X.env.scope x := by first | exact Or.inl rfl | exact Or.inr (Or.inl rfl) | exact Or.inr (Or.inr rfl)) (hd : (x == ("__debug__" : Str)) = false := by decide)
    (hcd : (x == ("__classdict__" : Str)) = false := by decide) : DE X Wx B O (.Name x pos) (fVar i) := by
  refine ⟨fun pins s σ H Q I h => ?_⟩
  obtain ⟨W, ρ, g, S, P⟩ := h
  unfold fVar at P
  cases q : ρ[i]? with
  | none => rw [q] at P; exact P.elim
  | some o =>
    cases o with
    | none => rw [q] at P; exact P.elim
    | some d =>
      rw [q] at P
      obtain ⟨v, h1, h2⟩ := S.env.val i d hO q
      exact (pe_var hN hv hd hcd).run pins s σ H Q I ⟨v, h1, Post.done P S.wok S.cells h2⟩
def fC (d : D) : FE := fun _ g => .ok d g
theorem de_of {d : D} {v : V} (h : PE X e (tC v)) (r : ∀ W, rel X.K X.mg W d v) : DE X Wx B O e (fC d) := by
  refine ⟨fun pins s σ H Q I h' => ?_⟩
  obtain ⟨W, ρ, g, S, P⟩ := h'
  exact h.run pins s σ H Q I (Post.done P S.wok S.cells (r W))
theorem de_int {i : Int} {j} : DE X Wx B O (.Constant (.int i) j pos) (fC (.int i)) := de_of pe_int fun _ => rfl
theorem de_bl {i : Bool} {j} : DE X Wx B O (.Constant (.bool i) j pos) (fC (.bl i)) := de_of pe_bl fun _ => rfl
theorem de_str {i : Str} {j} : DE X Wx B O (.Constant (.str i) j pos) (fC (.str i)) := de_of pe_str fun _ => rfl
theorem de_non {j} : DE X Wx B O (.Constant .none j pos) (fC .non) := de_of pe_non fun _ => rfl
/-- a global of the top, by its value -/
theorem de_glob {x : Str} {d : D} {v : V} {u : Value} (hg : Gl X x) (hm : X.mg x = some u) (r : RelV v u) (rd : ∀ W, rel X.K X.mg W d v) (hd : (x == ("__debug__" : Str)) = false := by decide) : DE X Wx B O (.Name x pos) (fC d) := de_of (pe_glob hg hm r hd) rd
theorem DE.go {pins : List (Addr × Obj)} {s : Shared} {σ : L2.St} {H : Hp} {W : Wd} {ρ : Env} {g : Gs} {Q : VK} (h : DE X Wx B O e f) (I : Inv X pins σ H s) (S : SR X.K X.mg B O W σ H ρ g) (P : Post (RD X) X.K X.mg (fun c d H' => Wx c d σ H') W H (f ρ g) Q) :
    wpAny (model X.prog X.w) X.A (eval e X.env) (EP X pins σ Q) X.xe s := h.run pins s σ H Q I ⟨W, ρ, g, S, P⟩
/-- an operation on two values, as data -/
def DOp (X : Cx) (Wx : WX) (f : Value → Value → Sem Value) (k : D → D → M D) : Prop :=
  ∀ (pins : List (Addr × Obj)) (s : Shared) (σ : L2.St) (H : Hp) (W : Wd) (g : Gs) (x y : D) (vx vy : V) (ux uy : Value) (Q : VK), Inv X pins σ H s → WOk W H → GOk X.K X.mg W H g → rel X.K X.mg W x vx → rel X.K X.mg W y vy → RelV vx ux → RelV vy uy →
    Post (RD X) X.K X.mg (fun c d H' => Wx c d σ H') W H (k x y g) Q → wpAny (model X.prog X.w) X.A (f ux uy) (EP X pins σ Q) X.xe s
theorem DOp.of {f : Value → Value → Sem Value} {r : R2} {k : D → D → M D} (h : OpR X f r)
    (hk : ∀ (σ : L2.St) (H : Hp) (W : Wd) (g : Gs) (x y : D) (vx vy : V) (Q : VK), WOk W H → GOk X.K X.mg W H g → rel X.K X.mg W x vx → rel X.K X.mg W y vy → Post (RD X) X.K X.mg (fun c d H' => Wx c d σ H') W H (k x y g) Q → r vx vy H Q) : DOp X Wx f k :=
  fun pins s σ H W g x y vx vy ux uy Q I w c r1 r2 q1 q2 P => h pins s σ H vx vy ux uy Q I q1 q2 (hk σ H W g x y vx vy Q w c r1 r2 P)
def f2 (k : D → D → M D) (fa fb : FE) : FE := fun ρ => M.bind (fa ρ) fun x => M.bind (fb ρ) fun y => k x y
theorem two {f : Value → Value → Sem Value} {k : D → D → M D} (ho : DOp X Wx f k) (ha : DE X Wx B O a fa) (hb : DE X Wx B O b fb) {pins : List (Addr × Obj)} {s : Shared} {σ : L2.St} {H : Hp} {W : Wd} {ρ : Env} {g : Gs} {Q : VK}
    (I : Inv X pins σ H s) (S : SR X.K X.mg B O W σ H ρ g) (P : Post (RD X) X.K X.mg (fun c d H' => Wx c d σ H') W H (f2 k fa fb ρ g) Q) :
    wpAny (model X.prog X.w) X.A (eval a X.env) (fun v s₁ => wpAny (model X.prog X.w) X.A (eval b X.env) (fun u s₂ => wpAny (model X.prog X.w) X.A (f v u) (EP X pins σ Q) X.xe s₂) X.xe s₁) X.xe s := by
  refine thn (ha.go I S (Post.bind P)) fun v s1 ⟨x, H1, I1, r1, d, W1, g1, e1, w1, c1, q1, P1⟩ => ?_
  refine thn (hb.go I1 (S.ext' e1 w1 c1) (Post.bind P1)) fun u s2 ⟨y, H2, I2, r2, d2, W2, g2, e2, w2, c2, q2, P2⟩ => ?_
  exact ho pins s2 σ H2 W2 g2 d d2 x y v u Q I2 w2 c2 (rel_le e2.le q1) q2 r1 r2 P2
theorem de_bin {op : Operator} {k : D → D → M D} (ho : DOp X Wx (binaryOp op) k) (ha : DE X Wx B O a fa) (hb : DE X Wx B O b fb) : DE X Wx B O (.BinOp a op b pos) (f2 k fa fb) := by
  refine ⟨fun pins s σ H Q I h => ?_⟩
  obtain ⟨W, ρ, g, S, P⟩ := h
  exact wpAny_BinOp (two ho ha hb I S P)
theorem de_cmp {op : CmpOp} {k : D → D → M D} (ho : DOp X Wx (compareOp op) k) (ha : DE X Wx B O a fa) (hb : DE X Wx B O b fb) (hm : behindInMarks op b = false := by first | exact nobehind _ (by decide) (by decide) | rfl) : DE X Wx B O (.Compare a [op] [b] pos) (f2 k fa fb) := by
  refine ⟨fun pins s σ H Q I h => ?_⟩
  obtain ⟨W, ρ, g, S, P⟩ := h
  exact wpAny_Compare1 (two ho ha hb I S P) hm
end
end DL
set_option maxRecDepth 100000
set_option maxHeartbeats 4000000
namespace DL
open PySem PySem.Spec PyProof.Rows L2
structure FnG (P : Program) (w : World) (K : PySem.W.Frag) (mg : Str → Option Value) (base : Heap) (k : Nat) (f : Addr) (fd : FuncData) (ps : List Str) (sp : Sp) : Prop where
  len : ∀ vs H Q E, sp vs H Q E → vs.length = ps.length
  run : ∀ (A : Around) (outer : List PySem.Env) (s : Shared) (H : Hp) (args : Args) (us : List Value) (vs : List V) (Q : VK) (E : XK), Room k A → A.guards = some [] → Env0 P w K mg base A outer s H →
    BindsTo s fd args (ps.zip us) → Vals vs us → sp vs H Q E → codeAny (model P w) A (.call (.ref f) args) (CR (L2.CX P w) outer P w H s Q E) s
section
variable {P : Program} {w : World} {K : PySem.W.Frag} {mg : Str → Option Value} {base : Heap}
theorem FnG.mono {j k : Nat} {f : Addr} {fd : FuncData} {ps : List Str} {sp : Sp} (F : FnG P w K mg base j f fd ps sp) (h : j ≤ k) : FnG P w K mg base k f fd ps sp :=
  ⟨F.len, fun A outer s H args us vs Q E hr => F.run A outer s H args us vs Q E (hr.mono h)⟩
/-- a def by its body -/
theorem FnG.mk' {x qual : Str} {st : Stmt} {f : Addr} {fd : FuncData} {N ps : List Str} {k : Nat} {sp : Sp} (F : Fun K x qual st f fd) (S : FnScope N ps (defScope st)) (len : ∀ vs H Q E, sp vs H Q E → vs.length = ps.length)
    (hbody : ∀ (cdv : Value) (A : Around) (outer : List PySem.Env) (s : Shared) (H : Hp) (vs : List V) (Q : VK) (E : XK), Room k (A.deeper (envOfC qual (defScope st) s.heap.objs.size f cdv)) → A.guards = some [] → sp vs H Q E →
      ∃ t, PSs (cxOf (L2.CX P w) P w K mg base N qual (defScope st) f cdv A outer s H E) (defBody st) t ∧ t { nx := fun _ H' => Q .non H', rt := Q } (L2.start N vs) H) : FnG P w K mg base (k + 1) f fd ps sp := by
  obtain ⟨oc, od, kV, doc, pm, an, cdv, ct, osl, rfl, lk, hcd⟩ := F.ex
  constructor
  · exact len
  intro A outer s H args us vs Q E hr hgd e0 hb r hsp
  have hl := len vs H Q E hsp
  have keepB : ∀ b o, base.get? b = some o → s.heap.get? b = some o := fun b o e => (e0.bs b o e).1
  have hkind : ∀ y ∈ ps.zip us, (defScope st).names.lookup y.1 = some .local ∨ ((defScope st).names.lookup y.1 = some .cell ∧ ((cellsFrom (s.heap.objs.size + 1) (defScope st).names []).lookup y.1).isSome = true) := by
    rintro ⟨n, v⟩ hy
    have mem := (List.of_mem_zip hy).1
    rcases S.par n mem with q | q
    · exact .inl q
    · exact .inr ⟨q, PySem.W.cellsFrom_some _ _ _ (.inl q)⟩
  refine codeAny_call_function hr.depth ((e0.mod.kin.keeps keepB) _ _ lk) rfl S.co S.gen rfl (PySem.W.codeRec_of (e0.mod.kin.keeps keepB) hcd) (hb _ _ _ _ ?_)
  refine wpAny_newFunctionEnv_cells S.kind hkind fun env he s1 x => ?_
  cases he
  refine ⟨(e0.mod.nolimit.keeps keepB).keeps x.toInCall.keep, codeAny_func ?_⟩
  obtain ⟨t, ht, hq⟩ := hbody cdv A outer s H vs Q E (hr.deeper _) hgd hsp
  have I := inv_start (CX := L2.CX P w) (E := E) (N := N) S hr.hd e0 hl r x
  refine wpAny_mono (ht.run [] s1 (L2.start N vs) H _ I hq) (fun fl s' hs => ?_) (fun _ _ hs => hs)
  cases fl with
  | brk => obtain ⟨σ', H', J, q⟩ := hs; cases q
  | cont => obtain ⟨σ', H', J, q⟩ := hs; cases q
  | next => obtain ⟨σ', H', J, q⟩ := hs; exact ⟨V.non, H', J.os, J.bare, J.base, J.hok, rfl, q⟩
  | ret u => obtain ⟨v, σ', H', J, rv, q⟩ := hs; exact ⟨v, H', J.os, J.bare, J.base, J.hok, rv, q⟩
end
section
variable {X : Cx} {k : Nat} {f : Addr} {fd : FuncData} {ps : List Str} {sp : Sp}
/-- .. called with values -/
theorem FnG.call {E : XK} {pins : List (Addr × Obj)} {σ : L2.St} {H : Hp} {s : Shared} {Q : VK} {vs : List V} {args : Args} {us' : List Value} (F : FnG X.prog X.w X.K X.mg X.base k f fd ps sp) (hr : Room k X.A) (hgd : X.A.guards = some []) (hx : PassesAt (L2.CX X.prog X.w) X σ E)
    (I : Inv X pins σ H s) (b : BindsTo s fd args (ps.zip us')) (r : Vals vs us') (h : sp vs H Q E) : codeAny (model X.prog X.w) X.A (.call (.ref f) args) (fun r s' => match r with | .ok (.ret u) => EP X pins σ Q u s' | .ok _ => False | .error e => X.xe e s') s := by
  refine codeAny_mono (F.run X.A X.stack s H args us' vs Q E hr hgd I.env0 b r h) fun r s' hq => ?_
  match r, hq with
  | .error e, hq => exact hx pins H s e s' I hq
  | .ok (.ret u), hq => exact I.after hq
end
/-- the law's own call, behind the top -/
theorem law_callG {P : Program} {w : World} {K : PySem.W.Frag} {mg mb : Str → Option Value} {k : Nat} {fa a : Addr} {fd : FuncData} {x : Str} {sp : Sp} {s₁ : Shared} {vs : List Value} {ns : List Int}
    (KX : K.In s₁.heap) (hns : s₁.heap.Ns mainGlobals mg) (hb : s₁.heap.Ns builtinsNs mb) (hbb : ∀ x : Str, x ≠ "__name__" → mb x = bootBuiltins x) (hlim : s₁.heap.NoLimit) (hg : s₁.gens = #[])
    (ha : s₁.heap.get? a = some { cls := .type "list", data := .seq vs.toArray }) (hi : IntsAre vs ns) (hl : ns.length ≤ sizeLine) (hr : Room k callerA)
    (F : ∀ base : Heap, K.In base → base.Ns mainGlobals mg → FnG P w K mg base k fa fd [x] sp) (hbind : ∀ (s : Shared) (u : Value), BindsTo s fd ⟨[u], []⟩ [(x, u)])
    (hsp : ∀ H : Hp, Only H → SqL K H a (ns.map V.int) → sp [.ref a] H (fun v _ => v = .bl true) E0) :
    codeAny (model P w) callerA (.call (.ref fa) ⟨[.ref a], []⟩) (fun r s' => r = .ok (.ret (.bool true)) ∧ OldK s₁.heap s'.heap ∧ s'.os = s₁.os ∧ AllBare s'.gens) s₁ := by
  have rv := vals_ints hi
  have lenV := hi.length
  have main : ∀ H : Hp, Only H → SqL K H a (ns.map V.int) → HOk P w H s₁.heap → (∀ b, H b ≠ none → b = a ∧ K.lookup a = none) →
      codeAny (model P w) callerA (.call (.ref fa) ⟨[.ref a], []⟩) (fun r s' => r = .ok (.ret (.bool true)) ∧ OldK s₁.heap s'.heap ∧ s'.os = s₁.os ∧ AllBare s'.gens) s₁ := by
    intro H hO hS hok hA
    -- what is tracked is the script, and no dict
    have free : ∀ (b : Addr) (o : Obj), s₁.heap.get? b = some o → (b = a → False) → H b = none := fun b o e n => by
      cases q : H b with
      | none => rfl
      | some u => exact (n (hA b (by rw [q]; exact fun z => nomatch z)).1).elim
    have ns' : ∀ (b : Addr) (m : Str → Option Value), s₁.heap.Ns b m → (hidT s₁.heap H).Ns b m := by
      intro b m ⟨o, es, ep, e, d, r⟩
      refine ⟨o, es, ep, hidT_get e (free b o e fun z => ?_), d, r⟩
      rw [z, ha] at e
      cases e
      cases (show Data.seq vs.toArray _ = Data.dict es ep from d)
    have kin : K.In (hidT s₁.heap H) := by
      intro b o e
      refine hidT_get (KX b o e) ?_
      cases q : H b with
      | none => rfl
      | some u =>
        obtain ⟨z1, z2⟩ := hA b (by rw [q]; exact fun z => nomatch z)
        rw [z1, z2] at e
        cases e
    have hM : Mod K mg (hidT s₁.heap H) := ⟨kin, ns' _ _ hns, ⟨mb, ns' _ _ hb, hbb⟩, let ⟨mc, h1, h2⟩ := hlim; ⟨mc, ns' _ _ h1, h2⟩⟩
    have e0 : Env0 P w K mg (hidT s₁.heap H) callerA [] s₁ H := ⟨rfl, hM, fun b o e => of_hidT e, Nat.le_of_eq (hidT_size _ _), trivial, fun b hb => (nomatch hb), hok, .of_eq hg⟩
    refine codeAny_mono ((F _ kin (ns' _ _ hns)).run callerA [] s₁ H ⟨[.ref a], []⟩ [.ref a] [.ref a] _ _ hr rfl e0 (hbind s₁ (.ref a)) (.cons rfl .nil) (hsp H hO hS)) fun r s' h => ?_
    match r, h with
    | .error e, h => obtain ⟨_, _, _, _, _, _, _, _, _, _, _, _, z⟩ := (show L2.CX P w [] H s₁ E0 e s' from h); exact z.elim
    | .ok (.ret u), h =>
      obtain ⟨v, H', os, bare, un, hok', r', q⟩ := h
      cases (show v = .bl true from q)
      cases (show u = Value.bool true from r')
      refine ⟨rfl, OldK.of_keep fun b o e => ?_, os, bare⟩
      rcases hO b with z | ⟨ob, xs, z⟩
      · exact un.keep b o e z (fun y => nomatch y) (fun y => nomatch y)
      · obtain ⟨e1, _⟩ := hok b _ z
        obtain ⟨e2, _⟩ := hok' b _ (un.frzs b ob _ z)
        rw [e] at e1
        cases e1
        exact e2
  cases hk : K.lookup a with
  | some o =>
    have e := KX a o hk
    rw [ha] at e
    cases e
    exact main (fun _ => none) (fun _ => .inl rfl) (.inr ⟨_, vs.toArray, _, hk, rfl, rfl, rfl, by rw [List.size_toArray, lenV]; exact hl, by simpa using rv⟩) (fun b u z => (nomatch (show (none : Option HO) = some u from z))) (fun b z => absurd rfl z)
  | none =>
    have at_a : ∀ {b : Addr} {u : HO}, (if b = a then some (HO.frz { cls := .type "list", data := .seq vs.toArray } (.lst (ns.map V.int))) else none) = some u → b = a ∧ HO.frz { cls := .type "list", data := .seq vs.toArray } (.lst (ns.map V.int)) = u := by
      intro b u z
      by_cases hb : b = a
      · rw [if_pos hb] at z; exact ⟨hb, Option.some.inj z⟩
      · rw [if_neg hb] at z; cases z
    refine main (fun b => if b = a then some (.frz { cls := .type "list", data := .seq vs.toArray } (.lst (ns.map V.int))) else none) (fun b => ?_) (.inl (.inr ⟨_, if_pos rfl⟩)) (fun b u z => ?_) (fun b z => ?_)
    · by_cases hb : b = a
      · exact .inr ⟨_, _, if_pos hb⟩
      · exact .inl (if_neg hb)
    · obtain ⟨z1, z2⟩ := at_a z
      subst z1
      subst z2
      exact ⟨ha, by rw [List.length_map]; exact hl, vs, _, rv, ha⟩
    · cases q : (if b = a then some (HO.frz { cls := .type "list", data := .seq vs.toArray } (.lst (ns.map V.int))) else none) with
      | none => exact absurd q z
      | some u => exact ⟨(at_a q).1, hk⟩
/-- the goal that k_head leaves, from the law's promise -/
theorem walk_ofG {l : PySem.W.OpenLaw} {n k : Nat} {q : Program} {loose : List Str} {XP : (Str → Option Value) → Heap → Prop} {YP : World → Heap → Prop} {d : DefRec} {K : Params → PySem.W.Frag} {sp : World → (Str → Option Value) → Sp} {x : Str}
    (hn : l.most = some n) (hn2 : n ≤ sizeLine) (hdf : d.params.defaults = []) (hr : Room k callerA) (hY : ∀ (w : World) (h : Heap), YP w h → (K w.params).In h)
    (F : ∀ (w : World) (mg : Str → Option Value) (fa : Addr) (h : Heap), (K w.params).In h → h.Ns mainGlobals mg → mg d.name = some (.ref fa) →
      ∃ fd : FuncData, (∀ (s : Shared) (u : Value), BindsTo s fd ⟨[u], []⟩ [(x, u)]) ∧ ∀ base : Heap, (K w.params).In base → base.Ns mainGlobals mg → FnG l.prog w (K w.params) mg base k fa fd [x] (sp w mg))
    (hsp : ∀ (w : World) (mg : Str → Option Value) (H : Hp) (a : Addr) (ns : List Int), ns.length ≤ n → (∀ z ∈ ns, Builtin.Int.intBits z ≤ 1048576) → Only H → SqL (K w.params) H a (ns.map V.int) → sp w mg [.ref a] H (fun v _ => v = .bl true) E0) :
    PySem.W.WalkO q loose XP YP l.row.toRowW d [] (fun f vs => PySem.call f vs) := by
  refine Att.attach_callB hn hdf fun w s₀ s₁ mg mb fa o pm cd doc a vs ns G Y ho hd hcd hmg hobj hints hlen hbits hg => ?_
  obtain ⟨fd, hb, hF⟩ := F w mg fa _ (hY w _ Y) G.T.g hmg
  exact law_callG (hY w _ Y) G.T.g G.T.b G.T.builtins G.T.nolimit hg hobj hints (Nat.le_trans hlen hn2) hr hF hb fun H hO hS => hsp w mg H a ns hlen hbits hO hS
end DL
set_option maxRecDepth 100000
set_option maxHeartbeats 4000000
namespace DL
open PySem PySem.Spec PyProof.Rows L2
def okSz (n : Nat) : Bool := decide (n ≤ sizeLine)
/-- + -/
def dAdd : D → D → M D
  | .int i, .int j, g => .ok (.int (i + j)) g
  | .str a, .str b, g => if okSz (a.length + b.length) then .ok (.str (a ++ b)) g else .bad
  | .lst a, .lst b, g => if okSz (a.length + b.length) then .ok (.lst (a ++ b)) g else .bad
  | .tup a, .tup b, g => if okSz (a.length + b.length) then .ok (.tup (a ++ b)) g else .bad
  | _, _, _ => .bad
instance decMulX (i j : Int) : Decidable (CMulX i j) := by unfold CMulX; infer_instance
instance decPow (i j : Int) : Decidable (CPow i j) := by unfold CPow; infer_instance
/-- an operation on two ints -/
def dII (k : Int → Int → Option D) : D → D → M D
  | .int i, .int j, g => match k i j with
    | some d => .ok d g
    | none => .bad
  | _, _, _ => .bad
def dSub : D → D → M D := dII fun i j => some (.int (i - j))
def okMul (i j : Int) : Bool := decide (CMulX i j)
def dMul : D → D → M D
  | .int i, .int j, g => if okMul i j then .ok (.int (i * j)) g else .bad
  | .tup xs, .int k, g => if decide (0 < xs.length ∧ 2 ≤ k ∧ k ≤ 1000 ∧ xs.length ≤ 1000) then .ok (.tup (List.replicate k.toNat xs).flatten) g else .bad
  | .lst xs, .int k, g => if decide (-(2 ^ 63) ≤ k ∧ k < 2 ^ 63 ∧ xs.length * k.toNat ≤ sizeLine) then .ok (.lst (List.replicate k.toNat xs).flatten) g else .bad
  | _, _, _ => .bad
def okDiv (j : Int) : Bool := decide (j ≠ 0 ∧ j.natAbs.log2 < 9000)
def dFdiv : D → D → M D := dII fun i j => if okDiv j then some (.int (i.fdiv j)) else none
def dMod : D → D → M D := dII fun i j => if decide (j ≠ 0) then some (.int (i.fmod j)) else none
def okPow (i j : Int) : Bool := decide (CPow i j)
def dPow : D → D → M D := dII fun i j => if okPow i j then some (.int (i ^ j.toNat)) else none
def dLt : D → D → M D := dII fun i j => some (.bl (decide (i < j)))
def dLe : D → D → M D := dII fun i j => some (.bl (decide (i ≤ j)))
def dGt : D → D → M D := dII fun i j => some (.bl (decide (j < i)))
def dGe : D → D → M D := dII fun i j => some (.bl (decide (j ≤ i)))
section
variable {X : Cx} {Wx : WX}
theorem op_fdivG : OpR X (binaryOp .FloorDiv) (rI (fun _ j => okDiv j = true) fun i j => .int (i.fdiv j)) := opI fun _ j _ _ _ _ _ hc q => by
  have h : j ≠ 0 ∧ j.natAbs.log2 < 9000 := of_decide_eq_true hc
  exact floordiv_int h.1 q (.inl (PyProof.noPylong_of_log2 h.2))
theorem dop_add : DOp X Wx (binaryOp .Add) dAdd := by
  intro pins s σ H W g x y vx vy ux uy Q I w c r1 r2 q1 q2 P
  cases x with
  | int i =>
    cases y with
    | int j =>
      cases (show vx = _ from r1); cases (show vy = _ from r2)
      exact op_add pins s σ H _ _ _ _ Q I q1 q2 ⟨i, j, rfl, rfl, Post.done P w c rfl⟩
    | _ => exact P.elim
  | str a =>
    cases y with
    | str b =>
      cases (show vx = _ from r1); cases (show vy = _ from r2)
      unfold dAdd at P
      dsimp only at P
      by_cases hz : okSz (a.length + b.length) = true
      · rw [if_pos hz] at P
        exact op_add_str pins s σ H _ _ _ _ Q I q1 q2 ⟨a, b, rfl, rfl, of_decide_eq_true hz, Post.done P w c rfl⟩
      · rw [if_neg hz] at P; exact P.elim
    | _ => exact P.elim
  | lst a =>
    cases y with
    | lst b =>
      obtain ⟨p, vs, rfl, f1, s1⟩ := r1
      obtain ⟨q, ws, rfl, f2, s2⟩ := r2
      unfold dAdd at P
      dsimp only at P
      by_cases hz : okSz (a.length + b.length) = true
      · rw [if_pos hz] at P
        have hz' : a.length + b.length ≤ sizeLine := of_decide_eq_true hz
        refine op_cat pins s σ H _ _ _ _ Q I q1 q2 ⟨p, q, vs, ws, rfl, rfl, w.sub _ _ f1, w.sub _ _ f2, by rw [rels_length s1, rels_length s2]; exact hz', fun l hl => ?_⟩
        refine Post.new P w c hl ⟨l, _, rfl, upd_same, ?_⟩
        have e := (ext_new (o := .lst (vs ++ ws)) w hl).1
        exact rels_append (rels_le e.le s1) (rels_le e.le s2)
      · rw [if_neg hz] at P; exact P.elim
    | _ => exact P.elim
  | tup a =>
    cases y with
    | tup b =>
      obtain ⟨p, vs, rfl, f1, s1⟩ := r1
      obtain ⟨q, ws, rfl, f2, s2⟩ := r2
      unfold dAdd at P
      dsimp only at P
      by_cases hz : okSz (a.length + b.length) = true
      · rw [if_pos hz] at P
        have hz' : a.length + b.length ≤ sizeLine := of_decide_eq_true hz
        have l1 := rels_length s1
        have l2 := rels_length s2
        refine op_catA pins s σ H _ _ _ _ Q I q1 q2 ⟨p, q, vs, ws, rfl, rfl, SqT.of (w.sub _ _ f1), SqT.of (w.sub _ _ f2), by omega, fun e => ?_, fun _ e => ?_, fun _ _ l hl => ?_⟩
        · subst e
          have ea : a = [] := List.eq_nil_of_length_eq_zero (by simpa using l1.symm)
          subst ea
          exact Post.done P w c ⟨q, ws, rfl, f2, s2⟩
        · subst e
          have ea : b = [] := List.eq_nil_of_length_eq_zero (by simpa using l2.symm)
          subst ea
          rw [List.append_nil] at P
          exact Post.done P w c ⟨p, vs, rfl, f1, s1⟩
        · have e := (ext_new (o := .tup (vs ++ ws)) w hl).1
          exact Post.new P w c hl ⟨l, _, rfl, upd_same, rels_append (rels_le e.le s1) (rels_le e.le s2)⟩
      · rw [if_neg hz] at P; exact P.elim
    | _ => exact P.elim
  | _ => cases y <;> exact P.elim
theorem dII_bad {k : Int → Int → Option D} {x y : D} {g : Gs} : dII k x y g = .bad ∨ ∃ i j d, x = .int i ∧ y = .int j ∧ k i j = some d ∧ dII k x y g = .ok d g := by
  unfold dII
  split
  · rename_i i j
    cases h : k i j with
    | none => exact .inl rfl
    | some d => exact .inr ⟨i, j, d, rfl, rfl, h, rfl⟩
  · exact .inl rfl
theorem dop_ii {f : Value → Value → Sem Value} {C : Int → Int → Prop} {r : Int → Int → V} {k : Int → Int → Option D} (h : OpR X f (rI C r)) (hk : ∀ i j d, k i j = some d → C i j ∧ ∀ W, rel X.K X.mg W d (r i j)) : DOp X Wx f (dII k) := by
  intro pins s σ H W g x y vx vy ux uy Q I w c r1 r2 q1 q2 P
  rcases dII_bad (k := k) (x := x) (y := y) (g := g) with e | ⟨i, j, d, rfl, rfl, e, e2⟩
  · rw [e] at P; exact P.elim
  · rw [e2] at P
    cases (show vx = _ from r1); cases (show vy = _ from r2)
    obtain ⟨hC, hr⟩ := hk i j d e
    exact h pins s σ H _ _ _ _ Q I q1 q2 ⟨i, j, rfl, rfl, hC, Post.done P w c (hr _)⟩
theorem dop_i0 {f : Value → Value → Sem Value} {r : Int → Int → V} {k : Int → Int → D} (h : OpR X f (rI0 r)) (hr : ∀ i j W, rel X.K X.mg W (k i j) (r i j)) : DOp X Wx f (dII fun i j => some (k i j)) := by
  intro pins s σ H W g x y vx vy ux uy Q I w c r1 r2 q1 q2 P
  rcases dII_bad (k := fun i j => some (k i j)) (x := x) (y := y) (g := g) with e | ⟨i, j, d, rfl, rfl, e, e2⟩
  · rw [e] at P; exact P.elim
  · rw [e2] at P
    cases (show vx = _ from r1); cases (show vy = _ from r2)
    have e' := Option.some.inj e
    rw [← e'] at P
    exact h pins s σ H _ _ _ _ Q I q1 q2 ⟨i, j, rfl, rfl, Post.done P w c (hr i j _)⟩
theorem dop_sub : DOp X Wx (binaryOp .Sub) dSub := dop_i0 op_sub fun _ _ _ => rfl
theorem dop_lt : DOp X Wx (compareOp .Lt) dLt := dop_i0 op_lt fun _ _ _ => rfl
theorem dop_le : DOp X Wx (compareOp .LtE) dLe := dop_i0 op_le fun _ _ _ => rfl
theorem dop_gt : DOp X Wx (compareOp .Gt) dGt := dop_i0 op_gt fun _ _ _ => rfl
theorem dop_ge : DOp X Wx (compareOp .GtE) dGe := dop_i0 op_ge fun _ _ _ => rfl
theorem if_some {c : Prop} [Decidable c] {a d : D} (h : (if c then some a else none) = some d) : c ∧ a = d := by
  by_cases hc : c
  · rw [if_pos hc] at h; exact ⟨hc, Option.some.inj h⟩
  · rw [if_neg hc] at h; cases h
theorem dop_fdiv : DOp X Wx (binaryOp .FloorDiv) dFdiv := dop_ii op_fdivG fun i j d h => by
  obtain ⟨h1, rfl⟩ := if_some h
  exact ⟨h1, fun _ => rfl⟩
theorem dop_mod : DOp X Wx (binaryOp .Mod) dMod := dop_ii op_modN fun i j d h => by
  obtain ⟨h1, rfl⟩ := if_some h
  exact ⟨of_decide_eq_true h1, fun _ => rfl⟩
theorem dop_pow : DOp X Wx (binaryOp .Pow) dPow := dop_ii op_pow fun i j d h => by
  obtain ⟨h1, rfl⟩ := if_some h
  exact ⟨of_decide_eq_true h1, fun _ => rfl⟩
theorem rels_repl {K : PySem.W.Frag} {mg : Str → Option Value} {W : Wd} {ds : List D} {vs : List V} (h : rels K mg W ds vs) : ∀ n, rels K mg W (List.replicate n ds).flatten (List.replicate n vs).flatten
  | 0 => rels_nil
  | n + 1 => by
    rw [List.replicate_succ, List.replicate_succ, List.flatten_cons, List.flatten_cons]
    exact rels_append h (rels_repl h n)
theorem dop_mul : DOp X Wx (binaryOp .Mult) dMul := by
  intro pins s σ H W g x y vx vy ux uy Q I w c r1 r2 q1 q2 P
  cases x with
  | int i =>
    cases y with
    | int j =>
      cases (show vx = _ from r1); cases (show vy = _ from r2)
      unfold dMul at P
      dsimp only at P
      by_cases hz : okMul i j = true
      · rw [if_pos hz] at P
        exact op_mulX pins s σ H _ _ _ _ Q I q1 q2 ⟨i, j, rfl, rfl, of_decide_eq_true hz, Post.done P w c rfl⟩
      · rw [if_neg hz] at P; exact P.elim
    | _ => exact P.elim
  | tup a =>
    cases y with
    | int k =>
      obtain ⟨p, vs, rfl, f1, s1⟩ := r1
      cases (show vy = _ from r2)
      unfold dMul at P
      dsimp only at P
      by_cases hz : decide (0 < a.length ∧ 2 ≤ k ∧ k ≤ 1000 ∧ a.length ≤ 1000) = true
      · rw [if_pos hz] at P
        obtain ⟨z1, z2, z3, z4⟩ := of_decide_eq_true hz
        have l1 := rels_length s1
        refine op_repT pins s σ H _ _ _ _ Q I q1 q2 ⟨p, k, vs, rfl, rfl, SqT.of (w.sub _ _ f1), fun e => by rw [← l1, e] at z1; exact absurd z1 (Nat.lt_irrefl _), z2, z3, by omega, fun l hl => ?_⟩
        have e := (ext_new (o := .tup (List.replicate k.toNat vs).flatten) w hl).1
        exact Post.new P w c hl ⟨l, _, rfl, upd_same, rels_repl (rels_le e.le s1) _⟩
      · rw [if_neg hz] at P; exact P.elim
    | _ => exact P.elim
  | lst a =>
    cases y with
    | int k =>
      obtain ⟨p, vs, rfl, f1, s1⟩ := r1
      cases (show vy = _ from r2)
      unfold dMul at P
      dsimp only at P
      by_cases hz : decide (-(2 ^ 63) ≤ k ∧ k < 2 ^ 63 ∧ a.length * k.toNat ≤ sizeLine) = true
      · rw [if_pos hz] at P
        obtain ⟨z1, z2, z3⟩ := of_decide_eq_true hz
        have l1 := rels_length s1
        refine op_rep pins s σ H _ _ _ _ Q I q1 q2 ⟨p, k, vs, rfl, rfl, w.sub _ _ f1, z1, z2, by rw [l1]; exact z3, fun l hl => ?_⟩
        have e := (ext_new (o := .lst (List.replicate k.toNat vs).flatten) w hl).1
        exact Post.new P w c hl ⟨l, _, rfl, upd_same, rels_repl (rels_le e.le s1) _⟩
      · rw [if_neg hz] at P; exact P.elim
    | _ => exact P.elim
  | _ => cases y <;> exact P.elim
mutual
def pd : D → Option PyData
  | .non => some .none
  | .bl b => some (.bool b)
  | .int i => some (.int i)
  | .str x => some (.str x)
  | .tup ds => (pds ds).map .tuple
  | .lst ds => (pds ds).map .list
  | _ => none
def pds : List D → Option (List PyData)
  | [] => some []
  | d :: ds => match pd d, pds ds with
    | some x, some xs => some (x :: xs)
    | _, _ => none
end
section
variable {K : PySem.W.Frag} {mg : Str → Option Value} {W : Wd} {H : Hp}
theorem pd_tup {ds : List D} {p : PyData} (e : pd (.tup ds) = some p) : ∃ ps, pds ds = some ps ∧ p = .tuple ps := by
  unfold pd at e
  cases q : pds ds with
  | none => rw [q] at e; cases e
  | some xs => rw [q] at e; exact ⟨xs, rfl, (Option.some.inj e).symm⟩
theorem pd_lst {ds : List D} {p : PyData} (e : pd (.lst ds) = some p) : ∃ ps, pds ds = some ps ∧ p = .list ps := by
  unfold pd at e
  cases q : pds ds with
  | none => rw [q] at e; cases e
  | some xs => rw [q] at e; exact ⟨xs, rfl, (Option.some.inj e).symm⟩
theorem pds_cons {d : D} {ds : List D} {ps : List PyData} (e : pds (d :: ds) = some ps) : ∃ x xs, pd d = some x ∧ pds ds = some xs ∧ ps = x :: xs := by
  unfold pds at e
  cases q : pd d with
  | none => rw [q] at e; cases e
  | some x =>
    cases q2 : pds ds with
    | none => rw [q, q2] at e; cases e
    | some xs => rw [q, q2] at e; exact ⟨x, xs, rfl, rfl, (Option.some.inj e).symm⟩
mutual
theorem dp_of (w : WOk W H) : ∀ (d : D) (v : V) (p : PyData), rel K mg W d v → pd d = some p → Dp K H v p
  | .non, v, p, r, e => by
    have e1 : v = .non := r
    have e2 : PyData.none = p := Option.some.inj e
    rw [e1, ← e2]; exact .non
  | .bl b, v, p, r, e => by
    have e1 : v = .bl b := r
    have e2 : PyData.bool b = p := Option.some.inj e
    rw [e1, ← e2]; exact .bl b
  | .int b, v, p, r, e => by
    have e1 : v = .int b := r
    have e2 : PyData.int b = p := Option.some.inj e
    rw [e1, ← e2]; exact .int b
  | .str b, v, p, r, e => by
    have e1 : v = .str b := r
    have e2 : PyData.str b = p := Option.some.inj e
    rw [e1, ← e2]; exact .str b
  | .tup ds, v, p, r, e => by
    obtain ⟨q, vs, e1, f, s⟩ := r
    obtain ⟨ps, h1, h2⟩ := pd_tup e
    rw [e1, h2]
    exact .tup (SqT.of (w.sub _ _ f)) (dps_of w ds vs ps s h1)
  | .lst ds, v, p, r, e => by
    obtain ⟨q, vs, e1, f, s⟩ := r
    obtain ⟨ps, h1, h2⟩ := pd_lst e
    rw [e1, h2]
    exact .lst (.of (w.sub _ _ f)) (dps_of w ds vs ps s h1)
  | .ktp _, _, _, _, e => absurd (show none = some _ from e) (fun z => nomatch z)
  | .kst _, _, _, _, e => absurd (show none = some _ from e) (fun z => nomatch z)
  | .dik _, _, _, _, e => absurd (show none = some _ from e) (fun z => nomatch z)
  | .dit _, _, _, _, e => absurd (show none = some _ from e) (fun z => nomatch z)
  | .ins _ _, _, _, _, e => absurd (show none = some _ from e) (fun z => nomatch z)
  | .cell _, _, _, _, e => absurd (show none = some _ from e) (fun z => nomatch z)
  | .glo _, _, _, _, e => absurd (show none = some _ from e) (fun z => nomatch z)
  | .ty _, _, _, _, e => absurd (show none = some _ from e) (fun z => nomatch z)
  | .byv _, _, _, _, e => absurd (show none = some _ from e) (fun z => nomatch z)
theorem dps_of (w : WOk W H) : ∀ (ds : List D) (vs : List V) (ps : List PyData), rels K mg W ds vs → pds ds = some ps → DpAll K H vs ps
  | [], vs, ps, r, e => by
    have e1 : vs = [] := r
    have e2 : [] = ps := Option.some.inj e
    rw [e1, ← e2]; exact .nil
  | d :: ds, vs, ps, r, e => by
    obtain ⟨v, ws, e1, r1, r2⟩ := r
    obtain ⟨x, xs, h1, h2, h3⟩ := pds_cons e
    rw [e1, h3]
    exact .cons (dp_of w d v x r1 h1) (dps_of w ds ws xs r2 h2)
end
end
def dEqB (x y : D) : Option Bool := match pd x, pd y with
  | some a, some b => if SeqAt.shaped a && SeqAt.shaped b then some (PyData.eqv a b) else none
  | _, _ => none
def dEq (x y : D) : M D := fun g => match dEqB x y with
  | some b => .ok (.bl b) g
  | none => .bad
def dNe (x y : D) : M D := fun g => match dEqB x y with
  | some b => .ok (.bl (!b)) g
  | none => .bad
theorem dEqB_some {x y : D} {b : Bool} (h : dEqB x y = some b) : ∃ p q, pd x = some p ∧ pd y = some q ∧ SeqAt.shaped p = true ∧ SeqAt.shaped q = true ∧ PyData.eqv p q = b := by
  unfold dEqB at h
  cases h1 : pd x with
  | none => rw [h1] at h; cases h
  | some p =>
    cases h2 : pd y with
    | none => rw [h1, h2] at h; cases h
    | some q =>
      rw [h1, h2] at h
      dsimp only at h
      by_cases hz : (SeqAt.shaped p && SeqAt.shaped q) = true
      · rw [if_pos hz] at h
        rw [Bool.and_eq_true] at hz
        exact ⟨p, q, rfl, rfl, hz.1, hz.2, Option.some.inj h⟩
      · rw [if_neg hz] at h; cases h
theorem dop_eq (hu : X.A.units + 64 < cLine) : DOp X Wx (compareOp .Eq) dEq := by
  intro pins s σ H W g x y vx vy ux uy Q I w c r1 r2 q1 q2 P
  unfold dEq at P
  cases h : dEqB x y with
  | none => rw [h] at P; exact P.elim
  | some b =>
    rw [h] at P
    obtain ⟨p, q, h1, h2, s1, s2, e⟩ := dEqB_some h
    exact op_eqD hu pins s σ H _ _ _ _ Q I q1 q2 ⟨p, q, dp_of w _ _ _ r1 h1, dp_of w _ _ _ r2 h2, s1, s2, by rw [e]; exact Post.done P w c rfl⟩
theorem dop_ne (hu : X.A.units + 64 < cLine) : DOp X Wx (compareOp .NotEq) dNe := by
  intro pins s σ H W g x y vx vy ux uy Q I w c r1 r2 q1 q2 P
  unfold dNe at P
  cases h : dEqB x y with
  | none => rw [h] at P; exact P.elim
  | some b =>
    rw [h] at P
    obtain ⟨p, q, h1, h2, s1, s2, e⟩ := dEqB_some h
    exact op_neD hu pins s σ H _ _ _ _ Q I q1 q2 ⟨p, q, dp_of w _ _ _ r1 h1, dp_of w _ _ _ r2 h2, s1, s2, by rw [e]; exact Post.done P w c rfl⟩
def isNon : D → Bool
  | .non => true
  | _ => false
theorem isNon_eq {K : PySem.W.Frag} {mg : Str → Option Value} {W : Wd} {x : D} {v : V} (r : rel K mg W x v) (h : ∀ u, x ≠ .byv u) : decide (v = .non) = isNon x := by
  cases x with
  | non => cases (show _ = _ from r); rfl
  | byv u => exact absurd rfl (h u)
  | tup _ => obtain ⟨p, vs, rfl, _⟩ := r; rfl
  | lst _ => obtain ⟨p, vs, rfl, _⟩ := r; rfl
  | kst _ => obtain ⟨p, vs, rfl, _⟩ := r; rfl
  | ktp _ => obtain ⟨p, vs, rfl, _⟩ := r; rfl
  | dik _ => obtain ⟨p, vs, rfl, _⟩ := r; rfl
  | dit _ => obtain ⟨p, vs, rfl, _⟩ := r; rfl
  | ins _ _ => obtain ⟨p, C, dx, vs, rfl, _⟩ := r; rfl
  | cell _ => obtain ⟨p, rfl, _⟩ := r; rfl
  | glo _ => obtain ⟨p, rfl, _⟩ := r; rfl
  | _ => cases (show _ = _ from r); rfl
end
end DL
set_option maxRecDepth 100000
set_option maxHeartbeats 4000000
namespace DL
open PySem PySem.Spec PyProof.Rows L2
section
variable {X : Cx} {Wx : WX} {B : Bs} {O : List Nat} {e a b c : Expr} {es : List Expr} {f fa fb fc : FE} {ft fu : FT} {fs : FA} {pos : Pos}
theorem pe_mono {t t' : TE} (h : PE X e t) (m : ∀ σ H Q, t' σ H Q → t σ H Q) : PE X e t' := ⟨fun pins s σ H Q I q => h.run pins s σ H Q I (m σ H Q q)⟩
theorem pt_mono {t t' : TT} (h : PT X e t) (m : ∀ σ H Q, t' σ H Q → t σ H Q) : PT X e t' := ⟨fun pins s σ H Q I q => h.run pins s σ H Q I (m σ H Q q)⟩
theorem pw_mono {t t' : TT} (h : PW X e t) (m : ∀ σ H Q, t' σ H Q → t σ H Q) : PW X e t' := ⟨fun wh pins s σ H Q I q => h.run wh pins s σ H Q I (m σ H Q q)⟩
theorem pa_mono {t t' : TA} (h : PA X es t) (m : ∀ σ H Q, t' σ H Q → t σ H Q) : PA X es t' := ⟨fun p pins s σ H Q I q => h.run p pins s σ H Q I (m σ H Q q)⟩
/-- the reading of a part, what follows by its outcome -/
theorem tE_then {α' β' : Type} {R' : Wd → α' → β' → Prop} {W : Wd} {σ : L2.St} {H : Hp} {ρ : Env} {g : Gs} {k : D → M α'} {Q : β' → Hp → Prop} {Q' : VK} (S : SR X.K X.mg B O W σ H ρ g)
    (P : Post R' X.K X.mg (fun c d H' => Wx c d σ H') W H (M.bind (f ρ) k g) Q)
    (h : ∀ v H1 d W1 g1, SR X.K X.mg B O W1 σ H1 ρ g1 → Ext W H W1 H1 → rel X.K X.mg W1 d v → Post R' X.K X.mg (fun c d H' => Wx c d σ H') W1 H1 (k d g1) Q → Q' v H1) : tE X Wx B O f σ H Q' :=
  ⟨W, ρ, g, S, (Post.bind (R := RD X) P).imp fun v H1 ⟨d, W1, g1, e, w, c, r, q⟩ => h v H1 d W1 g1 (S.ext' e w c) e r q⟩
theorem tT_then {α' β' : Type} {R' : Wd → α' → β' → Prop} {W : Wd} {σ : L2.St} {H : Hp} {ρ : Env} {g : Gs} {k : Bool → M α'} {Q : β' → Hp → Prop} {Q' : Bool → Hp → Prop} (S : SR X.K X.mg B O W σ H ρ g)
    (P : Post R' X.K X.mg (fun c d H' => Wx c d σ H') W H (M.bind (ft ρ) k g) Q)
    (h : ∀ d H1 W1 g1, SR X.K X.mg B O W1 σ H1 ρ g1 → Ext W H W1 H1 → Post R' X.K X.mg (fun c d H' => Wx c d σ H') W1 H1 (k d g1) Q → Q' d H1) : tT X Wx B O ft σ H Q' :=
  ⟨W, ρ, g, S, (Post.bind (R := RB) P).imp fun v H1 ⟨d, W1, g1, e, w, c, r, q⟩ => by
    have r : v = d := r
    subst r
    exact h v H1 W1 g1 (S.ext' e w c) e q⟩
theorem tA_then {α' β' : Type} {R' : Wd → α' → β' → Prop} {W : Wd} {σ : L2.St} {H : Hp} {ρ : Env} {g : Gs} {k : List D → M α'} {Q : β' → Hp → Prop} {Q' : List V → Hp → Prop} (S : SR X.K X.mg B O W σ H ρ g)
    (P : Post R' X.K X.mg (fun c d H' => Wx c d σ H') W H (M.bind (fs ρ) k g) Q)
    (h : ∀ v H1 d W1 g1, SR X.K X.mg B O W1 σ H1 ρ g1 → Ext W H W1 H1 → rels X.K X.mg W1 d v → Post R' X.K X.mg (fun c d H' => Wx c d σ H') W1 H1 (k d g1) Q → Q' v H1) : tA X Wx B O fs σ H Q' :=
  ⟨W, ρ, g, S, (Post.bind (R := RDs X) P).imp fun v H1 ⟨d, W1, g1, e, w, c, r, q⟩ => h v H1 d W1 g1 (S.ext' e w c) e r q⟩
/-- a statement on one value -/
theorem one {β : Type} {α' : Type} {R' : Wd → α' → β → Prop} (ha : DE X Wx B O a fa) {k : D → M α'} {pins : List (Addr × Obj)} {s : Shared} {σ : L2.St} {H : Hp} {W : Wd} {ρ : Env} {g : Gs} {Q : β → Hp → Prop} {γ : Type} {f : Value → Sem γ} {Z : γ → Shared → Prop}
    (I : Inv X pins σ H s) (S : SR X.K X.mg B O W σ H ρ g) (P : Post R' X.K X.mg (fun c d H' => Wx c d σ H') W H (M.bind (fa ρ) k g) Q)
    (h : ∀ u s1 v H1 d W1 g1, Inv X pins σ H1 s1 → RelV v u → SR X.K X.mg B O W1 σ H1 ρ g1 → rel X.K X.mg W1 d v → Post R' X.K X.mg (fun c d H' => Wx c d σ H') W1 H1 (k d g1) Q → wpAny (model X.prog X.w) X.A (f u) Z X.xe s1) :
    wpAny (model X.prog X.w) X.A (eval a X.env) (fun v s₁ => wpAny (model X.prog X.w) X.A (f v) Z X.xe s₁) X.xe s :=
  thn (ha.go I S (Post.bind P)) fun v s1 ⟨x, H1, I1, r1, d, W1, g1, e1, w1, c1, q1, P1⟩ => h v s1 x H1 d W1 g1 I1 r1 (S.ext' e1 w1 c1) q1 P1
def dIs (x y : D) : M D := fun g => match y with
  | .non => (match x with | .byv _ => .bad | _ => .ok (.bl (isNon x)) g)
  | .bl b => (match x with | .bl a => .ok (.bl (decide (a = b))) g | _ => .bad)
  | _ => .bad
def dIsNot (x y : D) : M D := fun g => match y with
  | .non => (match x with | .byv _ => .bad | _ => .ok (.bl (!isNon x)) g)
  | .bl b => (match x with | .bl a => .ok (.bl (!decide (a = b))) g | _ => .bad)
  | _ => .bad
theorem dop_is : DOp X Wx (compareOp .Is) dIs := by
  intro pins s σ H W g x y vx vy ux uy Q I w c r1 r2 q1 q2 P
  cases y with
  | non =>
    cases (show vy = _ from r2)
    by_cases hx : ∀ u, x ≠ .byv u
    · refine op_isN pins s σ H _ _ _ _ Q I q1 q2 ⟨rfl, ?_⟩
      rw [isNon_eq r1 hx]
      have e : dIs x .non g = .ok (.bl (isNon x)) g := by
        cases x with
        | byv u => exact absurd rfl (hx u)
        | _ => rfl
      rw [e] at P
      exact Post.done P w c rfl
    · cases x with
      | byv u => exact P.elim
      | _ => exact absurd (fun u h => nomatch h) hx
  | bl b =>
    cases x with
    | bl a =>
      cases (show vy = _ from r2); cases (show vx = _ from r1)
      exact op_isBl pins s σ H _ _ _ _ Q I q1 q2 ⟨a, b, rfl, rfl, Post.done P w c rfl⟩
    | _ => exact P.elim
  | _ => exact P.elim
theorem dop_isNot : DOp X Wx (compareOp .IsNot) dIsNot := by
  intro pins s σ H W g x y vx vy ux uy Q I w c r1 r2 q1 q2 P
  cases y with
  | non =>
    cases (show vy = _ from r2)
    by_cases hx : ∀ u, x ≠ .byv u
    · refine op_notN pins s σ H _ _ _ _ Q I q1 q2 ⟨rfl, ?_⟩
      rw [isNon_eq r1 hx]
      have e : dIsNot x .non g = .ok (.bl (!isNon x)) g := by
        cases x with
        | byv u => exact absurd rfl (hx u)
        | _ => rfl
      rw [e] at P
      exact Post.done P w c rfl
    · cases x with
      | byv u => exact P.elim
      | _ => exact absurd (fun u h => nomatch h) hx
  | bl b =>
    cases x with
    | bl a =>
      cases (show vy = _ from r2); cases (show vx = _ from r1)
      exact op_notBl pins s σ H _ _ _ _ Q I q1 q2 ⟨a, b, rfl, rfl, Post.done P w c rfl⟩
    | _ => exact P.elim
  | _ => exact P.elim
def fBool (f : FE) : FT := fun ρ => M.bind (f ρ) fun d g => match d with
  | .bl b => .ok b g
  | _ => .bad
/-- a comparison as a test -/
theorem dt_cmp {op : CmpOp} {k : D → D → M D} (ho : DOp X Wx (compareOp op) k) (ha : DE X Wx B O a fa) (hb : DE X Wx B O b fb) (hm : behindInMarks op b = false := by first | exact nobehind _ (by decide) (by decide) | rfl) : DT X Wx B O (.Compare a [op] [b] pos) (fBool (f2 k fa fb)) := by
  refine ⟨fun pins s σ H Q I ⟨W, ρ, g, S, P⟩ => ?_⟩
  have P' := Post.bind (R := RD X) P
  refine wpAny_isTrue_Compare1 (thn (two ho ha hb I S P') fun v s1 h1 => thn h1 fun u s2 h2 => thn h2 fun c s3 ⟨x, H1, I1, r1, d, W1, g1, e1, w1, c1, q1, P1⟩ => ?_) hm
  cases d with
  | bl b =>
    cases (show x = _ from q1)
    cases (show c = _ from r1)
    exact wpAny_truthy_bool ⟨H1, I1, Post.done P1 w1 c1 rfl⟩
  | _ => exact P1.elim
def dTru (d : D) : M Bool := fun g => match d with
  | .non => .ok false g
  | .bl b => .ok b g
  | .int i => .ok (i != 0) g
  | .str x => if okSz x.length then .ok ((x.length : Int) != 0) g else .bad
  | .tup ds => .ok (!ds.isEmpty) g
  | .lst ds => .ok (!ds.isEmpty) g
  | .kst ds => .ok (!ds.isEmpty) g
  | _ => .bad
theorem isEmpty_rels {K : PySem.W.Frag} {mg : Str → Option Value} {W : Wd} {ds : List D} {vs : List V} (h : rels K mg W ds vs) : (!ds.isEmpty) = !vs.isEmpty := by
  cases ds with
  | nil => cases (show _ = _ from h); rfl
  | cons d ds => obtain ⟨v, ws, rfl, _⟩ := h; rfl
theorem truV_of {K : PySem.W.Frag} {mg : Str → Option Value} {W : Wd} {H : Hp} {d : D} {v : V} {g g' : Gs} {k : Bool} (w : WOk W H) (r : rel K mg W d v) (h : dTru d g = .ok k g') : TruV K v H k ∧ g' = g := by
  cases d with
  | non => cases (show _ = _ from r); cases h; exact ⟨rfl, rfl⟩
  | bl b => cases (show _ = _ from r); cases h; exact ⟨rfl, rfl⟩
  | int b => cases (show _ = _ from r); cases h; exact ⟨rfl, rfl⟩
  | str x =>
    cases (show _ = _ from r)
    unfold dTru at h
    dsimp only at h
    by_cases hz : okSz x.length = true
    · rw [if_pos hz] at h; cases h; exact ⟨⟨of_decide_eq_true hz, rfl⟩, rfl⟩
    · rw [if_neg hz] at h; cases h
  | tup ds => obtain ⟨p, vs, rfl, f, s⟩ := r; cases h; exact ⟨.inr (.inl ⟨vs, SqT.of (w.sub _ _ f), isEmpty_rels s⟩), rfl⟩
  | lst ds => obtain ⟨p, vs, rfl, f, s⟩ := r; cases h; exact ⟨.inl ⟨vs, SqL.of (w.sub _ _ f), isEmpty_rels s⟩, rfl⟩
  | kst ds => obtain ⟨p, vs, rfl, f, s⟩ := r; cases h; exact ⟨.inl ⟨vs, sqL_le w.sub f, isEmpty_rels s⟩, rfl⟩
  | _ => cases h
def fTru (f : FE) : FT := fun ρ => M.bind (f ρ) dTru
theorem dTru_cases (d : D) (g : Gs) : dTru d g = .bad ∨ ∃ k, dTru d g = .ok k g := by
  unfold dTru
  cases d with
  | str x => dsimp only; by_cases hz : okSz x.length = true <;> simp only [hz, if_true, if_false] <;> simp
  | non => exact .inr ⟨_, rfl⟩
  | bl _ => exact .inr ⟨_, rfl⟩
  | int _ => exact .inr ⟨_, rfl⟩
  | tup _ => exact .inr ⟨_, rfl⟩
  | lst _ => exact .inr ⟨_, rfl⟩
  | kst _ => exact .inr ⟨_, rfl⟩
  | _ => exact .inl rfl
theorem dt_truth (h : DE X Wx B O e f) (he : ∀ whole, isTrue e X.env whole = (do let v ← whole; standAt e.pos; holding [v] (truthy v)) := by intro _; rfl) : DT X Wx B O e (fTru f) := by
  refine pt_mono (pt_truth h he) fun σ H Q ⟨W, ρ, g, S, P⟩ => ?_
  refine tE_then S P fun v H1 d W1 g1 S1 e1 r P1 => ?_
  rcases dTru_cases d g1 with e | ⟨k, e⟩
  · rw [e] at P1; exact P1.elim
  · rw [e] at P1
    exact ⟨k, (truV_of S1.wok r e).1, Post.done P1 S1.wok S1.cells rfl⟩
def fAnd (t u : FT) : FT := fun ρ => M.bind (t ρ) fun c => if c = true then u ρ else M.pure false
def fOr (t u : FT) : FT := fun ρ => M.bind (t ρ) fun c => if c = true then M.pure true else u ρ
def fNot (t : FT) : FT := fun ρ => M.bind (t ρ) fun c => M.pure (!c)
variable {rest : List Expr}
theorem dw_pt (h : DW X Wx B O e ft) : DT X Wx B O e ft := h.pt
theorem dw_and1 (h : DT X Wx B O a ft) : DW X Wx B O (.BoolOp .And [a] pos) ft := pw_and1 h
theorem dw_or1 (h : DT X Wx B O a ft) : DW X Wx B O (.BoolOp .Or [a] pos) ft := pw_or1 h
theorem dw_and (ha : DT X Wx B O a ft) (hb : DW X Wx B O (.BoolOp .And (b :: rest) pos) fu) : DW X Wx B O (.BoolOp .And (a :: b :: rest) pos) (fAnd ft fu) := by
  refine pw_mono (pw_and ha hb) fun σ H Q ⟨W, ρ, g, S, P⟩ => ?_
  refine tT_then S P fun d H1 W1 g1 S1 e1 P1 => ?_
  cases d with
  | true => rw [if_pos rfl] at P1 ⊢; exact ⟨W1, ρ, g1, S1, P1⟩
  | false => rw [if_neg (by decide)] at P1 ⊢; exact Post.done P1 S1.wok S1.cells rfl
theorem dw_or (ha : DT X Wx B O a ft) (hb : DW X Wx B O (.BoolOp .Or (b :: rest) pos) fu) : DW X Wx B O (.BoolOp .Or (a :: b :: rest) pos) (fOr ft fu) := by
  refine pw_mono (pw_or ha hb) fun σ H Q ⟨W, ρ, g, S, P⟩ => ?_
  refine tT_then S P fun d H1 W1 g1 S1 e1 P1 => ?_
  cases d with
  | true => rw [if_pos rfl] at P1 ⊢; exact Post.done P1 S1.wok S1.cells rfl
  | false => rw [if_neg (by decide)] at P1 ⊢; exact ⟨W1, ρ, g1, S1, P1⟩
theorem dt_not (ha : DT X Wx B O a ft) : DT X Wx B O (.UnaryOp .Not a pos) (fNot ft) := by
  refine pt_mono (pt_not ha) fun σ H Q ⟨W, ρ, g, S, P⟩ => ?_
  refine tT_then S P fun d H1 W1 g1 S1 e1 P1 => ?_
  exact Post.done P1 S1.wok S1.cells rfl
def fIf (t : FT) (fa fb : FE) : FE := fun ρ => M.bind (t ρ) fun c => if c = true then fa ρ else fb ρ
theorem de_if (hc : DT X Wx B O c ft) (ha : DE X Wx B O a fa) (hb : DE X Wx B O b fb) : DE X Wx B O (.IfExp c a b pos) (fIf ft fa fb) := by
  refine pe_mono (pe_ifExp hc ha hb) fun σ H Q ⟨W, ρ, g, S, P⟩ => ?_
  refine tT_then S P fun d H1 W1 g1 S1 e1 P1 => ?_
  cases d with
  | true => rw [if_pos rfl] at P1 ⊢; exact ⟨W1, ρ, g1, S1, P1⟩
  | false => rw [if_neg (by decide)] at P1 ⊢; exact ⟨W1, ρ, g1, S1, P1⟩
/-- and, or, not as values: bools but the last -/
def fAndV (fa fb : FE) : FE := fun ρ => M.bind (fBool fa ρ) fun c => if c = true then fb ρ else M.pure (.bl false)
def fOrV (fa fb : FE) : FE := fun ρ => M.bind (fBool fa ρ) fun c => if c = true then M.pure (.bl true) else fb ρ
def fNotV (fa : FE) : FE := fun ρ => M.bind (fBool fa ρ) fun c => M.pure (.bl (!c))
theorem bind_assoc {α β γ : Type} (m : M α) (k : α → M β) (l : β → M γ) (g : Gs) : M.bind (M.bind m k) l g = M.bind m (fun a => M.bind (k a) l) g := by
  show Out.bind (Out.bind (m g) k) l = Out.bind (m g) fun a => M.bind (k a) l
  cases m g <;> rfl
theorem de_one {op : BoolOp} (h : DE X Wx B O a fa) : DE X Wx B O (.BoolOp op [a] pos) fa := pe_one h
theorem de_and (ha : DE X Wx B O a fa) (hb : DE X Wx B O (.BoolOp .And (b :: rest) pos) fb) : DE X Wx B O (.BoolOp .And (a :: b :: rest) pos) (fAndV fa fb) := by
  refine pe_mono (pe_and ha hb) fun σ H Q ⟨W, ρ, g, S, P⟩ => ?_
  rw [fAndV, fBool, bind_assoc] at P
  refine tE_then S P fun v H1 d W1 g1 S1 e1 r P1 => ?_
  cases d with
  | bl k =>
    refine ⟨k, r, ?_⟩
    cases k with
    | true => exact ⟨W1, ρ, g1, S1, P1⟩
    | false => exact Post.done P1 S1.wok S1.cells rfl
  | _ => exact P1.elim
theorem de_or (ha : DE X Wx B O a fa) (hb : DE X Wx B O (.BoolOp .Or (b :: rest) pos) fb) : DE X Wx B O (.BoolOp .Or (a :: b :: rest) pos) (fOrV fa fb) := by
  refine pe_mono (pe_or ha hb) fun σ H Q ⟨W, ρ, g, S, P⟩ => ?_
  rw [fOrV, fBool, bind_assoc] at P
  refine tE_then S P fun v H1 d W1 g1 S1 e1 r P1 => ?_
  cases d with
  | bl k =>
    refine ⟨k, r, ?_⟩
    cases k with
    | false => exact ⟨W1, ρ, g1, S1, P1⟩
    | true => exact Post.done P1 S1.wok S1.cells rfl
  | _ => exact P1.elim
theorem de_not (ha : DE X Wx B O a fa) : DE X Wx B O (.UnaryOp .Not a pos) (fNotV fa) := by
  refine pe_mono (pe_not ha) fun σ H Q ⟨W, ρ, g, S, P⟩ => ?_
  rw [fNotV, fBool, bind_assoc] at P
  refine tE_then S P fun v H1 d W1 g1 S1 e1 r P1 => ?_
  cases d with
  | bl k => exact ⟨k, r, Post.done P1 S1.wok S1.cells rfl⟩
  | _ => exact P1.elim
/-- -x -/
def dNeg (d : D) : M D := fun g => match d with
  | .int i => .ok (.int (-i)) g
  | _ => .bad
def f1 (k : D → M D) (fa : FE) : FE := fun ρ => M.bind (fa ρ) k
theorem de_neg (ha : DE X Wx B O a fa) : DE X Wx B O (.UnaryOp .USub a pos) (f1 dNeg fa) := by
  refine pe_mono (pe_un un_neg ha) fun σ H Q ⟨W, ρ, g, S, P⟩ => ?_
  refine tE_then S P fun v H1 d W1 g1 S1 e1 r P1 => ?_
  cases d with
  | int k => exact ⟨k, r, Post.done P1 S1.wok S1.cells rfl⟩
  | _ => exact P1.elim
def fNil : FA := fun _ => M.pure []
def fCons (fa : FE) (fs : FA) : FA := fun ρ => M.bind (fa ρ) fun x => M.bind (fs ρ) fun xs => M.pure (x :: xs)
theorem da_nil : DA X Wx B O [] fNil := pa_mono pa_nil fun σ H Q ⟨W, ρ, g, S, P⟩ => Post.done (R := RDs X) P S.wok S.cells rfl
theorem da_cons (ha : DE X Wx B O a fa) (hr : DA X Wx B O es fs) (hs : starEach (a :: es) X.env = (false, eval a X.env) :: starEach es X.env := by rfl) : DA X Wx B O (a :: es) (fCons fa fs) := by
  refine pa_mono (pa_cons ha hr hs) fun σ H Q ⟨W, ρ, g, S, P⟩ => ?_
  refine tE_then S P fun v H1 d W1 g1 S1 e1 r P1 => ?_
  refine tA_then S1 P1 fun vs H2 ds W2 g2 S2 e2 r2 P2 => ?_
  exact Post.done (R := RDs X) P2 S2.wok S2.cells (rels_cons (rel_le e2.le r) r2)
def dTup (ds : List D) : M D := fun g => if okSz ds.length then .ok (.tup ds) g else .bad
def dLst (ds : List D) : M D := fun g => if okSz ds.length then .ok (.lst ds) g else .bad
def fTup (fs : FA) : FE := fun ρ => M.bind (fs ρ) dTup
def fLst (fs : FA) : FE := fun ρ => M.bind (fs ρ) dLst
theorem de_tup {x1} (h : DA X Wx B O es fs) : DE X Wx B O (.Tuple es x1 pos) (fTup fs) := by
  refine pe_mono (pe_tup h) fun σ H Q ⟨W, ρ, g, S, P⟩ => ?_
  refine tA_then S P fun vs H1 ds W1 g1 S1 e1 r P1 => ?_
  unfold dTup at P1
  by_cases hz : okSz ds.length = true
  · rw [if_pos hz] at P1
    refine ⟨by rw [rels_length r]; exact of_decide_eq_true hz, fun p hp => ?_⟩
    exact Post.new P1 S1.wok S1.cells hp ⟨p, vs, rfl, upd_same, rels_le (ext_new S1.wok hp).1.le r⟩
  · rw [if_neg hz] at P1; exact P1.elim
theorem de_lst (h : DA X Wx B O es fs) : DE X Wx B O (.List es pos) (fLst fs) := by
  refine pe_mono (pe_lst h) fun σ H Q ⟨W, ρ, g, S, P⟩ => ?_
  refine tA_then S P fun vs H1 ds W1 g1 S1 e1 r P1 => ?_
  unfold dLst at P1
  by_cases hz : okSz ds.length = true
  · rw [if_pos hz] at P1
    refine ⟨by rw [rels_length r]; exact of_decide_eq_true hz, fun p hp => ?_⟩
    exact Post.new P1 S1.wok S1.cells hp ⟨p, vs, rfl, upd_same, rels_le (ext_new S1.wok hp).1.le r⟩
  · rw [if_neg hz] at P1; exact P1.elim
/-- a new cell that holds a list -/
theorem ext_cell {K : PySem.W.Frag} {mg : Str → Option Value} {W : Wd} {H : Hp} {g : Gs} {p : Addr} {o : HO} {co : CO} (w : WOk W H) (c : GOk K mg W H g) (hp : H p = none) (hc : cellAt K mg ⟨W.F, W.th ++ [p]⟩ (upd H p o) p co) :
    Ext W H ⟨W.F, W.th ++ [p]⟩ (upd H p o) ∧ WOk ⟨W.F, W.th ++ [p]⟩ (upd H p o) ∧ GOk K mg ⟨W.F, W.th ++ [p]⟩ (upd H p o) (g ++ [co]) := by
  have fp : W.F p = none := by
    cases q : W.F p with
    | none => rfl
    | some u => rw [w.sub p u q] at hp; cases hp
  have tp : p ∉ W.th := fun z => (w.free p z).2 hp
  have le : WLe W ⟨W.F, W.th ++ [p]⟩ := ⟨fun _ _ h => h, ⟨[p], rfl⟩⟩
  refine ⟨⟨le, fun a u h _ => ?_, fun a h => ⟨rfl, fun z => ?_⟩, fun a h => ?_⟩, ⟨fun a u h => ?_, ?_, fun a h => ?_⟩, ⟨?_, fun i q ci e1 e2 => ?_⟩⟩
  · rw [upd_ne (ne_of_none h hp)]; exact h
  · rcases List.mem_append.mp z with z | z
    · exact z
    · have e : a = p := by simpa using z
      rw [e] at h
      exact absurd hp h
  · rw [upd_ne fun z => h (by rw [z]; exact hp)]; exact h
  · have h' := w.sub a u h
    rw [upd_ne (ne_of_none h' hp)]; exact h'
  · exact List.nodup_append.mpr ⟨w.nd, by simp, fun a ha b hb => by
      have e : b = p := by simpa using hb
      rw [e]
      exact fun z => tp (by rw [← z]; exact ha)⟩
  · rcases List.mem_append.mp h with z | z
    · have h2 := w.free a z
      refine ⟨h2.1, ?_⟩
      rw [upd_ne fun z' => h2.2 (by rw [z']; exact hp)]
      exact h2.2
    · have e : a = p := by simpa using z
      rw [e, upd_same]
      exact ⟨fp, fun q => nomatch q⟩
  · show (g ++ [co]).length = (W.th ++ [p]).length
    rw [List.length_append, List.length_append, c.len]; rfl
  · have e1 : (W.th ++ [p])[i]? = some q := e1
    by_cases hi : i < W.th.length
    · rw [List.getElem?_append_left hi] at e1
      rw [List.getElem?_append_left (by rw [c.len]; exact hi)] at e2
      have h2 := c.at_ i q ci e1 e2
      have nq : q ≠ p := fun z => tp (by rw [← z]; exact List.mem_of_getElem? e1)
      cases ci with
      | lst ds => obtain ⟨vs, h, r⟩ := h2; exact ⟨vs, by rw [upd_ne nq]; exact h, rels_le le r⟩
      | dik ds => obtain ⟨vs, h, r⟩ := h2; exact ⟨vs, by rw [upd_ne nq]; exact h, relK_le le r⟩
      | ins n fs => obtain ⟨C, dx, ws, m, h, r⟩ := h2; exact ⟨C, dx, ws, m, by rw [upd_ne nq]; exact h, relF_le le r⟩
    · have hi2 : i = W.th.length := by
        have h3 := (List.getElem?_eq_some_iff.mp e1).1
        rw [List.length_append] at h3
        simp at h3
        omega
      rw [hi2, List.getElem?_append_right (Nat.le_refl _), Nat.sub_self] at e1
      rw [hi2, ← c.len, List.getElem?_append_right (Nat.le_refl _), Nat.sub_self] at e2
      have e1' : p = q := by simpa using e1
      have e2' : co = ci := by simpa using e2
      rw [← e1', ← e2']
      exact hc
def dCellL (ds : List D) : M D := fun g => if okSz ds.length then .ok (.cell g.length) (g ++ [.lst ds]) else .bad
def fCellL (fs : FA) : FE := fun ρ => M.bind (fs ρ) dCellL
theorem de_cellL (h : DA X Wx B O es fs) : DE X Wx B O (.List es pos) (fCellL fs) := by
  refine pe_mono (pe_lst h) fun σ H Q ⟨W, ρ, g, S, P⟩ => ?_
  refine tA_then S P fun vs H1 ds W1 g1 S1 e1 r P1 => ?_
  unfold dCellL at P1
  by_cases hz : okSz ds.length = true
  · rw [if_pos hz] at P1
    refine ⟨by rw [rels_length r]; exact of_decide_eq_true hz, fun p hp => ?_⟩
    obtain ⟨x1, x2, x3⟩ := ext_cell (co := .lst ds) (o := .lst vs) S1.wok S1.cells hp ⟨vs, upd_same, rels_le (W := W1) (W' := ⟨W1.F, W1.th ++ [p]⟩) ⟨fun _ _ h => h, ⟨[p], rfl⟩⟩ r⟩
    exact P1 _ _ _ x1 x2 x3 ⟨p, rfl, by rw [S1.cells.len]; simp⟩
  · rw [if_neg hz] at P1; exact P1.elim
end
end DL
set_option maxRecDepth 100000
set_option maxHeartbeats 4000000
namespace DL
open PySem PySem.Spec PyProof.Rows L2
section
variable {κ α : Type} [DecidableEq κ]
def valA (kvs : List (κ × α)) (k : κ) : Option α := (kvs.find? fun kv => decide (kv.1 = k)).map (·.2)
def hasA (kvs : List (κ × α)) (k : κ) : Bool := kvs.any fun kv => decide (kv.1 = k)
def putA (kvs : List (κ × α)) (k : κ) (v : α) : List (κ × α) := if hasA kvs k = true then kvs.map (fun kv => if kv.1 = k then (kv.1, v) else kv) else kvs ++ [(k, v)]
end
def keyD : D → Option Key
  | .int i => some (.inl i)
  | .str x => some (.inr x)
  | _ => none
def keysD : List D → Option (List Key)
  | [] => some []
  | d :: ds => match keyD d, keysD ds with
    | some k, some ks => some (k :: ks)
    | _, _ => none
section
variable {K : PySem.W.Frag} {mg : Str → Option Value} {W : Wd}
theorem key_rel {d : D} {v : V} {k : Key} (r : rel K mg W d v) (h : keyD d = some k) : v = kV k := by
  cases d with
  | int i => have e : (Sum.inl i : Key) = k := Option.some.inj h; rw [← e]; exact r
  | str i => have e : (Sum.inr i : Key) = k := Option.some.inj h; rw [← e]; exact r
  | _ => exact absurd (show none = some k from h) (fun z => nomatch z)
theorem keysD_cons {d : D} {ds : List D} {ks : List Key} (h : keysD (d :: ds) = some ks) : ∃ k r, keyD d = some k ∧ keysD ds = some r ∧ ks = k :: r := by
  unfold keysD at h
  cases q : keyD d with
  | none => rw [q] at h; cases h
  | some x =>
    cases q2 : keysD ds with
    | none => rw [q, q2] at h; cases h
    | some xs => rw [q, q2] at h; exact ⟨x, xs, rfl, rfl, (Option.some.inj h).symm⟩
theorem keys_rel : ∀ {ds : List D} {vs : List V} {ks : List Key}, rels K mg W ds vs → keysD ds = some ks → vs = ks.map kV
  | [], vs, ks, r, h => by
    have e : [] = ks := Option.some.inj h
    rw [← e]; exact r
  | d :: ds, vs, ks, r, h => by
    obtain ⟨v, ws, e, r1, r2⟩ := r
    obtain ⟨k, rr, h1, h2, h3⟩ := keysD_cons h
    rw [e, h3, key_rel r1 h1, keys_rel r2 h2]; rfl
theorem relK_val : ∀ {kvs : List (Key × D)} {ws : List (Key × V)} (k : Key), relK K mg W kvs ws → (∀ d, valA kvs k = some d → ∃ v, valV ws k = some v ∧ rel K mg W d v) ∧ (valA kvs k = none → valV ws k = none)
  | [], ws, k, h => by cases (show ws = [] from h); exact ⟨fun d e => (nomatch e), fun _ => rfl⟩
  | (j, x) :: r, ws, k, h => by
    obtain ⟨v, us, e, r1, r2⟩ := h
    subst e
    by_cases hj : j = k
    · have e1 : valA ((j, x) :: r) k = some x := by simp [valA, List.find?_cons, hj]
      have e2 : valV ((j, v) :: us) k = some v := valV_pos hj
      rw [e1, e2]
      exact ⟨fun d e => ⟨v, rfl, by cases e; exact r1⟩, fun e => nomatch e⟩
    · have e1 : valA ((j, x) :: r) k = valA r k := by simp [valA, List.find?_cons, hj]
      have e2 : valV ((j, v) :: us) k = valV us k := valV_neg hj
      rw [e1, e2]
      exact relK_val k r2
theorem relT_val : ∀ {kvs : List (List Key × D)} {ws : List (List Key × V)} (k : List Key), relT K mg W kvs ws → (∀ d, valA kvs k = some d → ∃ v, valV ws k = some v ∧ rel K mg W d v) ∧ (valA kvs k = none → valV ws k = none)
  | [], ws, k, h => by cases (show ws = [] from h); exact ⟨fun d e => (nomatch e), fun _ => rfl⟩
  | (j, x) :: r, ws, k, h => by
    obtain ⟨v, us, e, r1, r2⟩ := h
    subst e
    by_cases hj : j = k
    · have e1 : valA ((j, x) :: r) k = some x := by simp [valA, List.find?_cons, hj]
      have e2 : valV ((j, v) :: us) k = some v := valV_pos hj
      rw [e1, e2]
      exact ⟨fun d e => ⟨v, rfl, by cases e; exact r1⟩, fun e => nomatch e⟩
    · have e1 : valA ((j, x) :: r) k = valA r k := by simp [valA, List.find?_cons, hj]
      have e2 : valV ((j, v) :: us) k = valV us k := valV_neg hj
      rw [e1, e2]
      exact relT_val k r2
theorem relK_has : ∀ {kvs : List (Key × D)} {ws : List (Key × V)} (k : Key), relK K mg W kvs ws → hasA kvs k = (ws.any fun kv => decide (kv.1 = k))
  | [], ws, k, h => by cases (show ws = [] from h); rfl
  | (j, x) :: r, ws, k, h => by
    obtain ⟨v, us, e, r1, r2⟩ := h
    subst e
    have ih := relK_has k r2
    unfold hasA at ih ⊢
    rw [List.any_cons, List.any_cons, ih]
theorem relK_map {k : Key} {d : D} {v : V} (rd : rel K mg W d v) : ∀ {kvs : List (Key × D)} {ws : List (Key × V)}, relK K mg W kvs ws → relK K mg W (kvs.map fun kv => if kv.1 = k then (kv.1, d) else kv) (ws.map fun kv => if kv.1 = k then (kv.1, v) else kv)
  | [], ws, h => by cases (show ws = [] from h); rfl
  | (j, x) :: r, ws, h => by
    obtain ⟨u, us, e, r1, r2⟩ := h
    subst e
    rw [List.map_cons, List.map_cons]
    dsimp only
    by_cases hj : j = k
    · rw [if_pos hj, if_pos hj]; exact ⟨v, _, rfl, rd, relK_map rd r2⟩
    · rw [if_neg hj, if_neg hj]; exact ⟨u, _, rfl, r1, relK_map rd r2⟩
theorem relK_app : ∀ {a b : List (Key × D)} {x y : List (Key × V)}, relK K mg W a x → relK K mg W b y → relK K mg W (a ++ b) (x ++ y)
  | [], b, x, y, h, h2 => by cases (show x = [] from h); exact h2
  | (j, d) :: r, b, x, y, h, h2 => by
    obtain ⟨u, us, e, r1, r2⟩ := h
    subst e
    exact ⟨u, us ++ y, rfl, r1, relK_app r2 h2⟩
theorem relK_put {k : Key} {d : D} {v : V} {kvs : List (Key × D)} {ws : List (Key × V)} (h : relK K mg W kvs ws) (rd : rel K mg W d v) : relK K mg W (putA kvs k d) (putK ws k v) := by
  unfold putA putK
  rw [relK_has k h]
  by_cases q : (ws.any fun kv => decide (kv.1 = k)) = true
  · rw [if_pos q, if_pos q]; exact relK_map rd h
  · rw [if_neg q, if_neg q]; exact relK_app h ⟨v, [], rfl, rd, rfl⟩
theorem relK_length : ∀ {a : List (Key × D)} {x : List (Key × V)}, relK K mg W a x → x.length = a.length
  | [], x, h => by cases (show x = [] from h); rfl
  | (j, d) :: r, x, h => by
    obtain ⟨u, us, e, r1, r2⟩ := h
    subst e
    rw [List.length_cons, List.length_cons, relK_length r2]
theorem rels_atI {ds : List D} {vs : List V} {i : Int} {d : D} (h : rels K mg W ds vs) (e : atI ds i = some d) : ∃ v, atI vs i = some v ∧ rel K mg W d v := by
  unfold atI at e ⊢
  rw [rels_length h]
  cases q : ixN ds.length i with
  | none => rw [q] at e; cases e
  | some j => rw [q] at e; exact rels_get h e
end
def dIx (x i : D) : M D := fun g => match x, i with
  | .tup ds, .int k => (match atI ds k with | some d => .ok d g | none => .bad)
  | .lst ds, .int k => (match atI ds k with | some d => .ok d g | none => .bad)
  | .kst ds, .int k => (match atI ds k with | some d => .ok d g | none => .bad)
  | .ktp ds, .int k => (match atI ds k with | some d => .ok d g | none => .bad)
  | .str z, .int k => if okSz z.length then (match atI z.cps.toList k with | some c => .ok (.str ⟨#[c]⟩) g | none => .bad) else .bad
  | .cell n, .int k => (match g[n]? with | some (.lst ds) => (match atI ds k with | some d => .ok d g | none => .bad) | _ => .bad)
  | .dik kvs, d => (match keyD d with | some k => (match valA kvs k with | some v => .ok v g | none => .bad) | none => .bad)
  | .dit kvs, .tup ds => (match keysD ds with | some k => (match valA kvs k with | some v => .ok v g | none => .bad) | none => .bad)
  | _, _ => .bad
/-- a subscript, as data -/
def DIx (X : Cx) (E : XK) (k : D → D → M D) : Prop :=
  ∀ (value slice : Expr) (pins : List (Addr × Obj)) (s : Shared) (σ : L2.St) (H : Hp) (W : Wd) (g : Gs) (x y : D) (vx vy : V) (ux uy : Value) (Q : VK), Inv X pins σ H s → WOk W H → GOk X.K X.mg W H g → rel X.K X.mg W x vx → rel X.K X.mg W y vy → RelV vx ux → RelV vy uy →
    Post (RD X) X.K X.mg E W H (k x y g) Q → subscripted slice false ux uy = operate [ux, uy] (getItem ux uy) → wpAny (model X.prog X.w) X.A (subscriptTail value slice ux uy) (EP X pins σ Q) X.xe s
section
variable {X : Cx} {Wx : WX} {B : Bs} {O : List Nat} {e a b c : Expr} {es : List Expr} {f fa fb fc : FE} {ft fu : FT} {fs : FA} {pos : Pos} {E : XK}
theorem ix_dict (hu : X.A.units + 1 < cLine) : IxR X (fun x y H Q => ∃ a v, x = .ref a ∧ DGet H a y (some v) ∧ Q v H) := by
  intro value slice pins s σ H x y v u Q I rx ry h hs
  obtain ⟨a, z, rfl, g, q⟩ := h
  obtain rfl : v = Value.ref a := rx
  exact tail_any (dict_typeIs I g) PySem.F.slot_dict_getitem.lookup (d_getItem hu I g ry fun w' s3 I3 rw' => ⟨z, H, I3, rw', q⟩) hs
theorem dix_ok (hu : X.A.units + 1 < cLine) : DIx X E dIx := by
  intro value slice pins s σ H W g x y vx vy ux uy Q I w c r1 r2 q1 q2 P hs
  have seq : ∀ {ds : List D} {vs : List V} {k : Int}, rels X.K X.mg W ds vs → Post (RD X) X.K X.mg E W H (match atI ds k with | some d => .ok d g | none => .bad) Q → ∃ v, atI vs k = some v ∧ Q v H := by
    intro ds vs k r P
    cases h : atI ds k with
    | none => rw [h] at P; exact P.elim
    | some d =>
      rw [h] at P
      obtain ⟨v, e, rv⟩ := rels_atI r h
      exact ⟨v, e, Post.done P w c rv⟩
  cases x with
  | tup ds =>
    cases y with
    | int k =>
      obtain ⟨p, vs, rfl, f, r⟩ := r1
      cases (show vy = _ from r2)
      obtain ⟨v, e, q⟩ := seq r P
      exact ix_tup value slice pins s σ H _ _ _ _ Q I q1 q2 ⟨p, vs, k, v, rfl, rfl, SqT.of (w.sub _ _ f), e, q⟩ hs
    | _ => exact P.elim
  | ktp ds =>
    cases y with
    | int k =>
      obtain ⟨p, vs, rfl, f, r⟩ := r1
      cases (show vy = _ from r2)
      obtain ⟨v, e, q⟩ := seq r P
      exact ix_tup value slice pins s σ H _ _ _ _ Q I q1 q2 ⟨p, vs, k, v, rfl, rfl, sqT_le w.sub f, e, q⟩ hs
    | _ => exact P.elim
  | lst ds =>
    cases y with
    | int k =>
      obtain ⟨p, vs, rfl, f, r⟩ := r1
      cases (show vy = _ from r2)
      obtain ⟨v, e, q⟩ := seq r P
      exact ix_list value slice pins s σ H _ _ _ _ Q I q1 q2 ⟨p, vs, k, v, rfl, rfl, SqL.of (w.sub _ _ f), e, q⟩ hs
    | _ => exact P.elim
  | kst ds =>
    cases y with
    | int k =>
      obtain ⟨p, vs, rfl, f, r⟩ := r1
      cases (show vy = _ from r2)
      obtain ⟨v, e, q⟩ := seq r P
      exact ix_list value slice pins s σ H _ _ _ _ Q I q1 q2 ⟨p, vs, k, v, rfl, rfl, sqL_le w.sub f, e, q⟩ hs
    | _ => exact P.elim
  | str z =>
    cases y with
    | int k =>
      cases (show vx = _ from r1)
      cases (show vy = _ from r2)
      unfold dIx at P
      dsimp only at P
      by_cases hz : okSz z.length = true
      · rw [if_pos hz] at P
        cases h : atI z.cps.toList k with
        | none => rw [h] at P; exact P.elim
        | some d =>
          rw [h] at P
          exact ix_str value slice pins s σ H _ _ _ _ Q I q1 q2 ⟨z, k, d, rfl, rfl, of_decide_eq_true hz, h, Post.done P w c rfl⟩ hs
      · rw [if_neg hz] at P; exact P.elim
    | _ => exact P.elim
  | cell n =>
    cases y with
    | int k =>
      obtain ⟨p, rfl, f⟩ := r1
      cases (show vy = _ from r2)
      unfold dIx at P
      dsimp only at P
      cases h : g[n]? with
      | none => rw [h] at P; exact P.elim
      | some co =>
        rw [h] at P
        cases co with
        | lst ds =>
          obtain ⟨vs, hp, r⟩ := c.at_ n p _ f h
          obtain ⟨v, e, q⟩ := seq r P
          exact ix_list value slice pins s σ H _ _ _ _ Q I q1 q2 ⟨p, vs, k, v, rfl, rfl, SqL.of hp, e, q⟩ hs
        | _ => exact P.elim
    | _ => exact P.elim
  | dik kvs =>
    obtain ⟨p, ws, rfl, f, r⟩ := r1
    have P : Post (RD X) X.K X.mg E W H (match keyD y with | some k => (match valA kvs k with | some v => .ok v g | none => .bad) | none => .bad) Q := by cases y <;> exact P
    cases h : keyD y with
    | none => rw [h] at P; exact P.elim
    | some k =>
      rw [h] at P
      dsimp only at P
      cases h2 : valA kvs k with
      | none => rw [h2] at P; exact P.elim
      | some d =>
        rw [h2] at P
        obtain ⟨v, e, rv⟩ := (relK_val k r).1 d h2
        have ey := key_rel r2 h
        subst ey
        refine ix_dict hu value slice pins s σ H _ _ _ _ Q I q1 q2 ⟨p, v, rfl, ?_, Post.done P w c rv⟩ hs
        rw [← e]
        exact DGet.k (w.sub _ _ f)
  | dit kvs =>
    cases y with
    | tup ds =>
      obtain ⟨p, ws, rfl, f, r⟩ := r1
      obtain ⟨q, vs, rfl, f2, rr⟩ := r2
      unfold dIx at P
      dsimp only at P
      cases h : keysD ds with
      | none => rw [h] at P; exact P.elim
      | some k =>
        rw [h] at P
        dsimp only at P
        cases h2 : valA kvs k with
        | none => rw [h2] at P; exact P.elim
        | some d =>
          rw [h2] at P
          obtain ⟨v, e, rv⟩ := (relT_val k r).1 d h2
          have ey := keys_rel rr h
          subst ey
          refine ix_dict hu value slice pins s σ H _ _ _ _ Q I q1 q2 ⟨p, v, rfl, ?_, Post.done P w c rv⟩ hs
          rw [← e]
          exact DGet.t (w.sub _ _ f) (w.sub _ _ f2)
    | _ => exact P.elim
  | _ => cases y <;> exact P.elim
theorem de_ix (hu : X.A.units + 1 < cLine) (ha : DE X Wx B O a fa) (hb : DE X Wx B O b fb) (hs : PlainIx b := by exact fun _ _ => rfl) : DE X Wx B O (.Subscript a b pos) (f2 dIx fa fb) := by
  refine ⟨fun pins s σ H Q I ⟨W, ρ, g, S, P⟩ => ?_⟩
  have ho : DOp X Wx (subscriptTail a b) dIx := fun pins s σ H W g x y vx vy ux uy Q I w c r1 r2 q1 q2 P => dix_ok hu a b pins s σ H W g x y vx vy ux uy Q I w c r1 r2 q1 q2 P (hs _ _)
  exact Subscript_ (two ho ha hb I S P)
abbrev FO := Env → M (Option Int)
def tO (X : Cx) (Wx : WX) (B : Bs) (O : List Nat) (f : FO) : TO := fun σ H Q => ∃ W ρ g, SR X.K X.mg B O W σ H ρ g ∧ Post (fun _ (a b : Option Int) => b = a) X.K X.mg (fun c d H' => Wx c d σ H') W H (f ρ g) Q
abbrev DO (X : Cx) (Wx : WX) (B : Bs) (O : List Nat) (e : Option Expr) (f : FO) : Prop := PO X e (tO X Wx B O f)
def fNoPart : FO := fun _ => M.pure none
def fPart (fa : FE) : FO := fun ρ => M.bind (fa ρ) fun d g => match d with
  | .int i => .ok (some i) g
  | _ => .bad
theorem po_mono {e : Option Expr} {t t' : TO} (h : PO X e t) (m : ∀ σ H Q, t' σ H Q → t σ H Q) : PO X e t' := ⟨fun pins s σ H Q I q => h.run pins s σ H Q I (m σ H Q q)⟩
theorem do_none : DO X Wx B O none fNoPart := po_mono po_none fun σ H Q ⟨W, ρ, g, S, P⟩ => Post.done (R := fun _ (a b : Option Int) => b = a) P S.wok S.cells rfl
theorem do_some (ha : DE X Wx B O a fa) : DO X Wx B O (some a) (fPart fa) := by
  refine po_mono (po_some ha) fun σ H Q ⟨W, ρ, g, S, P⟩ => ?_
  refine tE_then S P fun v H1 d W1 g1 S1 e1 r P1 => ?_
  cases d with
  | int i => exact ⟨i, r, Post.done P1 S1.wok S1.cells rfl⟩
  | _ => exact P1.elim
theorem tO_then {fo : FO} {α' β' : Type} {R' : Wd → α' → β' → Prop} {W : Wd} {σ : L2.St} {H : Hp} {ρ : Env} {g : Gs} {k : Option Int → M α'} {Q : β' → Hp → Prop} {Q' : Option Int → Hp → Prop} (S : SR X.K X.mg B O W σ H ρ g)
    (P : Post R' X.K X.mg (fun c d H' => Wx c d σ H') W H (M.bind (fo ρ) k g) Q)
    (h : ∀ d H1 W1 g1, SR X.K X.mg B O W1 σ H1 ρ g1 → Ext W H W1 H1 → Post R' X.K X.mg (fun c d H' => Wx c d σ H') W1 H1 (k d g1) Q → Q' d H1) : tO X Wx B O fo σ H Q' :=
  ⟨W, ρ, g, S, (Post.bind (R := fun _ (a b : Option Int) => b = a) P).imp fun v H1 ⟨d, W1, g1, e, w, c, r, q⟩ => by
    have r : v = d := r
    subst r
    exact h v H1 W1 g1 (S.ext' e w c) e q⟩
def cutD (xs : List D) (lo hi : Option Int) : List D := (xs.drop (HT.sIx xs.length 0 lo)).take (HT.sIx xs.length xs.length hi - HT.sIx xs.length 0 lo)
def dSlice (x : D) (lo hi : Option Int) : M D := fun g => match x with
  | .tup ds => .ok (.tup (cutD ds lo hi)) g
  | .lst ds => .ok (.lst (cutD ds lo hi)) g
  | .kst ds => .ok (.lst (cutD ds lo hi)) g
  | .str z => if okSz z.length then .ok (.str (cutS z lo hi)) g else .bad
  | _ => .bad
theorem rels_cut {K : PySem.W.Frag} {mg : Str → Option Value} {W : Wd} {ds : List D} {vs : List V} (r : rels K mg W ds vs) (lo hi : Option Int) : rels K mg W (cutD ds lo hi) (cutV vs lo hi) := by
  unfold cutD cutV
  rw [rels_length r]
  exact rels_take _ (rels_drop _ r)
theorem cut_whole (ds : List D) (lo hi : Option Int) (h : HT.sIx ds.length 0 lo = 0 ∧ HT.sIx ds.length ds.length hi = ds.length) : cutD ds lo hi = ds := by
  unfold cutD
  rw [h.1, h.2, List.drop_zero, Nat.sub_zero, List.take_length]
theorem de_slice {lo hi : Option Expr} {fl fh : FO} {p2 : Pos} (ha : DE X Wx B O a fa) (hl : DO X Wx B O lo fl) (hh : DO X Wx B O hi fh) : DE X Wx B O (.Subscript a (.Slice lo hi none p2) pos) (fun ρ => M.bind (fa ρ) fun x => M.bind (fl ρ) fun l => M.bind (fh ρ) fun h => dSlice x l h) := by
  refine pe_mono (pe_slice (SlR.or sl_tupA (SlR.or sl_list sl_str)) ha hl hh) fun σ H Q ⟨W, ρ, g, S, P⟩ => ?_
  refine tE_then S P fun v H1 d W1 g1 S1 e1 r P1 => ?_
  refine tO_then S1 P1 fun l H2 W2 g2 S2 e2 P2 => ?_
  refine tO_then S2 P2 fun h H3 W3 g3 S3 e3 P3 => ?_
  have r := rel_le (e2.trans e3).le r
  cases d with
  | tup ds =>
    obtain ⟨p, vs, rfl, f, rr⟩ := r
    refine .inl ⟨p, vs, rfl, SqT.of (S3.wok.sub _ _ f), fun hw => ?_, fun hw q hq => ?_⟩
    · rw [rels_length rr] at hw
      have P3 : Post (RD X) X.K X.mg (fun c d H' => Wx c d σ H') W3 H3 (.ok (.tup (cutD ds l h)) g3) Q := P3
      rw [cut_whole ds l h hw] at P3
      exact Post.done P3 S3.wok S3.cells ⟨p, vs, rfl, f, rr⟩
    · exact Post.new P3 S3.wok S3.cells hq ⟨q, _, rfl, upd_same, rels_le (ext_new S3.wok hq).1.le (rels_cut rr l h)⟩
  | lst ds =>
    obtain ⟨p, vs, rfl, f, rr⟩ := r
    exact .inr (.inl ⟨p, vs, rfl, SqL.of (S3.wok.sub _ _ f), fun q hq => Post.new P3 S3.wok S3.cells hq ⟨q, _, rfl, upd_same, rels_le (ext_new S3.wok hq).1.le (rels_cut rr l h)⟩⟩)
  | kst ds =>
    obtain ⟨p, vs, rfl, f, rr⟩ := r
    exact .inr (.inl ⟨p, vs, rfl, sqL_le S3.wok.sub f, fun q hq => Post.new P3 S3.wok S3.cells hq ⟨q, _, rfl, upd_same, rels_le (ext_new S3.wok hq).1.le (rels_cut rr l h)⟩⟩)
  | str z =>
    cases (show v = _ from r)
    unfold dSlice at P3
    dsimp only at P3
    by_cases hz : okSz z.length = true
    · rw [if_pos hz] at P3
      exact .inr (.inr ⟨z, rfl, of_decide_eq_true hz, Post.done P3 S3.wok S3.cells rfl⟩)
    · rw [if_neg hz] at P3; exact P3.elim
  | _ => exact P3.elim
def flatD : D → Bool
  | .non => true
  | .bl _ => true
  | .int _ => true
  | .str _ => true
  | _ => false
def eqF : D → D → Bool
  | .non, .non => true
  | .bl a, .bl b => a == b
  | .bl a, .int b => (if a then 1 else 0) == b
  | .int a, .bl b => a == (if b then 1 else 0)
  | .int a, .int b => a == b
  | .str a, .str b => a == b
  | _, _ => false
def dInB (x y : D) : Option Bool := match y with
  | .tup ds => if flatD x && ds.all flatD then some (ds.any fun d => eqF d x) else none
  | .ktp ds => if flatD x && ds.all flatD then some (ds.any fun d => eqF d x) else none
  | .lst ds => if flatD x && ds.all flatD then some (ds.any fun d => eqF d x) else none
  | .kst ds => if flatD x && ds.all flatD then some (ds.any fun d => eqF d x) else none
  | .dik kvs => (match keyD x with | some k => some (valA kvs k).isSome | none => none)
  | .dit kvs => (match x with | .tup ds => (match keysD ds with | some k => some (valA kvs k).isSome | none => none) | _ => none)
  | .str j => (match x with | .str i => some (!(Builtin.Str.occurrences j i 0 j.length 1).isEmpty) | _ => none)
  | _ => none
def dIn (x y : D) : M D := fun g => match dInB x y with
  | some b => .ok (.bl b) g
  | none => .bad
def dNotIn (x y : D) : M D := fun g => match dInB x y with
  | some b => .ok (.bl (!b)) g
  | none => .bad
section
variable {K : PySem.W.Frag} {mg : Str → Option Value} {W : Wd}
theorem flat_rel {d : D} {v : V} (r : rel K mg W d v) (h : flatD d = true) : flatV v = true := by
  cases d with
  | non => cases (show _ = _ from r); rfl
  | bl _ => cases (show _ = _ from r); rfl
  | int _ => cases (show _ = _ from r); rfl
  | str _ => cases (show _ = _ from r); rfl
  | _ => exact absurd (show false = true from h) Bool.false_ne_true
theorem eqF_rel {x y : D} {v u : V} (r : rel K mg W x v) (r2 : rel K mg W y u) (h : flatD x = true) (h2 : flatD y = true) : eqF x y = eqV v u := by
  cases x with
  | non => cases (show _ = _ from r); cases y <;> first | (cases (show _ = _ from r2); rfl) | exact absurd (show false = true from h2) Bool.false_ne_true
  | bl _ => cases (show _ = _ from r); cases y <;> first | (cases (show _ = _ from r2); rfl) | exact absurd (show false = true from h2) Bool.false_ne_true
  | int _ => cases (show _ = _ from r); cases y <;> first | (cases (show _ = _ from r2); rfl) | exact absurd (show false = true from h2) Bool.false_ne_true
  | str _ => cases (show _ = _ from r); cases y <;> first | (cases (show _ = _ from r2); rfl) | exact absurd (show false = true from h2) Bool.false_ne_true
  | _ => exact absurd (show false = true from h) Bool.false_ne_true
theorem flats_rel : ∀ {ds : List D} {vs : List V}, rels K mg W ds vs → ds.all flatD = true → vs.all flatV = true
  | [], vs, r, _ => by cases (show vs = [] from r); rfl
  | d :: ds, vs, r, h => by
    obtain ⟨v, ws, rfl, r1, r2⟩ := r
    rw [List.all_cons, Bool.and_eq_true] at h ⊢
    exact ⟨flat_rel r1 h.1, flats_rel r2 h.2⟩
theorem any_rel {x : D} {u : V} (rx : rel K mg W x u) (hx : flatD x = true) : ∀ {ds : List D} {vs : List V}, rels K mg W ds vs → ds.all flatD = true → (ds.any fun d => eqF d x) = inV u vs
  | [], vs, r, _ => by cases (show vs = [] from r); rfl
  | d :: ds, vs, r, h => by
    obtain ⟨v, ws, rfl, r1, r2⟩ := r
    rw [List.all_cons, Bool.and_eq_true] at h
    have ih := any_rel rx hx r2 h.2
    unfold inV at ih ⊢
    rw [List.any_cons, List.any_cons, ih, eqF_rel r1 rx h.1 hx]
end
theorem if_some' {c : Prop} [Decidable c] {α : Type} {a d : α} (h : (if c then some a else none) = some d) : c ∧ a = d := by
  by_cases hc : c
  · rw [if_pos hc] at h; exact ⟨hc, Option.some.inj h⟩
  · rw [if_neg hc] at h; cases h
theorem in_seq {x : D} {ds : List D} {vs : List V} {vx : V} {W : Wd} {b : Bool} (r1 : rel X.K X.mg W x vx) (r : rels X.K X.mg W ds vs) (h : (if flatD x && ds.all flatD then some (ds.any fun d => eqF d x) else none) = some b) : flatV vx = true ∧ vs.all flatV = true ∧ inV vx vs = b := by
  obtain ⟨h1, h2⟩ := if_some' h
  rw [Bool.and_eq_true] at h1
  exact ⟨flat_rel r1 h1.1, flats_rel r h1.2, by rw [← h2, any_rel r1 h1.1 r h1.2]⟩
theorem dop_inB (hu : X.A.units + 1 < cLine) (neg : Bool) : DOp X Wx (compareOp (if neg then .NotIn else .In)) (if neg then dNotIn else dIn) := by
  intro pins s σ H W g x y vx vy ux uy Q I w c r1 r2 q1 q2 P
  have P' : ∃ b, dInB x y = some b ∧ Post (RD X) X.K X.mg (fun c d H' => Wx c d σ H') W H (.ok (.bl (if neg then !b else b)) g) Q := by
    cases h : dInB x y with
    | none => cases neg <;> simp only [dIn, dNotIn, h, if_true, if_false, Bool.false_eq_true] at P <;> exact P.elim
    | some b => exact ⟨b, rfl, by cases neg <;> simpa only [dIn, dNotIn, h, if_true, if_false, Bool.false_eq_true] using P⟩
  obtain ⟨b, hb, P⟩ := P'
  have q := Post.done (R := RD X) (v := .bl (if neg then !b else b)) P w c rfl
  have seq : ∀ {p : Addr} {vs : List V}, (SqL X.K H p vs ∨ SqT X.K H p vs) → RelV (.ref p) uy → flatV vx = true ∧ vs.all flatV = true ∧ inV vx vs = b → wpAny (model X.prog X.w) X.A (compareOp (if neg then .NotIn else .In) ux uy) (EP X pins σ Q) X.xe s := by
    intro p vs hs hr ⟨z1, z2, z3⟩
    cases neg with
    | true => exact op_notIn_seq pins s σ H _ _ _ _ Q I q1 hr ⟨p, vs, rfl, hs, z1, z2, by rw [z3]; exact q⟩
    | false => exact op_in_seq pins s σ H _ _ _ _ Q I q1 hr ⟨p, vs, rfl, hs, z1, z2, by rw [z3]; exact q⟩
  have dict : ∀ {p : Addr} {o : Option V}, DGet H p vx o → o.isSome = b → RelV (.ref p) uy → wpAny (model X.prog X.w) X.A (compareOp (if neg then .NotIn else .In) ux uy) (EP X pins σ Q) X.xe s := by
    intro p o hg ho hr
    obtain rfl : uy = Value.ref p := hr
    cases neg with
    | true => exact d_notIn hu I hg q1 fun s3 I3 => ⟨.bl _, H, I3, rfl, by rw [ho]; exact q⟩
    | false => exact d_in hu I hg q1 fun s3 I3 => ⟨.bl _, H, I3, rfl, by rw [ho]; exact q⟩
  cases y with
  | tup ds => obtain ⟨p, vs, rfl, f, r⟩ := r2; exact seq (.inr (SqT.of (w.sub _ _ f))) q2 (in_seq r1 r hb)
  | ktp ds => obtain ⟨p, vs, rfl, f, r⟩ := r2; exact seq (.inr (sqT_le w.sub f)) q2 (in_seq r1 r hb)
  | lst ds => obtain ⟨p, vs, rfl, f, r⟩ := r2; exact seq (.inl (SqL.of (w.sub _ _ f))) q2 (in_seq r1 r hb)
  | kst ds => obtain ⟨p, vs, rfl, f, r⟩ := r2; exact seq (.inl (sqL_le w.sub f)) q2 (in_seq r1 r hb)
  | dik kvs =>
    obtain ⟨p, ws, rfl, f, r⟩ := r2
    unfold dInB at hb
    dsimp only at hb
    cases h : keyD x with
    | none => rw [h] at hb; cases hb
    | some k =>
      rw [h] at hb
      have ey := key_rel r1 h
      subst ey
      refine dict (DGet.k (w.sub _ _ f)) ?_ q2
      have h3 := relK_val k r
      rw [← Option.some.inj hb]
      cases h4 : valA kvs k with
      | none => rw [h3.2 h4]; rfl
      | some d => obtain ⟨v, e, _⟩ := h3.1 d h4; rw [e]; rfl
  | dit kvs =>
    obtain ⟨p, ws, rfl, f, r⟩ := r2
    cases x with
    | tup ds =>
      obtain ⟨p2, vs, rfl, f2, rr⟩ := r1
      unfold dInB at hb
      dsimp only at hb
      cases h : keysD ds with
      | none => rw [h] at hb; cases hb
      | some k =>
        rw [h] at hb
        have ey := keys_rel rr h
        subst ey
        refine dict (DGet.t (w.sub _ _ f) (w.sub _ _ f2)) ?_ q2
        have h3 := relT_val k r
        rw [← Option.some.inj hb]
        cases h4 : valA kvs k with
        | none => rw [h3.2 h4]; rfl
        | some d => obtain ⟨v, e, _⟩ := h3.1 d h4; rw [e]; rfl
    | _ => cases hb
  | str j =>
    cases x with
    | str i =>
      cases (show _ = _ from r1); cases (show _ = _ from r2)
      have hb' := Option.some.inj (show some (!(Builtin.Str.occurrences j i 0 j.length 1).isEmpty) = some b from hb)
      cases neg with
      | true => exact op_notin_str pins s σ H _ _ _ _ Q I q1 q2 ⟨i, j, rfl, rfl, by rw [hb']; exact q⟩
      | false => exact op_in_str pins s σ H _ _ _ _ Q I q1 q2 ⟨i, j, rfl, rfl, by rw [hb']; exact q⟩
    | _ => cases hb
  | _ => cases hb
theorem dop_in (hu : X.A.units + 1 < cLine) : DOp X Wx (compareOp .In) dIn := dop_inB hu false
theorem dop_notIn (hu : X.A.units + 1 < cLine) : DOp X Wx (compareOp .NotIn) dNotIn := dop_inB hu true
end
end DL
set_option maxRecDepth 100000
set_option maxHeartbeats 4000000
namespace DL
open PySem PySem.Spec PyProof.Rows L2
inductive OutS where
  | nx (r : Env) (g : Gs) | rt (d : D) (g : Gs) | bk (r : Env) (g : Gs) | ct (r : Env) (g : Gs) | ex (x : Ex) (r : Env) (g : Gs) | bad
abbrev FS := Env → Gs → OutS
section
variable (X : Cx) (Wx : WX) (B : Bs) (O : List Nat) (W0 : Wd)
def PostS (D : Ends) : OutS → Prop
  | .nx r g => ∀ W σ H, WLe W0 W → SR X.K X.mg B O W σ H r g → D.nx σ H
  | .bk r g => ∀ W σ H, WLe W0 W → SR X.K X.mg B O W σ H r g → D.bk σ H
  | .ct r g => ∀ W σ H, WLe W0 W → SR X.K X.mg B O W σ H r g → D.ct σ H
  | .rt d g => ∀ v W H, Ext B.W B.H W H → WOk W H → GOk X.K X.mg W H g → rel X.K X.mg W d v → D.rt v H
  | .ex x r g => ∀ c dd W σ H, SR X.K X.mg B [] W σ H r g → ExAt X.K X.mg W H x c dd → Wx c dd σ H
  | .bad => False
end
def tS (X : Cx) (Wx : WX) (B : Bs) (O O' : List Nat) (f : FS) : TS := fun D σ H => ∃ W ρ g, SR X.K X.mg B O W σ H ρ g ∧ PostS X Wx B O' W D (f ρ g)
abbrev DS (X : Cx) (Wx : WX) (B : Bs) (O O' : List Nat) (st : Stmt) (f : FS) : Prop := PS X st (tS X Wx B O O' f)
abbrev DSs (X : Cx) (Wx : WX) (B : Bs) (O O' : List Nat) (st : List Stmt) (f : FS) : Prop := PSs X st (tS X Wx B O O' f)
section
variable {X : Cx} {Wx : WX} {B : Bs} {O O' O'' : List Nat} {st : Stmt} {sts : List Stmt} {f h : FS} {e a b : Expr} {es : List Expr} {fe fa fb : FE} {ft : FT} {fs : FA} {pos : Pos}
theorem ps_mono {t t' : TS} (p : PS X st t) (m : ∀ D σ H, t' D σ H → t D σ H) : PS X st t' := ⟨fun pins s σ H D I q => p.run pins s σ H D I (m D σ H q)⟩
theorem pss_mono {t t' : TS} (p : PSs X sts t) (m : ∀ D σ H, t' D σ H → t D σ H) : PSs X sts t' := ⟨fun pins s σ H D I q => p.run pins s σ H D I (m D σ H q)⟩
theorem ownAt_ho {K : PySem.W.Frag} {mg : Str → Option Value} {W : Wd} {H : Hp} {p : Addr} {d : D} (o : ownAt K mg B W H p d) : ∃ u, H p = some u := by
  cases d with
  | lst ds => obtain ⟨vs, h, _⟩ := o; exact ⟨_, h⟩
  | dik ds => obtain ⟨vs, h, _⟩ := o; exact ⟨_, h⟩
  | dit ds => obtain ⟨vs, h, _⟩ := o; exact ⟨_, h⟩
  | ins c fs => obtain ⟨C, dx, ws, m, h, _⟩ := o; exact ⟨_, h⟩
  | _ => exact o.elim
theorem ownAt_le {K : PySem.W.Frag} {mg : Str → Option Value} {W W' : Wd} {H : Hp} {p : Addr} {d : D} (le : WLe W W') (o : ownAt K mg B W H p d) : ownAt K mg B W' H p d := by
  cases d with
  | lst ds => obtain ⟨vs, h, r⟩ := o; exact ⟨vs, h, rels_le le r⟩
  | dik ds => obtain ⟨vs, h, r⟩ := o; exact ⟨vs, h, relK_le le r⟩
  | dit ds => obtain ⟨vs, h, r⟩ := o; exact ⟨vs, h, relT_le le r⟩
  | ins c fs => obtain ⟨C, dx, ws, m, h, r⟩ := o; exact ⟨C, dx, ws, m, h, relF_le le r⟩
  | _ => exact o.elim
theorem rel_own {K : PySem.W.Frag} {mg : Str → Option Value} {W : Wd} {H : Hp} {p : Addr} {u : HO} {d : D} (o : ownAt K mg B W H p d) (hu : H p = some u) (nf : W.F p = none) : rel K mg ⟨upd W.F p u, W.th⟩ d (.ref p) := by
  have le : WLe W ⟨upd W.F p u, W.th⟩ := ⟨fun a x h => by show upd W.F p u a = some x; rw [upd_ne (ne_of_none h nf)]; exact h, ⟨[], by simp⟩⟩
  cases d with
  | lst ds => obtain ⟨vs, h, r⟩ := o; rw [hu] at h; cases h; exact ⟨p, vs, rfl, upd_same, rels_le le r⟩
  | dik ds => obtain ⟨vs, h, r⟩ := o; rw [hu] at h; cases h; exact ⟨p, vs, rfl, upd_same, relK_le le r⟩
  | dit ds => obtain ⟨vs, h, r⟩ := o; rw [hu] at h; cases h; exact ⟨p, vs, rfl, upd_same, relT_le le r⟩
  | ins c fs => obtain ⟨C, dx, ws, m, h, r⟩ := o; rw [hu] at h; cases h; exact ⟨p, C, dx, ws, rfl, m, upd_same, relF_le le r⟩
  | _ => exact o.elim
theorem cells_W {K : PySem.W.Frag} {mg : Str → Option Value} {W : Wd} {H : Hp} {g : Gs} {F : Hp} (le : WLe W ⟨F, W.th⟩) (c : GOk K mg W H g) : GOk K mg ⟨F, W.th⟩ H g := by
  refine ⟨c.len, fun i p co e1 e2 => ?_⟩
  have q := c.at_ i p co e1 e2
  cases co with
  | lst ds => obtain ⟨vs, h, r⟩ := q; exact ⟨vs, h, rels_le le r⟩
  | dik ds => obtain ⟨vs, h, r⟩ := q; exact ⟨vs, h, relK_le le r⟩
  | ins n fs => obtain ⟨C, dx, ws, m, h, r⟩ := q; exact ⟨C, dx, ws, m, h, relF_le le r⟩
/-- the slot i is owned no more -/
theorem SR.freeze {K : PySem.W.Frag} {mg : Str → Option Value} {W : Wd} {σ : L2.St} {H : Hp} {ρ : Env} {g : Gs} (S : SR K mg B O W σ H ρ g) (i : Nat) (hO : ∀ j, j ∈ O' → j ∈ O ∧ j ≠ i) (hO2 : ∀ j, j ∈ O → j = i ∨ j ∈ O') : ∃ W', WLe W W' ∧ SR K mg B O' W' σ H ρ g := by
  by_cases hi : i ∈ O ∧ ∃ d, ρ[i]? = some (some d)
  · obtain ⟨hi, d, hd⟩ := hi
    obtain ⟨p, hp, own⟩ := S.env.own i d hi hd
    obtain ⟨u, hu⟩ := ownAt_ho own.at_
    have nf := own.nf
    have le : WLe W ⟨upd W.F p u, W.th⟩ := ⟨fun a x h => by show upd W.F p u a = some x; rw [upd_ne (ne_of_none h nf)]; exact h, ⟨[], by simp⟩⟩
    refine ⟨⟨upd W.F p u, W.th⟩, le, ⟨⟨S.ext.le.trans le, S.ext.keep, fun a ha => ?_, S.ext.there⟩, ⟨fun a x h => ?_, S.wok.nd, fun a ha => ?_⟩, ⟨S.env.len, fun j e nj hj => ?_, fun j e mj hj => ?_, fun j k q mj mk => S.env.apart j k q (hO j mj).1 (hO k mk).1⟩, cells_W le S.cells⟩⟩
    · have q := S.ext.old a ha
      refine ⟨?_, q.2⟩
      show upd W.F p u a = B.W.F a
      rw [upd_ne fun z => ha (by rw [z]; exact own.new)]
      exact q.1
    · have h : upd W.F p u a = some x := h
      by_cases e : a = p
      · subst e; rw [upd_same] at h; rw [hu]; exact h
      · rw [upd_ne e] at h; exact S.wok.sub a x h
    · have q := S.wok.free a ha
      refine ⟨?_, q.2⟩
      show upd W.F p u a = none
      rw [upd_ne fun z => own.nt (by rw [← z]; exact ha)]
      exact q.1
    · by_cases ej : j ∈ O
      · rcases hO2 j ej with z | z
        · subst z
          rw [hd] at hj
          cases hj
          exact ⟨.ref p, hp, rel_own own.at_ hu nf⟩
        · exact absurd z nj
      · obtain ⟨v, h1, h2⟩ := S.env.val j e ej hj
        exact ⟨v, h1, rel_le le h2⟩
    · obtain ⟨q, hq, oq⟩ := S.env.own j e (hO j mj).1 hj
      have ne : q ≠ p := fun z => (hO j mj).2 (S.env.apart j i p (hO j mj).1 hi (by rw [← z]; exact hq) hp ⟨e, hj⟩ ⟨d, hd⟩)
      refine ⟨q, hq, ⟨ownAt_le le oq.at_, ?_, oq.nt, oq.new⟩⟩
      show upd W.F p u q = none
      rw [upd_ne ne]
      exact oq.nf
  · refine ⟨W, WLe.refl W, ⟨S.ext, S.wok, ⟨S.env.len, fun j e nj hj => ?_, fun j e mj hj => S.env.own j e (hO j mj).1 hj, fun j k q mj mk => S.env.apart j k q (hO j mj).1 (hO k mk).1⟩, S.cells⟩⟩
    by_cases ej : j ∈ O
    · rcases hO2 j ej with z | z
      · subst z; exact absurd ⟨ej, e, hj⟩ hi
      · exact absurd z nj
    · exact S.env.val j e ej hj
theorem SR.less {K : PySem.W.Frag} {mg : Str → Option Value} : ∀ (L : List Nat) {O O' : List Nat} {W : Wd} {σ : L2.St} {H : Hp} {ρ : Env} {g : Gs}, SR K mg B O W σ H ρ g → (∀ j, j ∈ O → j ∈ L ∨ j ∈ O') → (∀ j, j ∈ O' → j ∈ O) → ∃ W', WLe W W' ∧ SR K mg B O' W' σ H ρ g
  | [], O, O', W, σ, H, ρ, g, S, h1, h2 => by
    refine ⟨W, WLe.refl W, ⟨S.ext, S.wok, ⟨S.env.len, fun j e nj hj => S.env.val j e (fun z => (h1 j z).elim (fun y => nomatch y) nj) hj, fun j e mj hj => S.env.own j e (h2 j mj) hj, fun j k q mj mk => S.env.apart j k q (h2 j mj) (h2 k mk)⟩, S.cells⟩⟩
  | i :: L, O, O', W, σ, H, ρ, g, S, h1, h2 => by
    by_cases hi : i ∈ O'
    · exact SR.less L S (fun j hj => by
        rcases h1 j hj with z | z
        · rcases List.mem_cons.mp z with e | z
          · exact .inr (by rw [e]; exact hi)
          · exact .inl z
        · exact .inr z) h2
    · obtain ⟨W1, le1, S1⟩ := S.freeze (O' := O.filter fun j => decide (j ≠ i)) i (fun j hj => by
        have q := List.mem_filter.mp hj
        exact ⟨q.1, of_decide_eq_true q.2⟩) (fun j hj => by
        by_cases e : j = i
        · exact .inl e
        · exact .inr (List.mem_filter.mpr ⟨hj, decide_eq_true e⟩))
      obtain ⟨W2, le2, S2⟩ := SR.less (O' := O') L S1 (fun j hj => by
        have q := List.mem_filter.mp hj
        have q2 : j ≠ i := of_decide_eq_true q.2
        rcases h1 j q.1 with z | z
        · rcases List.mem_cons.mp z with e | z
          · exact absurd e q2
          · exact .inl z
        · exact .inr z) (fun j hj => List.mem_filter.mpr ⟨h2 j hj, decide_eq_true fun e => hi (by rw [← e]; exact hj)⟩)
      exact ⟨W2, le1.trans le2, S2⟩
theorem SR.allKnown {K : PySem.W.Frag} {mg : Str → Option Value} {W : Wd} {σ : L2.St} {H : Hp} {ρ : Env} {g : Gs} (S : SR K mg B O W σ H ρ g) : ∃ W', WLe W W' ∧ SR K mg B [] W' σ H ρ g :=
  SR.less O S (fun j h => .inl h) (fun j h => nomatch h)
theorem ExAt.le {K : PySem.W.Frag} {mg : Str → Option Value} {W W' : Wd} {H : Hp} {x : Ex} {c : Value} {dd : Option Addr} (le : WLe W W') (h : ExAt K mg W H x c dd) : ExAt K mg W' H x c dd := by
  obtain ⟨h1, h2⟩ := h
  refine ⟨h1, ?_⟩
  cases dd with
  | none => exact h2
  | some a => obtain ⟨ws, h3, h4⟩ := h2; exact ⟨ws, h3, relF_le le h4⟩
theorem PostS.ext {D : Ends} {o : OutS} {W W' : Wd} (le : WLe W W') (h : PostS X Wx B O W D o) : PostS X Wx B O W' D o := by
  cases o with
  | nx r g => exact fun W1 σ H l S => h W1 σ H (le.trans l) S
  | bk r g => exact fun W1 σ H l S => h W1 σ H (le.trans l) S
  | ct r g => exact fun W1 σ H l S => h W1 σ H (le.trans l) S
  | rt d g => exact h
  | ex x r g => exact h
  | bad => exact h
/-- what is wanted, with fewer slots owned behind -/
theorem PostS.less {D : Ends} {o : OutS} {W0 : Wd} (hO : O'.all (fun j => O.contains j) = true) (h : PostS X Wx B O' W0 D o) : PostS X Wx B O W0 D o := by
  have h2 : ∀ j, j ∈ O' → j ∈ O := fun j hj => by simpa using List.all_eq_true.mp hO j hj
  cases o with
  | nx r g => exact fun W σ H l S => let ⟨W', l2, S'⟩ := SR.less O S (fun j h => .inl h) h2; h W' σ H (l.trans l2) S'
  | bk r g => exact fun W σ H l S => let ⟨W', l2, S'⟩ := SR.less O S (fun j h => .inl h) h2; h W' σ H (l.trans l2) S'
  | ct r g => exact fun W σ H l S => let ⟨W', l2, S'⟩ := SR.less O S (fun j h => .inl h) h2; h W' σ H (l.trans l2) S'
  | rt d g => exact h
  | ex x r g => exact h
  | bad => exact h
def sOf (o : Out D) (ρ : Env) (k : D → Gs → OutS) : OutS := match o with
  | .ok d g => k d g
  | .exc x g => .ex x ρ g
  | .bad => .bad
theorem sx {D : Ends} {σ : L2.St} {H : Hp} {W : Wd} {ρ : Env} {g : Gs} {k : DL.D → Gs → OutS} {Q : VK} (S : SR X.K X.mg B O W σ H ρ g) (P : PostS X Wx B O' W D (sOf (fe ρ g) ρ k))
    (hq : ∀ v H1 d W1 g1, SR X.K X.mg B O W1 σ H1 ρ g1 → Ext W H W1 H1 → rel X.K X.mg W1 d v → PostS X Wx B O' W1 D (k d g1) → Q v H1) : tE X Wx B O fe σ H Q := by
  refine ⟨W, ρ, g, S, ?_⟩
  cases h : fe ρ g with
  | ok d g1 => rw [h] at P; exact fun v W1 H1 e w c r => hq v H1 d W1 g1 (S.ext' e w c) e r (P.ext e.le)
  | exc x g1 =>
    rw [h] at P
    intro c dd W1 H1 e w c' hx
    obtain ⟨W2, le, S2⟩ := (S.ext' e w c').allKnown
    exact P c dd W2 σ H1 S2 (hx.le le)
  | bad => rw [h] at P; exact P.elim
def sOfT (o : Out Bool) (ρ : Env) (k : Bool → Gs → OutS) : OutS := match o with
  | .ok d g => k d g
  | .exc x g => .ex x ρ g
  | .bad => .bad
theorem sxT {D : Ends} {σ : L2.St} {H : Hp} {W : Wd} {ρ : Env} {g : Gs} {k : Bool → Gs → OutS} {Q : Bool → Hp → Prop} (S : SR X.K X.mg B O W σ H ρ g) (P : PostS X Wx B O' W D (sOfT (ft ρ g) ρ k))
    (hq : ∀ d H1 W1 g1, SR X.K X.mg B O W1 σ H1 ρ g1 → Ext W H W1 H1 → PostS X Wx B O' W1 D (k d g1) → Q d H1) : tT X Wx B O ft σ H Q := by
  refine ⟨W, ρ, g, S, ?_⟩
  cases h : ft ρ g with
  | ok d g1 =>
    rw [h] at P
    intro v W1 H1 e w c r
    have r : v = d := r
    subst r
    exact hq v H1 W1 g1 (S.ext' e w c) e (P.ext e.le)
  | exc x g1 =>
    rw [h] at P
    intro c dd W1 H1 e w c' hx
    obtain ⟨W2, le, S2⟩ := (S.ext' e w c').allKnown
    exact P c dd W2 σ H1 S2 (hx.le le)
  | bad => rw [h] at P; exact P.elim
def sSkip : FS := fun ρ g => .nx ρ g
def sSeq (f h : FS) : FS := fun ρ g => match f ρ g with
  | .nx r g' => h r g'
  | o => o
theorem dss_nil : DSs X Wx B O O [] sSkip := pss_mono pss_nil fun D σ H ⟨W, ρ, g, S, P⟩ => P W σ H (WLe.refl W) S
theorem dss_one (h1 : DS X Wx B O O' st f) : DSs X Wx B O O' [st] f := pss_one h1
/-- O': what is owned between; breaks, continues of the first part leave O'' -/
theorem dss_cons (h1 : DS X Wx B O O' st f) (h2 : DSs X Wx B O' O'' sts h) (hO : O''.all (fun j => O'.contains j) = true := by decide) : DSs X Wx B O O'' (st :: sts) (sSeq f h) := by
  refine pss_mono (pss_cons h1 h2) fun D σ H ⟨W, ρ, g, S, P⟩ => ⟨W, ρ, g, S, ?_⟩
  unfold sSeq at P
  cases q : f ρ g with
  | nx r g' => rw [q] at P; exact fun W1 σ1 H1 l S1 => ⟨W1, r, g', S1, P.ext l⟩
  | bk r g' => rw [q] at P; exact PostS.less (o := .bk r g') hO P
  | ct r g' => rw [q] at P; exact PostS.less (o := .ct r g') hO P
  | rt d g' => rw [q] at P; exact P
  | ex x r g' => rw [q] at P; exact P
  | bad => rw [q] at P; exact P
def sBreak : FS := fun ρ g => .bk ρ g
def sCont : FS := fun ρ g => .ct ρ g
def sBad : FS := fun _ _ => .bad
/-- a statement that is never reached -/
theorem ds_never : DS X Wx B O O' st sBad := ⟨fun _ _ _ _ _ _ ⟨_, _, _, _, P⟩ => P.elim⟩
theorem dss_never : DSs X Wx B O O' sts sBad := ⟨fun _ _ _ _ _ _ ⟨_, _, _, _, P⟩ => P.elim⟩
def sRet (fe : FE) : FS := fun ρ g => sOf (fe ρ g) ρ fun d g' => .rt d g'
theorem ds_ret (he : DE X Wx B O e fe) : DS X Wx B O O' (.Return (some e) pos) (sRet fe) :=
  ps_mono (ps_ret he) fun D σ H ⟨W, ρ, g, S, P⟩ => sx S P fun v H1 d W1 g1 S1 e1 r P1 => P1 v W1 H1 S1.ext S1.wok S1.cells r
def sRetN : FS := fun ρ g => .rt .non g
def sExpr (fe : FE) : FS := fun ρ g => sOf (fe ρ g) ρ fun _ g' => .nx ρ g'
theorem ds_expr (he : DE X Wx B O e fe) (hs : swapsWith e none pos.line X.env = pure false := by rfl) : DS X Wx B O O (.Expr e pos) (sExpr fe) :=
  ps_mono (ps_expr he hs) fun D σ H ⟨W, ρ, g, S, P⟩ => sx S P fun v H1 d W1 g1 S1 e1 r P1 => P1 W1 σ H1 (WLe.refl _) S1
def sIf (ft : FT) (f h : FS) : FS := fun ρ g => sOfT (ft ρ g) ρ fun c g' => if c = true then f ρ g' else h ρ g'
theorem ds_if {c : Expr} {l1 l2 : List Stmt} (hc : DT X Wx B O c ft) (h1 : DSs X Wx B O O' l1 f) (h2 : DSs X Wx B O O' l2 h) : DS X Wx B O O' (.If c l1 l2 pos) (sIf ft f h) := by
  refine ps_mono (ps_if hc h1 h2) fun D σ H ⟨W, ρ, g, S, P⟩ => sxT S P fun d H1 W1 g1 S1 e1 P1 => ?_
  cases d with
  | true => rw [if_pos rfl] at P1 ⊢; exact ⟨W1, ρ, g1, S1, P1⟩
  | false => rw [if_neg (by decide)] at P1 ⊢; exact ⟨W1, ρ, g1, S1, P1⟩
inductive OutG where
  | ok (r : Env) (g : Gs) | bad
abbrev FG := D → Env → Gs → OutG
abbrev FGs := List D → Env → Gs → OutG
section
variable (X : Cx) (B : Bs) (O : List Nat)
def PostG (W : Wd) (Q : L2.St → Hp → Prop) : OutG → Prop
  | .ok r g => ∀ W' σ' H', WLe W W' → SR X.K X.mg B O W' σ' H' r g → Q σ' H'
  | .bad => False
end
def tG (X : Cx) (B : Bs) (O O' : List Nat) (f : FG) : TG := fun v σ H Q => ∃ W ρ g d, SR X.K X.mg B O W σ H ρ g ∧ rel X.K X.mg W d v ∧ PostG X B O' W Q (f d ρ g)
def tGs (X : Cx) (B : Bs) (O O' : List Nat) (f : FGs) : TGs := fun vs σ H Q => ∃ W ρ g ds, SR X.K X.mg B O W σ H ρ g ∧ rels X.K X.mg W ds vs ∧ PostG X B O' W Q (f ds ρ g)
abbrev DG (X : Cx) (B : Bs) (O O' : List Nat) (t : Expr) (f : FG) : Prop := PG X t (tG X B O O' f)
abbrev DGs (X : Cx) (B : Bs) (O O' : List Nat) (t : List Expr) (f : FGs) : Prop := PGs X t (tGs X B O O' f)
theorem pg_mono {t t' : TG} (p : PG X e t) (m : ∀ v σ H Q, t' v σ H Q → t v σ H Q) : PG X e t' := ⟨fun pins s σ H v u Q I r q => p.run pins s σ H v u Q I r (m v σ H Q q)⟩
theorem pgs_mono {t t' : TGs} (p : PGs X es t) (m : ∀ v σ H Q, t' v σ H Q → t v σ H Q) : PGs X es t' := ⟨fun pins s σ H v u Q I r q => p.run pins s σ H v u Q I r (m v σ H Q q)⟩
/-- a slot is set -/
theorem SR.set {K : PySem.W.Frag} {mg : Str → Option Value} {W : Wd} {σ : L2.St} {H : Hp} {ρ : Env} {g : Gs} (S : SR K mg B O W σ H ρ g) (i : Nat) {d : D} {v : V} (r : rel K mg W d v) (hO : ∀ j, j ∈ O' → j ∈ O ∧ j ≠ i) (hO2 : ∀ j, j ∈ O → j = i ∨ j ∈ O') :
    SR K mg B O' W (σ.set i (some v)) H (ρ.set i (some d)) g := by
  refine ⟨S.ext, S.wok, ⟨by rw [List.length_set, List.length_set]; exact S.env.len, fun j e nj hj => ?_, fun j e mj hj => ?_, fun j k q mj mk hj hk => ?_⟩, S.cells⟩
  · by_cases ej : i = j
    · subst ej
      by_cases hl : i < ρ.length
      · rw [List.getElem?_set_self hl] at hj
        have e1 : d = e := by simpa using hj
        rw [← e1]
        exact ⟨v, List.getElem?_set_self (by rw [← S.env.len]; exact hl), r⟩
      · rw [List.getElem?_eq_none (by rw [List.length_set]; omega)] at hj; cases hj
    · rw [List.getElem?_set_ne ej] at hj ⊢
      exact S.env.val j e (fun z => (hO2 j z).elim (fun y => ej y.symm) nj) hj
  · have ne := (hO j mj).2
    rw [List.getElem?_set_ne (Ne.symm ne)] at hj ⊢
    exact S.env.own j e (hO j mj).1 hj
  · rw [List.getElem?_set_ne (Ne.symm (hO j mj).2)] at hj ⊢
    rw [List.getElem?_set_ne (Ne.symm (hO k mk).2)] at hk ⊢
    exact S.env.apart j k q (hO j mj).1 (hO k mk).1 hj hk
def drop1 (O : List Nat) (i : Nat) : List Nat := O.filter fun j => !(j == i)
theorem drop1_mem {O : List Nat} {i j : Nat} : j ∈ drop1 O i → j ∈ O ∧ j ≠ i := fun h => by
  have q := List.mem_filter.mp h
  exact ⟨q.1, by simpa using q.2⟩
theorem drop1_of {O : List Nat} {i j : Nat} (h : j ∈ O) : j = i ∨ j ∈ drop1 O i := by
  by_cases e : j = i
  · exact .inl e
  · exact .inr (List.mem_filter.mpr ⟨h, by simpa using e⟩)
def gNam (i : Nat) : FG := fun d ρ g => .ok (ρ.set i (some d)) g
theorem dg_name (i : Nat) {x : Str} (hN : X.N.Nodup) (hi : X.N[i]? = some x := by rfl) (hx : Loc X.env.scope x := by first | exact .inl rfl | exact .inr rfl) (hf : X.fn x = true ∨ X.env.scope.names.lookup x = some .local := by first | exact .inl rfl | exact .inr rfl | assumption) (hd : O' = drop1 O i := by rfl) : DG X B O O' (.Name x pos) (gNam i) := by
  subst hd
  refine pg_mono (pg_name hN hi hx hf) fun v σ H Q ⟨W, ρ, g, d, S, r, P⟩ => ?_
  exact P W _ H (WLe.refl W) (S.set i r (fun j hj => drop1_mem hj) fun j hj => drop1_of hj)
def gsNil : FGs := fun ds ρ g => match ds with
  | [] => .ok ρ g
  | _ => .bad
def gsCons (f : FG) (h : FGs) : FGs := fun ds ρ g => match ds with
  | d :: r => (match f d ρ g with | .ok ρ' g' => h r ρ' g' | .bad => .bad)
  | [] => .bad
theorem dgs_nil : DGs X B O O [] gsNil := by
  refine pgs_mono pgs_nil fun vs σ H Q ⟨W, ρ, g, ds, S, r, P⟩ => ?_
  cases ds with
  | nil => exact ⟨r, P W σ H (WLe.refl W) S⟩
  | cons d ds => exact P.elim
theorem dgs_cons {f : FG} {h : FGs} (h1 : DG X B O O' e f) (h2 : DGs X B O' O'' es h) (hs : (assignEach (e :: es) X.env).map (·.2) = assign e X.env :: (assignEach es X.env).map (·.2) := by rfl) : DGs X B O O'' (e :: es) (gsCons f h) := by
  refine pgs_mono (pgs_cons h1 h2 hs) fun vs σ H Q ⟨W, ρ, g, ds, S, r, P⟩ => ?_
  cases ds with
  | nil => exact P.elim
  | cons d ds =>
    obtain ⟨v, ws, e, r1, r2⟩ := r
    refine ⟨v, ws, e, W, ρ, g, d, S, r1, ?_⟩
    unfold gsCons at P
    dsimp only at P
    cases q : f d ρ g with
    | bad => rw [q] at P; exact P.elim
    | ok ρ' g' =>
      rw [q] at P
      intro W' σ' H' le S'
      refine ⟨W', ρ', g', ds, S', rels_le le r2, ?_⟩
      dsimp only at P
      cases q2 : h ds ρ' g' with
      | bad => rw [q2] at P; exact P.elim
      | ok ρ2 g2 => rw [q2] at P; exact fun W2 σ2 H2 le2 S2 => P W2 σ2 H2 (le.trans le2) S2
def gTup (n : Nat) (h : FGs) : FG := fun d ρ g => match d with
  | .tup ds => if ds.length = n then h ds ρ g else .bad
  | _ => .bad
theorem dg_tup {h : FGs} {k : Nat} {n : Nat} (hc : X.calm = true) (h1 : DGs X B O O' es h) (hn : (assignEach es X.env).length = n := by rfl) (hst : (assignEach es X.env).findIdx? (·.1) = none := by rfl) : DG X B O O' (.Tuple es k pos) (gTup n h) := by
  refine pg_mono (pg_tup hc h1 hn hst) fun v σ H Q ⟨W, ρ, g, d, S, r, P⟩ => ?_
  cases d with
  | tup ds =>
    obtain ⟨p, vs, rfl, f, rr⟩ := r
    unfold gTup at P
    dsimp only at P
    by_cases hl : ds.length = n
    · rw [if_pos hl] at P
      exact ⟨p, vs, rfl, SqT.of (S.wok.sub _ _ f), by rw [rels_length rr]; exact hl, W, ρ, g, ds, S, rr, P⟩
    · rw [if_neg hl] at P; exact P.elim
  | _ => exact P.elim
def gLst (n : Nat) (h : FGs) : FG := fun d ρ g => match d with
  | .lst ds => if ds.length = n then h ds ρ g else .bad
  | _ => .bad
theorem dg_lst {h : FGs} {k : Nat} {n : Nat} (hc : X.calm = true) (h1 : DGs X B O O' es h) (hn : (assignEach es X.env).length = n := by rfl) (hst : (assignEach es X.env).findIdx? (·.1) = none := by rfl) : DG X B O O' (.Tuple es k pos) (gLst n h) := by
  refine pg_mono (pg_unl hc h1 hn hst) fun v σ H Q ⟨W, ρ, g, d, S, r, P⟩ => ?_
  cases d with
  | lst ds =>
    obtain ⟨p, vs, rfl, f, rr⟩ := r
    unfold gLst at P
    dsimp only at P
    by_cases hl : ds.length = n
    · rw [if_pos hl] at P
      exact ⟨p, vs, rfl, SqL.of (S.wok.sub _ _ f), by rw [rels_length rr]; exact hl, W, ρ, g, ds, S, rr, P⟩
    · rw [if_neg hl] at P; exact P.elim
  | _ => exact P.elim
def sAsg (fe : FE) (fg : FG) : FS := fun ρ g => sOf (fe ρ g) ρ fun d g' => match fg d ρ g' with
  | .ok r g2 => .nx r g2
  | .bad => .bad
theorem asg_of {D : Ends} {fg : FG} {v : V} {d : DL.D} {W : Wd} {σ : L2.St} {H : Hp} {ρ : Env} {g : Gs} (S : SR X.K X.mg B O W σ H ρ g) (r : rel X.K X.mg W d v) (P : PostS X Wx B O' W D (match fg d ρ g with | .ok r g2 => .nx r g2 | .bad => .bad)) : tG X B O O' fg v σ H D.nx := by
  refine ⟨W, ρ, g, d, S, r, ?_⟩
  cases q : fg d ρ g with
  | bad => rw [q] at P; exact P.elim
  | ok r2 g2 => rw [q] at P; exact fun W' σ' H' l S' => P W' σ' H' l S'
theorem ds_asg {tg : Expr} {fg : FG} (he : DE X Wx B O e fe) (hg : DG X B O O' tg fg) (hs : swapsWithSole [tg] e pos.line X.env = pure false := by rfl) (hw : swappedStores [tg] e X.env = pure none := by rfl)
    (h1 : (assignEach [tg] X.env).map (·.2) = [assign tg X.env] := by rfl) : DS X Wx B O O' (.Assign [tg] e pos) (sAsg fe fg) :=
  ps_mono (ps_asg he hg hs hw h1) fun D σ H ⟨W, ρ, g, S, P⟩ => sx S P fun v H1 d W1 g1 S1 e1 r P1 => asg_of S1 r P1
def sSet (i : Nat) (fe : FE) : FS := fun ρ g => sOf (fe ρ g) ρ fun d g' => .nx (ρ.set i (some d)) g'
theorem ds_set (i : Nat) {x : Str} {pos' : Pos} (hN : X.N.Nodup) (he : DE X Wx B O e fe) (hi : X.N[i]? = some x := by rfl) (hx : Loc X.env.scope x := by first | exact .inl rfl | exact .inr rfl) (hs : swapsWith e (some (.Name x pos')) pos.line X.env = pure false := by rfl)
    (hf : X.fn x = true ∨ X.env.scope.names.lookup x = some .local := by first | exact .inl rfl | exact .inr rfl | assumption) (hd : O' = drop1 O i := by rfl) : DS X Wx B O O' (.Assign [.Name x pos'] e pos) (sSet i fe) := by
  subst hd
  refine ps_mono (ps_set hN hi hx he hs hf) fun D σ H ⟨W, ρ, g, S, P⟩ => sx S P fun v H1 d W1 g1 S1 e1 r P1 => ?_
  exact P1 W1 _ H1 (WLe.refl _) (S1.set i r (fun j hj => drop1_mem hj) fun j hj => drop1_of hj)
/-- x, y = e1, e2 -/
def sOfA (o : Out (List D)) (ρ : Env) (k : List D → Gs → OutS) : OutS := match o with
  | .ok d g => k d g
  | .exc x g => .ex x ρ g
  | .bad => .bad
theorem sxA {D : Ends} {σ : L2.St} {H : Hp} {W : Wd} {ρ : Env} {g : Gs} {k : List DL.D → Gs → OutS} {Q : List V → Hp → Prop} (S : SR X.K X.mg B O W σ H ρ g) (P : PostS X Wx B O' W D (sOfA (fs ρ g) ρ k))
    (hq : ∀ v H1 d W1 g1, SR X.K X.mg B O W1 σ H1 ρ g1 → Ext W H W1 H1 → rels X.K X.mg W1 d v → PostS X Wx B O' W1 D (k d g1) → Q v H1) : tA X Wx B O fs σ H Q := by
  refine ⟨W, ρ, g, S, ?_⟩
  cases h : fs ρ g with
  | ok d g1 => rw [h] at P; exact fun v W1 H1 e w c r => hq v H1 d W1 g1 (S.ext' e w c) e r (P.ext e.le)
  | exc x g1 =>
    rw [h] at P
    intro c dd W1 H1 e w c' hx
    obtain ⟨W2, le, S2⟩ := (S.ext' e w c').allKnown
    exact P c dd W2 σ H1 S2 (hx.le le)
  | bad => rw [h] at P; exact P.elim
def sPar (i j : Nat) (fs : FA) : FS := fun ρ g => sOfA (fs ρ g) ρ fun ds g' => match ds with
  | [x, y] => .nx ((ρ.set i (some x)).set j (some y)) g'
  | _ => .bad
theorem ds_par (i j : Nat) {x y : Str} {px py pt : Pos} {kt k2 pt2} (hc : X.calm = true) (hN : X.N.Nodup) (ha : DA X Wx B O [a, b] fs) (hi : X.N[i]? = some x := by rfl) (hj : X.N[j]? = some y := by rfl) (hij : i ≠ j := by decide)
    (hx : X.env.scope.names.lookup x = some .local := by rfl) (hy : X.env.scope.names.lookup y = some .local := by rfl)
    (hw : swappedStores [.Tuple [.Name x px, .Name y py] kt pt] (.Tuple [a, b] k2 pt2) X.env = pure (some [x, y]) := by rfl)
    (hs : swapsWithSole [.Tuple [.Name x px, .Name y py] kt pt] (.Tuple [a, b] k2 pt2) pos.line X.env = pure false := by rfl) (hd : O' = drop1 (drop1 O i) j := by rfl) : DS X Wx B O O' (.Assign [.Tuple [.Name x px, .Name y py] kt pt] (.Tuple [a, b] k2 pt2) pos) (sPar i j fs) := by
  subst hd
  refine ps_mono (ps_par hc hN hi hj hij hx hy ha hw hs) fun D σ H ⟨W, ρ, g, S, P⟩ => sxA S P fun vs H1 ds W1 g1 S1 e1 r P1 => ?_
  match ds, r, P1 with
  | [], _, P1 => exact P1.elim
  | [_], _, P1 => exact P1.elim
  | [d1, d2], r, P1 =>
    obtain ⟨v, ws, e, r1, w, us, e2, r2, r3⟩ := r
    have e3 : us = [] := r3
    subst e2
    subst e3
    refine ⟨v, w, e, P1 W1 _ H1 (WLe.refl _) ?_⟩
    exact (S1.set i r1 (fun j hj => drop1_mem hj) fun j hj => drop1_of hj).set j r2 (fun j hj => drop1_mem hj) fun j hj => drop1_of hj
  | _ :: _ :: _ :: _, _, P1 => exact P1.elim
end
end DL
set_option maxRecDepth 100000
set_option maxHeartbeats 4000000
namespace DL
open PySem PySem.Spec PyProof.Rows L2
/-- the iterator gives these items, one by one, in any later world -/
def WalkD (K : PySem.W.Frag) (mg : Str → Option Value) (W : Wd) (ds : List D) (J : It) : Prop := ∀ W1 H, WLe W W1 → WOk W1 H →
  (∀ i, i < ds.length → J.go i H) ∧ (∀ i, ds.length ≤ i → J.stop i H) ∧
  (∀ i x H' d g, ds[i]? = some d → J.yld i H x H' → GOk K mg W1 H g → ∃ W', Ext W1 H W' H' ∧ WOk W' H' ∧ GOk K mg W' H' g ∧ rel K mg W' d x)
section
variable {K : PySem.W.Frag} {mg : Str → Option Value} {W : Wd} {ds es : List D}
theorem walk_list {a : Addr} {vs : List V} (h : SqL K W.F a vs) (r : rels K mg W ds vs) : WalkD K mg W ds (Itl K a) := by
  intro W1 H le w
  have hs : SqL K H a vs := sqL_le w.sub (sqL_le le.F h)
  have hl := rels_length r
  refine ⟨fun i hi => ⟨vs, vs[i]'(by omega), hs, by simp⟩, fun i hi => ⟨vs, hs, by omega⟩, fun i x H' d g hd y c => ?_⟩
  obtain ⟨rfl, y⟩ := y
  obtain ⟨v, h1, h2⟩ := rels_get r hd
  have e := y vs hs
  rw [h1] at e
  cases e
  exact ⟨W1, Ext.refl _ _, w, c, rel_le le h2⟩
theorem walk_tup {a : Addr} {vs : List V} (h : SqT K W.F a vs) (r : rels K mg W ds vs) : WalkD K mg W ds (Itt K a) := by
  intro W1 H le w
  have hs : SqT K H a vs := sqT_le w.sub (sqT_le le.F h)
  have hl := rels_length r
  refine ⟨fun i hi => ⟨vs, vs[i]'(by omega), hs, by simp⟩, fun i hi => ⟨vs, hs, by omega⟩, fun i x H' d g hd y c => ?_⟩
  obtain ⟨rfl, y⟩ := y
  obtain ⟨v, h1, h2⟩ := rels_get r hd
  have e := y vs hs
  rw [h1] at e
  cases e
  exact ⟨W1, Ext.refl _ _, w, c, rel_le le h2⟩
def rangeD (lo : Int) (n : Nat) : List D := (List.range n).map fun (i : Nat) => D.int (lo + (i : Int))
theorem walk_range (lo : Int) (n : Nat) : WalkD K mg W (rangeD lo n) (Itr lo n) := by
  intro W1 H le w
  have hl : (rangeD lo n).length = n := by unfold rangeD; simp
  refine ⟨fun i hi => by show i < n; omega, fun i hi => by show n ≤ i; omega, fun i x H' d g hd y c => ?_⟩
  obtain ⟨rfl, rfl⟩ := y
  have hi : i < n := by
    have := (List.getElem?_eq_some_iff.mp hd).1
    omega
  have e : d = .int (lo + (i : Int)) := by
    unfold rangeD at hd
    rw [List.getElem?_map, List.getElem?_range hi] at hd
    simpa using hd.symm
  rw [e]
  exact ⟨W1, Ext.refl _ _, w, c, rfl⟩
def zipD : List D → List D → List D
  | d :: ds, e :: es => .tup [d, e] :: zipD ds es
  | _, _ => []
theorem zipD_length : ∀ (ds es : List D), (zipD ds es).length = min ds.length es.length
  | [], _ => by unfold zipD; simp
  | d :: ds, [] => by unfold zipD; simp
  | d :: ds, e :: es => by
    show (zipD ds es).length + 1 = min (ds.length + 1) (es.length + 1)
    rw [zipD_length ds es]; omega
theorem zipD_get : ∀ (ds es : List D) (k : Nat) {p : D}, (zipD ds es)[k]? = some p → ∃ d e, ds[k]? = some d ∧ es[k]? = some e ∧ p = .tup [d, e]
  | [], _, _, _, h => by unfold zipD at h; simp at h
  | d :: ds, [], _, _, h => by unfold zipD at h; simp at h
  | d :: ds, e :: es, 0, p, h => ⟨d, e, rfl, rfl, by simpa [zipD] using h.symm⟩
  | d :: ds, e :: es, k + 1, p, h => by
    obtain ⟨x, y, h1, h2, h3⟩ := zipD_get ds es k (p := p) (by simpa [zipD] using h)
    exact ⟨x, y, by simpa using h1, by simpa using h2, h3⟩
theorem walk_zip {a b : Addr} {vs ws : List V} (h : SqL K W.F a vs) (r : rels K mg W ds vs) (h' : SqL K W.F b ws) (r' : rels K mg W es ws) : WalkD K mg W (zipD ds es) (Itz K a b) := by
  intro W1 H le w
  have hs : SqL K H a vs := sqL_le w.sub (sqL_le le.F h)
  have hs' : SqL K H b ws := sqL_le w.sub (sqL_le le.F h')
  have hl := rels_length r
  have hl' := rels_length r'
  have hz := zipD_length ds es
  refine ⟨fun i hi => ⟨vs, ws, vs[i]'(by omega), ws[i]'(by omega), hs, hs', by simp, by simp⟩, fun i hi => ⟨vs, ws, hs, hs', by omega⟩, fun i x H' d g hd y c => ?_⟩
  obtain ⟨T, x1, y1, rfl, hT, rfl, q1, q2⟩ := y
  obtain ⟨d1, d2, e1, e2, rfl⟩ := zipD_get ds es i hd
  obtain ⟨v, h1, h2⟩ := rels_get r e1
  obtain ⟨u, h3, h4⟩ := rels_get r' e2
  have z1 := q1 vs hs
  have z2 := q2 ws hs'
  rw [h1] at z1
  rw [h3] at z2
  cases z1; cases z2
  have n := ext_new (o := .tup [x1, y1]) w hT
  exact ⟨_, n.1, n.2, cells_new w hT c, ⟨T, _, rfl, upd_same, rels_cons (rel_le (le.trans n.1.le) h2) (rels_one (rel_le (le.trans n.1.le) h4))⟩⟩
theorem walk_zipT {a b : Addr} {vs ws : List V} (h : SqT K W.F a vs) (r : rels K mg W ds vs) (h' : SqT K W.F b ws) (r' : rels K mg W es ws) : WalkD K mg W (zipD ds es) (RZ.ItzT K a b) := by
  intro W1 H le w
  have hs : SqT K H a vs := sqT_le w.sub (sqT_le le.F h)
  have hs' : SqT K H b ws := sqT_le w.sub (sqT_le le.F h')
  have hl := rels_length r
  have hl' := rels_length r'
  have hz := zipD_length ds es
  refine ⟨fun i hi => ⟨vs, ws, vs[i]'(by omega), ws[i]'(by omega), hs, hs', by simp, by simp⟩, fun i hi => ⟨vs, ws, hs, hs', by omega⟩, fun i x H' d g hd y c => ?_⟩
  obtain ⟨T, x1, y1, rfl, hT, rfl, q1, q2⟩ := y
  obtain ⟨d1, d2, e1, e2, rfl⟩ := zipD_get ds es i hd
  obtain ⟨v, h1, h2⟩ := rels_get r e1
  obtain ⟨u, h3, h4⟩ := rels_get r' e2
  have z1 := q1 vs hs
  have z2 := q2 ws hs'
  rw [h1] at z1
  rw [h3] at z2
  cases z1; cases z2
  have n := ext_new (o := .tup [x1, y1]) w hT
  exact ⟨_, n.1, n.2, cells_new w hT c, ⟨T, _, rfl, upd_same, rels_cons (rel_le (le.trans n.1.le) h2) (rels_one (rel_le (le.trans n.1.le) h4))⟩⟩
end
abbrev RW (X : Cx) : Wd → List D → It → Prop := fun W ds J => WalkD X.K X.mg W ds J
abbrev FI := Env → M (List D)
def tI (X : Cx) (Wx : WX) (B : Bs) (O : List Nat) (f : FI) : TI := fun σ H Q => ∃ W ρ g, SR X.K X.mg B O W σ H ρ g ∧ Post (RW X) X.K X.mg (fun c d H' => Wx c d σ H') W H (f ρ g) Q
abbrev DI (X : Cx) (Wx : WX) (B : Bs) (O : List Nat) (tg : Expr) (e : Expr) (f : FI) : Prop := PI X tg e (tI X Wx B O f)
section
variable {X : Cx} {Wx : WX} {B : Bs} {O O' : List Nat} {e a b c tg : Expr} {es : List Expr} {f fa fb : FE} {ft : FT} {fs : FA} {pos p : Pos}
theorem pi_mono {t t' : TI} (h : PI X tg e t) (m : ∀ σ H Q, t' σ H Q → t σ H Q) : PI X tg e t' := ⟨fun pins s σ H Q I q => h.run pins s σ H Q I (m σ H Q q)⟩
theorem Post.walk {E : XK} {W : Wd} {H : Hp} {d : List D} {g : Gs} {v : It} {Q : It → Hp → Prop} (h : Post (RW X) X.K X.mg E W H (.ok d g) Q) (w : WOk W H) (c : GOk X.K X.mg W H g) (r : RW X W d v) : Q v H := h v W H (Ext.refl W H) w c r
def dIterL (d : D) : M (List D) := fun g => match d with
  | .lst ds => .ok ds g
  | .kst ds => .ok ds g
  | _ => .bad
def dIterT (d : D) : M (List D) := fun g => match d with
  | .tup ds => .ok ds g
  | .ktp ds => .ok ds g
  | _ => .bad
def fIter (k : D → M (List D)) (fa : FE) : FI := fun ρ => M.bind (fa ρ) k
theorem di_list (ha : DE X Wx B O a fa) : DI X Wx B O tg a (fIter dIterL fa) := by
  refine pi_mono (pi_list ha) fun σ H Q ⟨W, ρ, g, S, P⟩ => ?_
  refine tE_then S P fun v H1 d W1 g1 S1 e1 r P1 => ?_
  cases d with
  | lst ds => obtain ⟨p, vs, rfl, f, rr⟩ := r; exact ⟨p, rfl, ⟨vs, SqL.of (S1.wok.sub _ _ f)⟩, Post.walk P1 S1.wok S1.cells (walk_list (SqL.of f) rr)⟩
  | kst ds => obtain ⟨p, vs, rfl, f, rr⟩ := r; exact ⟨p, rfl, ⟨vs, sqL_le S1.wok.sub f⟩, Post.walk P1 S1.wok S1.cells (walk_list f rr)⟩
  | _ => exact P1.elim
theorem di_tup (ha : DE X Wx B O a fa) : DI X Wx B O tg a (fIter dIterT fa) := by
  refine pi_mono (pi_tup ha) fun σ H Q ⟨W, ρ, g, S, P⟩ => ?_
  refine tE_then S P fun v H1 d W1 g1 S1 e1 r P1 => ?_
  cases d with
  | tup ds => obtain ⟨p, vs, rfl, f, rr⟩ := r; exact ⟨p, rfl, ⟨vs, SqT.of (S1.wok.sub _ _ f)⟩, Post.walk P1 S1.wok S1.cells (walk_tup (SqT.of f) rr)⟩
  | ktp ds => obtain ⟨p, vs, rfl, f, rr⟩ := r; exact ⟨p, rfl, ⟨vs, sqT_le S1.wok.sub f⟩, Post.walk P1 S1.wok S1.cells (walk_tup f rr)⟩
  | _ => exact P1.elim
def okRg (j : Int) : Bool := decide (-(2 ^ 62) ≤ j ∧ j < 2 ^ 62)
def dRg1 (ds : List D) : M (List D) := fun g => match ds with
  | [.int j] => if okRg j then .ok (rangeD 0 j.toNat) g else .bad
  | _ => .bad
def fIterA (k : List D → M (List D)) (fs : FA) : FI := fun ρ => M.bind (fs ρ) k
theorem di_range1 (hm : X.mg "range" = none) (ha : DA X Wx B O [a] fs) (hg : Gl X "range" := by rfl) (hs : starEach [a] X.env = [(false, eval a X.env)] := by rfl) : DI X Wx B O tg (.Call (.Name "range" p) [a] [] pos) (fIterA dRg1 fs) := by
  refine pi_mono (pi_range1 hg hm ha hs) fun σ H Q ⟨W, ρ, g, S, P⟩ => ?_
  refine tA_then S P fun v H1 ds W1 g1 S1 e1 r P1 => ?_
  unfold dRg1 at P1
  split at P1
  · rename_i j
    obtain ⟨x, ws, e, r1, r2⟩ := r
    have e1 : x = .int j := r1
    have e2 : ws = [] := r2
    subst e1 e2
    by_cases hz : okRg j = true
    · rw [if_pos hz] at P1
      have z : -(2 ^ 62) ≤ j ∧ j < 2 ^ 62 := of_decide_eq_true hz
      exact ⟨j, e, z.1, z.2, Post.walk P1 S1.wok S1.cells (walk_range 0 _)⟩
    · rw [if_neg hz] at P1; exact P1.elim
  · exact P1.elim
def dZip (ds : List D) : M (List D) := fun g => match ds with
  | [.lst a, .lst b] => .ok (zipD a b) g
  | [.tup a, .tup b] => .ok (zipD a b) g
  | _ => .bad
theorem di_zip {tpos : Pos} {kk : Nat} {elts : List Expr} (hm : X.mg "zip" = none) (ha : DA X Wx B O [a, b] fs) (hg : Gl X "zip" := by rfl)
    (hs : starEach [a, b] X.env = (false, eval a X.env) :: starEach [b] X.env := by rfl) (hpl : (backTo pos (starEach [b] X.env)).any (·.1) = false := by rfl) : DI X Wx B O (.Tuple elts kk tpos) (.Call (.Name "zip" p) [a, b] [] pos) (fIterA dZip fs) := by
  refine pi_mono (RZ.pi_zipA hg hm ha hs hpl) fun σ H Q ⟨W, ρ, g, S, P⟩ => ?_
  refine tA_then S P fun v H1 ds W1 g1 S1 e1 r P1 => ?_
  unfold dZip at P1
  split at P1
  · obtain ⟨x, ws, e, ⟨p, vs, e3, f, rr⟩, y, us, e4, ⟨q, vs2, e5, f2, rr2⟩, r3⟩ := r
    have e2 : us = [] := r3
    subst e2 e3 e4 e5
    exact ⟨p, q, vs, vs2, e, .inl ⟨SqL.of (S1.wok.sub _ _ f), SqL.of (S1.wok.sub _ _ f2), Post.walk P1 S1.wok S1.cells (walk_zip (SqL.of f) rr (SqL.of f2) rr2)⟩⟩
  · obtain ⟨x, ws, e, ⟨p, vs, e3, f, rr⟩, y, us, e4, ⟨q, vs2, e5, f2, rr2⟩, r3⟩ := r
    have e2 : us = [] := r3
    subst e2 e3 e4 e5
    exact ⟨p, q, vs, vs2, e, .inr ⟨SqT.of (S1.wok.sub _ _ f), SqT.of (S1.wok.sub _ _ f2), Post.walk P1 S1.wok S1.cells (walk_zipT (SqT.of f) rr (SqT.of f2) rr2)⟩⟩
  · exact P1.elim
def forD (fg : FG) (body : FS) : List D → FS
  | [], ρ, g => .nx ρ g
  | d :: ds, ρ, g => match fg d ρ g with
    | .bad => .bad
    | .ok ρ1 g1 => match body ρ1 g1 with
      | .nx ρ2 g2 => forD fg body ds ρ2 g2
      | .ct ρ2 g2 => forD fg body ds ρ2 g2
      | .bk ρ2 g2 => .nx ρ2 g2
      | o => o
def sFor (fi : FI) (fg : FG) (body : FS) : FS := fun ρ g => match fi ρ g with
  | .ok ds g' => forD fg body ds ρ g'
  | .exc x g' => .ex x ρ g'
  | .bad => .bad
theorem ds_for {iter : Expr} {body : List Stmt} {fi : FI} {fg : FG} {fb : FS} (hp : PassesOwn (model X.prog X.w) X.A X.env X.xe) (hc : X.calm = true) (hi : DI X Wx B O tg iter fi) (hg : DG X B O O' tg fg) (hb : DSs X Wx B O' O body fb)
    (hs : ∀ x, foldedSetIterable iter X.env x = pure x := by intro _; rfl) : DS X Wx B O O (.For tg iter body [] pos) (sFor fi fg fb) := by
  refine ps_mono (ps_for hp hc hi hg hb hs) fun D σ H ⟨W, ρ, g, S, P⟩ => ?_
  refine ⟨W, ρ, g, S, ?_⟩
  unfold sFor at P
  cases h : fi ρ g with
  | bad => rw [h] at P; exact P.elim
  | exc x g1 =>
    rw [h] at P
    intro c dd W1 H1 e w c' hx
    obtain ⟨W2, le, S2⟩ := (S.ext' e w c').allKnown
    exact P c dd W2 σ H1 S2 (hx.le le)
  | ok ds g1 =>
    rw [h] at P
    intro J W1 H1 e1 w1 c1 walk
    have S1 := S.ext' e1 w1 c1
    refine ⟨fun i m σ H => i + m = ds.length ∧ ∃ W2 ρ2 g2, WLe W1 W2 ∧ SR X.K X.mg B O W2 σ H ρ2 g2 ∧ PostS X Wx B O W2 D (forD fg fb (ds.drop i) ρ2 g2), ⟨ds.length, by omega, W1, ρ, g1, WLe.refl _, S1, P.ext e1.le⟩, ?_⟩
    rintro i m σ2 H2 ⟨hm, W2, ρ2, g2, le2, S2, P2⟩
    obtain ⟨wgo, wstop, wyld⟩ := walk W2 H2 le2 S2.wok
    by_cases hlt : i < ds.length
    · refine .inr ⟨wgo i hlt, fun σ' H' => ∃ W3 ρ3 g3, WLe W1 W3 ∧ SR X.K X.mg B O W3 σ' H' ρ3 g3 ∧ PostS X Wx B O W3 D (forD fg fb (ds.drop (i + 1)) ρ3 g3), fun σ' H' ⟨W3, ρ3, g3, le3, S3, P3⟩ => ⟨m - 1, by omega, by omega, W3, ρ3, g3, le3, S3, P3⟩, fun x H' y => ?_⟩
      have hd : ds[i]? = some ds[i] := by simp [hlt]
      obtain ⟨W3, x3, w3, c3, r3⟩ := wyld i x H' _ g2 hd y S2.cells
      have S3 := S2.ext' x3 w3 c3
      have ed : ds.drop i = ds[i] :: ds.drop (i + 1) := List.drop_eq_getElem_cons hlt
      rw [ed] at P2
      unfold forD at P2
      refine ⟨W3, ρ2, g2, ds[i], S3, r3, ?_⟩
      cases q : fg ds[i] ρ2 g2 with
      | bad => rw [q] at P2; exact P2.elim
      | ok ρ4 g4 =>
        rw [q] at P2
        intro W4 σ4 H4 le4 S4
        refine ⟨W4, ρ4, g4, S4, ?_⟩
        have le14 : WLe W1 W4 := le2.trans (x3.le.trans le4)
        dsimp only at P2
        cases q2 : fb ρ4 g4 with
        | nx ρ5 g5 => rw [q2] at P2; exact fun W5 σ5 H5 l5 S5 => ⟨W5, ρ5, g5, le14.trans l5, S5, P2.ext (x3.le.trans (le4.trans l5))⟩
        | ct ρ5 g5 => rw [q2] at P2; exact fun W5 σ5 H5 l5 S5 => ⟨W5, ρ5, g5, le14.trans l5, S5, P2.ext (x3.le.trans (le4.trans l5))⟩
        | bk ρ5 g5 => rw [q2] at P2; exact fun W5 σ5 H5 l5 S5 => P2 W5 σ5 H5 (x3.le.trans (le4.trans l5)) S5
        | rt d g5 => rw [q2] at P2; exact P2
        | ex x r g5 => rw [q2] at P2; exact P2
        | bad => rw [q2] at P2; exact P2
    · have em : ds.drop i = [] := List.drop_eq_nil_of_le (by omega)
      rw [em] at P2
      exact .inl ⟨wstop i (by omega), P2 W2 σ2 H2 (WLe.refl _) S2⟩
end
end DL
set_option maxRecDepth 100000
set_option maxHeartbeats 4000000
namespace DL
open PySem PySem.Spec PyProof.Rows L2
section
variable {X : Cx} {Wx : WX} {B : Bs} {O O' : List Nat} {e a b c tg : Expr} {es : List Expr} {f fa fb : FE} {ft : FT} {fs : FA} {pos p : Pos}
def whileN (ft : FT) (body : FS) : Nat → FS
  | 0, _, _ => .bad
  | n + 1, ρ, g => match ft ρ g with
    | .ok true g1 => (match body ρ g1 with
      | .nx ρ2 g2 => whileN ft body n ρ2 g2
      | .ct ρ2 g2 => whileN ft body n ρ2 g2
      | .bk ρ2 g2 => .nx ρ2 g2
      | o => o)
    | .ok false g1 => .nx ρ g1
    | .exc x g1 => .ex x ρ g1
    | .bad => .bad
/-- more turns than any loop here takes -/
def FUEL : Nat := 10 ^ 200
def sWhile (ft : FT) (body : FS) : FS := whileN ft body FUEL
theorem ds_whileN {body : List Stmt} {fb : FS} (n : Nat) (hp : PassesOwn (model X.prog X.w) X.A X.env X.xe) (hc : DT X Wx B O c ft) (hb : DSs X Wx B O O body fb) : DS X Wx B O O (.While c body [] pos) (whileN ft fb n) := by
  refine ps_mono (ps_while hp hc hb) fun D σ H ⟨W, ρ, g, S, P⟩ => ?_
  refine ⟨fun m σ H => ∃ W2 ρ2 g2, SR X.K X.mg B O W2 σ H ρ2 g2 ∧ WLe W W2 ∧ PostS X Wx B O W2 D (whileN ft fb m ρ2 g2), ⟨n, W, ρ, g, S, WLe.refl W, P⟩, ?_⟩
  rintro m σ2 H2 ⟨W2, ρ2, g2, S2, le2, P2⟩
  refine ⟨W2, ρ2, g2, S2, ?_⟩
  cases m with
  | zero => exact P2.elim
  | succ m =>
    unfold whileN at P2
    cases q : ft ρ2 g2 with
    | bad => rw [q] at P2; exact P2.elim
    | exc x g1 =>
      rw [q] at P2
      intro c dd W1 H1 e w c' hx
      obtain ⟨W3, le, S3⟩ := (S2.ext' e w c').allKnown
      exact P2 c dd W3 σ2 H1 S3 (hx.le le)
    | ok k g1 =>
      rw [q] at P2
      intro v W1 H1 e1 w1 c1 r
      have r : v = k := r
      subst r
      have S3 := S2.ext' e1 w1 c1
      cases v with
      | false => rw [if_neg (by decide)]; exact P2 W1 σ2 H1 e1.le S3
      | true =>
        rw [if_pos rfl]
        refine ⟨fun σ' H' => ∃ W2 ρ2 g2, SR X.K X.mg B O W2 σ' H' ρ2 g2 ∧ WLe W W2 ∧ PostS X Wx B O W2 D (whileN ft fb m ρ2 g2), fun σ' H' h => ⟨m, Nat.lt_succ_self m, h⟩, W1, ρ2, g1, S3, ?_⟩
        dsimp only at P2
        cases q2 : fb ρ2 g1 with
        | nx ρ5 g5 => rw [q2] at P2; exact fun W5 σ5 H5 l5 S5 => ⟨W5, ρ5, g5, S5, le2.trans (e1.le.trans l5), P2.ext (e1.le.trans l5)⟩
        | ct ρ5 g5 => rw [q2] at P2; exact fun W5 σ5 H5 l5 S5 => ⟨W5, ρ5, g5, S5, le2.trans (e1.le.trans l5), P2.ext (e1.le.trans l5)⟩
        | bk ρ5 g5 => rw [q2] at P2; exact fun W5 σ5 H5 l5 S5 => P2 W5 σ5 H5 (e1.le.trans l5) S5
        | rt d g5 => rw [q2] at P2; exact P2
        | ex x r g5 => rw [q2] at P2; exact P2
        | bad => rw [q2] at P2; exact P2
theorem ds_while {body : List Stmt} {fb : FS} (hp : PassesOwn (model X.prog X.w) X.A X.env X.xe) (hc : DT X Wx B O c ft) (hb : DSs X Wx B O O body fb) : DS X Wx B O O (.While c body [] pos) (sWhile ft fb) := ds_whileN FUEL hp hc hb
end
abbrev Den := List D → M D
/-- what a def promises: called with values that are these data it does as the plain function says -/
def spD (K : PySem.W.Frag) (mg : Str → Option Value) (phi : Den) : Sp := fun vs H Q E => ∃ W ds g, WOk W H ∧ rels K mg W ds vs ∧ GOk K mg W H g ∧ Post (fun W => rel K mg W) K mg E W H (phi ds g) Q
/-- the plain function of a body with n parameters and N names -/
def runDef (n N : Nat) (body : FS) : Den := fun ds g => if ds.length = n then (match body (ds.map some ++ List.replicate (N - n) none) g with
  | .nx _ g' => .ok .non g'
  | .rt d g' => .ok d g'
  | .ex x _ g' => .exc x g'
  | _ => .bad) else .bad
theorem spD_len {K : PySem.W.Frag} {mg : Str → Option Value} {n N : Nat} {body : FS} {vs : List V} {H : Hp} {Q : VK} {E : XK} (h : spD K mg (runDef n N body) vs H Q E) : vs.length = n := by
  obtain ⟨W, ds, g, w, r, c, P⟩ := h
  unfold runDef at P
  by_cases hl : ds.length = n
  · rw [rels_length r, hl]
  · rw [if_neg hl] at P; exact P.elim
/-- a def of the text: it keeps the promise phi -/
structure Dfn (P : Program) (w : World) (K : PySem.W.Frag) (mg : Str → Option Value) (base : Heap) (k : Nat) (f : Addr) (fd : FuncData) (ps : List Str) (phi : Den) : Prop where
  ok : FnG P w K mg base k f fd ps (spD K mg phi)
  kp : PySem.W.keepIn K (.ref f) = true
section
variable {P : Program} {w : World} {K : PySem.W.Frag} {mg : Str → Option Value} {base : Heap}
theorem Dfn.mono {j k : Nat} {f : Addr} {fd : FuncData} {ps : List Str} {phi : Den} (F : Dfn P w K mg base j f fd ps phi) (h : j ≤ k) : Dfn P w K mg base k f fd ps phi := ⟨F.ok.mono h, F.kp⟩
/-- the context of a def's body -/
abbrev cxD (P : Program) (w : World) (K : PySem.W.Frag) (mg : Str → Option Value) (base : Heap) (N : List Str) (qual : Str) (sc : Scope) (f : Addr) (cdv : Value) (A : Around) (outer : List PySem.Env) (s : Shared) (H : Hp) (E : XK) : Cx :=
  cxOf (L2.CX P w) P w K mg base N qual sc f cdv A outer s H E
abbrev wxE (E : XK) : WX := fun cls d _ H => E cls d H
theorem okD {x qual : Str} {st : Stmt} {f : Addr} {fd : FuncData} {N ps : List Str} {k : Nat} {body : FS} {O' : List Nat} (F : Fun K x qual st f fd) (S : FnScope N ps (defScope st))
    (hbody : ∀ (cdv : Value) (A : Around) (outer : List PySem.Env) (s : Shared) (H : Hp) (E : XK) (B : Bs), Room k (A.deeper (envOfC qual (defScope st) s.heap.objs.size f cdv)) → Takes (cxD P w K mg base N qual (defScope st) f cdv A outer s H E) (wxE E) →
      A.guards = some [] → PassesOwn (model P w) (cxD P w K mg base N qual (defScope st) f cdv A outer s H E).A (cxD P w K mg base N qual (defScope st) f cdv A outer s H E).env (cxD P w K mg base N qual (defScope st) f cdv A outer s H E).xe →
      DSs (cxD P w K mg base N qual (defScope st) f cdv A outer s H E) (wxE E) B [] O' (defBody st) body) : Dfn P w K mg base (k + 1) f fd ps (runDef ps.length N.length body) := by
  refine ⟨?_, F.kp⟩
  refine FnG.mk' F S (fun vs H Q E h => spD_len h) fun cdv A outer s H vs Q E hr hgd h => ?_
  have hl := spD_len h
  obtain ⟨W, ds, g, w0, r, c, Pz⟩ := h
  unfold runDef at Pz
  by_cases hd : ds.length = ps.length
  · rw [if_pos hd] at Pz
    refine ⟨_, hbody cdv A outer s H E ⟨W, H⟩ hr (takes_of rfl rfl rfl rfl) hgd (passes_of rfl), ?_⟩
    have hN : ps.length ≤ N.length := by have := congrArg List.length S.pre; rw [List.length_take] at this; omega
    refine ⟨W, ds.map some ++ List.replicate (N.length - ps.length) none, g, ⟨Ext.refl _ _, w0, ⟨?_, fun i d _ hi => ?_, fun i d hi => absurd hi (by simp), fun i j p hi => absurd hi (by simp)⟩, c⟩, ?_⟩
    · unfold L2.start
      rw [List.length_append, List.length_append, List.length_map, List.length_map, List.length_replicate, List.length_replicate, hd, hl]
    · unfold L2.start
      by_cases hlt : i < ds.length
      · rw [List.getElem?_append_left (by rw [List.length_map]; exact hlt), List.getElem?_map] at hi
        cases q : ds[i]? with
        | none => rw [q] at hi; cases hi
        | some d' =>
          rw [q] at hi
          have e : d' = d := by simpa using hi
          rw [e] at q
          obtain ⟨v, h1, h2⟩ := rels_get r q
          refine ⟨v, ?_, h2⟩
          rw [List.getElem?_append_left (by rw [List.length_map, hl, ← hd]; exact hlt), List.getElem?_map, h1]
          rfl
      · rw [List.getElem?_append_right (by rw [List.length_map]; omega), List.getElem?_replicate] at hi
        split at hi <;> cases hi
    · cases q : body (ds.map some ++ List.replicate (N.length - ps.length) none) g with
      | nx ρ g' =>
        rw [q] at Pz
        intro W1 σ1 H1 le S1
        exact Pz .non W1 H1 S1.ext S1.wok S1.cells rfl
      | rt d g' =>
        rw [q] at Pz
        intro v W1 H1 e w c r
        exact Pz v W1 H1 e w c r
      | ex x ρ g' =>
        rw [q] at Pz
        intro c dd W1 σ1 H1 S1 hx
        exact Pz c dd W1 H1 S1.ext S1.wok S1.cells hx
      | bk ρ g' => rw [q] at Pz; exact Pz.elim
      | ct ρ g' => rw [q] at Pz; exact Pz.elim
      | bad => rw [q] at Pz; exact Pz.elim
  · rw [if_neg hd] at Pz; exact Pz.elim
end
section
variable {X : Cx} {Wx : WX} {B : Bs} {O O' : List Nat} {e a b c tg : Expr} {es : List Expr} {f fa fb : FE} {ft : FT} {fs : FA} {pos p : Pos}
variable {k : Nat} {fA : Addr} {fd : FuncData} {ps : List Str} {phi : Den} {x : Str}
def fCall (phi : Den) (fs : FA) : FE := fun ρ => M.bind (fs ρ) phi
theorem run_G {pins : List (Addr × Obj)} {σ : L2.St} {H : Hp} {s : Shared} {Q : VK} {us : List Value} {vs dvs : List V} {dus : List Value} {sp : Sp} {E : XK} (F : FnG X.prog X.w X.K X.mg X.base k fA fd ps sp) (hr : Room k X.A) (hgd : X.A.guards = some []) (hb : Binds X.K fd ps dus) (hd : Vals dvs dus) (hx : PassesAt (L2.CX X.prog X.w) X σ E)
    (I : Inv X pins σ H s) (r : Vals vs us) (h : sp (vs ++ dvs) H Q E) : wpAny (model X.prog X.w) X.A (call (.ref fA) us) (EP X pins σ Q) X.xe s := by
  have r2 := r.append hd
  have hl : (us ++ dus).length = ps.length := by rw [← r2.length]; exact F.len _ _ _ _ h
  refine wpAny_call (codeAny_mono (F.call hr hgd hx I (hb s us I.kIn hl) r2 h) fun r s' hq => ?_)
  match r, hq with
  | .error e, hq => exact hq
  | .ok (.ret u), hq => exact hq
theorem de_call (F : Dfn X.prog X.w X.K X.mg X.base k fA fd ps phi) (hr : Room k X.A) (hgd : X.A.guards = some []) (tk : Takes X Wx) (hm : X.mg x = some (.ref fA)) (hb : Binds X.K fd ps []) (ha : DA X Wx B O (e :: es) fs) (hg : Gl X x := by rfl)
    (hdb : (x == ("__debug__" : Str)) = false := by decide) (he : starEach (e :: es) X.env = (false, eval e X.env) :: starEach es X.env := by rfl) (hpl : (backTo pos (starEach es X.env)).any (·.1) = false := by rfl) : DE X Wx B O (.Call (.Name x p) (e :: es) [] pos) (fCall phi fs) := by
  refine ⟨fun pins s σ H Q I ⟨W, ρ, g, S, P⟩ => ?_⟩
  refine wpAny_Call_Name_kw (ld_glob I hg hm ?_ hdb)
  refine PySem.W.callWith_K (h₀ := X.base) I.ok.mod.kin F.kp (thn (ha.run pos pins s σ H _ I ⟨W, ρ, g, S, Post.bind P⟩) fun us s1 ⟨vs, H1, I1, r, ds, W1, g1, e1, w1, c1, rd, P1⟩ => ⟨I1.kIn, ?_⟩) he hpl
  exact run_G (dvs := []) F.ok hr hgd hb .nil (passAt tk σ) I1 r (by rw [List.append_nil]; exact ⟨W1, ds, g1, w1, rd, c1, P1⟩)
abbrev DK (X : Cx) (Wx : WX) (B : Bs) (O : List Nat) (kws : List Keyword) (f : FA) : Prop := PK X kws (tA X Wx B O f)
theorem pk_mono {kws : List Keyword} {t t' : TA} (h : PK X kws t) (m : ∀ σ H Q, t' σ H Q → t σ H Q) : PK X kws t' := ⟨fun p pins s σ H Q I q => h.run p pins s σ H Q I (m σ H Q q)⟩
theorem dk_nil : DK X Wx B O [] fNil := pk_mono pk_nil fun σ H Q ⟨W, ρ, g, S, P⟩ => Post.done (R := RDs X) P S.wok S.cells rfl
theorem dk_cons {kws : List Keyword} {nm : Option Str} {kpos : Pos} (ha : DE X Wx B O a fa) (hr : DK X Wx B O kws fs) : DK X Wx B O (⟨nm, a, kpos⟩ :: kws) (fCons fa fs) := by
  refine pk_mono (pk_cons ha hr) fun σ H Q ⟨W, ρ, g, S, P⟩ => ?_
  refine tE_then S P fun v H1 d W1 g1 S1 e1 r P1 => ?_
  refine tA_then S1 P1 fun vs H2 ds W2 g2 S2 e2 r2 P2 => ?_
  exact Post.done (R := RDs X) P2 S2.wok S2.cells (rels_cons (rel_le e2.le r) r2)
theorem run_kw {pins : List (Addr × Obj)} {σ : L2.St} {H : Hp} {s : Shared} {Q : VK} {us ws : List Value} {vs zs : List V} {n : Nat} {ks : List Str} {gg : List Value → List Value → List Value} {gV : List V → List V → List V} {E : XK} {sp : Sp}
    (F : FnG X.prog X.w X.K X.mg X.base k fA fd ps sp) (hr : Room k X.A) (hgd : X.A.guards = some []) (hb : KBn X.K fd ps n ks gg gV) (hx : PassesAt (L2.CX X.prog X.w) X σ E)
    (I : Inv X pins σ H s) (r : Vals vs us) (rz : Vals zs ws) (l1 : vs.length = n) (l2 : zs.length = ks.length) (h : sp (gV vs zs) H Q E) : wpAny (model X.prog X.w) X.A (call (.ref fA) us (ks.zip ws)) (EP X pins σ Q) X.xe s := by
  refine wpAny_call (codeAny_mono (F.call hr hgd hx I (hb.to s us ws I.kIn (r.length.symm.trans l1) (rz.length.symm.trans l2)) (hb.rel r rz) h) fun r s' hq => ?_)
  match r, hq with
  | .error e, hq => exact hq
  | .ok (.ret u), hq => exact hq
/-- the arguments by keywords, put in order -/
def denK (phi : Den) (n : Nat) (gD : List D → List D) : Den := fun l => if l.length = n then phi (gD l) else M.bad
theorem de_callK0 {kws : List Keyword} {ks : List Str} {n : Nat} {gg : List Value → List Value → List Value} {gV : List V → List V → List V} {gD : List D → List D} (F : Dfn X.prog X.w X.K X.mg X.base k fA fd ps phi) (hr : Room k X.A) (hgd : X.A.guards = some []) (tk : Takes X Wx) (hm : X.mg x = some (.ref fA)) (hb : KBn X.K fd ps 0 ks gg gV) (hn : ks.length = n)
    (hkw : DK X Wx B O kws fs) (hd : ∀ W ds vs, rels X.K X.mg W ds vs → rels X.K X.mg W (gD ds) (gV [] vs)) (hg : Gl X x := by rfl) (hall : (backToKw pos (keywordEach kws X.env)).all (·.1.isSome) = true := by rfl) (hks : (backToKw pos (keywordEach kws X.env)).filterMap (·.1) = ks := by rfl) (hdb : (x == ("__debug__" : Str)) = false := by decide)
    (hpl : ((backTo pos (starEach [] X.env)).any (·.1) || (backToKw pos (keywordEach kws X.env)).any (·.1.isNone)) = false := by rfl) : DE X Wx B O (.Call (.Name x p) [] kws pos) (fCall (denK phi n gD) fs) := by
  refine ⟨fun pins s σ H Q I ⟨W, ρ, g, S, P⟩ => ?_⟩
  refine wpAny_Call_Name_kw (ld_glob I hg hm ?_ hdb)
  refine PySem.W.callWith_KW0 (h₀ := X.base) I.ok.mod.kin F.kp hall ?_ hpl
  refine thn (hkw.run pos pins s σ H _ I ⟨W, ρ, g, S, Post.bind P⟩) fun ws s2 ⟨zs, H2, I2, rz, ds, W1, g1, e1, w1, c1, rd, P1⟩ => ⟨I2.kIn, ?_⟩
  unfold denK at P1
  by_cases hl : ds.length = n
  · rw [if_pos hl] at P1
    rw [hks]
    exact run_kw (us := []) (vs := []) F.ok hr hgd hb (passAt tk σ) I2 .nil rz rfl (by rw [rels_length rd, hl, hn]) ⟨W1, gD ds, g1, w1, hd W1 ds zs rd, c1, P1⟩
  · rw [if_neg hl] at P1; exact P1.elim
end
end DL
set_option maxRecDepth 100000
set_option maxHeartbeats 4000000
namespace DL
open PySem PySem.Spec PyProof.Rows L2
/-- a call of a built-in, as data -/
def DCall (X : Cx) (f : Value) (k : Den) : Prop :=
  ∀ (E : XK) (pins : List (Addr × Obj)) (s : Shared) (σ : L2.St) (H : Hp) (W : Wd) (g : Gs) (ds : List D) (vs : List V) (us : List Value) (Q : VK), Inv X pins σ H s → WOk W H → GOk X.K X.mg W H g → rels X.K X.mg W ds vs → Vals vs us →
    Post (RD X) X.K X.mg E W H (k ds g) Q → wpAny (model X.prog X.w) X.A (call f us) (EP X pins σ Q) X.xe s
section
variable {X : Cx} {Wx : WX} {B : Bs} {O O' : List Nat} {e a b c tg : Expr} {es : List Expr} {f fa fb : FE} {ft : FT} {fs : FA} {pos p : Pos} {x : Str} {id T : String} {k : Den}
theorem DCall.of {f : Value} {r : List V → Hp → VK → Prop} (h : CallR X f r)
    (hk : ∀ (E : XK) (H : Hp) (W : Wd) (g : Gs) (ds : List D) (vs : List V) (Q : VK), WOk W H → GOk X.K X.mg W H g → rels X.K X.mg W ds vs → Post (RD X) X.K X.mg E W H (k ds g) Q → r vs H Q) : DCall X f k :=
  fun E pins s σ H W g ds vs us Q I w c rd rv P => h pins s σ H vs us Q I rv (hk E H W g ds vs Q w c rd P)
theorem DCall.toR {f : Value} (h : DCall X f k) : CallR X f (fun vs H Q => ∃ E W ds g, WOk W H ∧ rels X.K X.mg W ds vs ∧ GOk X.K X.mg W H g ∧ Post (RD X) X.K X.mg E W H (k ds g) Q) :=
  fun pins s σ H vs us Q I rv ⟨E, W, ds, g, w, r, c, P⟩ => h E pins s σ H W g ds vs us Q I w c r rv P
theorem de_callB (hc : DCall X (.builtin id) k) (hm : X.mg x = none) (hv : bootBuiltins x = some (.builtin id)) (ha : DA X Wx B O (e :: es) fs) (hg : Gl X x := by rfl) (hn : x ≠ "__name__" := by decide) (hdb : (x == ("__debug__" : Str)) = false := by decide)
    (he : starEach (e :: es) X.env = (false, eval e X.env) :: starEach es X.env := by rfl) (hpl : (backTo pos (starEach es X.env)).any (·.1) = false := by rfl) : DE X Wx B O (.Call (.Name x p) (e :: es) [] pos) (fCall k fs) := by
  refine pe_mono (pe_callB hc.toR hg hm hv ha hn hdb he hpl) fun σ H Q ⟨W, ρ, g, S, P⟩ => ?_
  exact tA_then S P fun vs H1 ds W1 g1 S1 e1 r P1 => ⟨_, W1, ds, g1, S1.wok, r, S1.cells, P1⟩
theorem de_callTy (hc : DCall X (.type T) k) (hm : X.mg x = none) (hv : bootBuiltins x = some (.type T)) (ha : DA X Wx B O (e :: es) fs) (hg : Gl X x := by rfl) (hn : x ≠ "__name__" := by decide) (hdb : (x == ("__debug__" : Str)) = false := by decide)
    (he : starEach (e :: es) X.env = (false, eval e X.env) :: starEach es X.env := by rfl) (hpl : (backTo pos (starEach es X.env)).any (·.1) = false := by rfl) : DE X Wx B O (.Call (.Name x p) (e :: es) [] pos) (fCall k fs) := by
  refine pe_mono (pe_callTy hc.toR hg hm hv ha hn hdb he hpl) fun σ H Q ⟨W, ρ, g, S, P⟩ => ?_
  exact tA_then S P fun vs H1 ds W1 g1 S1 e1 r P1 => ⟨_, W1, ds, g1, S1.wok, r, S1.cells, P1⟩
theorem rels1 {K : PySem.W.Frag} {mg : Str → Option Value} {W : Wd} {d : D} {vs : List V} (h : rels K mg W [d] vs) : ∃ v, vs = [v] ∧ rel K mg W d v := by
  obtain ⟨v, ws, e, r, q⟩ := h
  have q : ws = [] := q
  subst q
  exact ⟨v, e, r⟩
theorem rels2 {K : PySem.W.Frag} {mg : Str → Option Value} {W : Wd} {d d' : D} {vs : List V} (h : rels K mg W [d, d'] vs) : ∃ v v', vs = [v, v'] ∧ rel K mg W d v ∧ rel K mg W d' v' := by
  obtain ⟨v, ws, e, r, q⟩ := h
  obtain ⟨v', rfl, r'⟩ := rels1 q
  exact ⟨v, v', e, r, r'⟩
/-- len -/
def dLen : Den := fun ds g => match ds with
  | [.tup l] => .ok (.int (l.length : Int)) g
  | [.ktp l] => .ok (.int (l.length : Int)) g
  | [.lst l] => .ok (.int (l.length : Int)) g
  | [.kst l] => .ok (.int (l.length : Int)) g
  | [.str z] => if okSz z.length then .ok (.int (z.length : Int)) g else .bad
  | [.cell n] => (match g[n]? with | some (.lst l) => .ok (.int (l.length : Int)) g | _ => .bad)
  | _ => .bad
theorem dc_len : DCall X (.builtin "len") dLen := by
  refine DCall.of (CallR.or call_len_seq call_len_str) fun E H W g ds vs Q w c r P => ?_
  unfold dLen at P
  split at P
  · obtain ⟨v, rfl, q⟩ := rels1 r
    obtain ⟨p, ws, rfl, f, rr⟩ := q
    exact .inl ⟨p, ws, rfl, .inr (SqT.of (w.sub _ _ f)), by rw [rels_length rr]; exact Post.done P w c rfl⟩
  · obtain ⟨v, rfl, q⟩ := rels1 r
    obtain ⟨p, ws, rfl, f, rr⟩ := q
    exact .inl ⟨p, ws, rfl, .inr (sqT_le w.sub f), by rw [rels_length rr]; exact Post.done P w c rfl⟩
  · obtain ⟨v, rfl, q⟩ := rels1 r
    obtain ⟨p, ws, rfl, f, rr⟩ := q
    exact .inl ⟨p, ws, rfl, .inl (SqL.of (w.sub _ _ f)), by rw [rels_length rr]; exact Post.done P w c rfl⟩
  · obtain ⟨v, rfl, q⟩ := rels1 r
    obtain ⟨p, ws, rfl, f, rr⟩ := q
    exact .inl ⟨p, ws, rfl, .inl (sqL_le w.sub f), by rw [rels_length rr]; exact Post.done P w c rfl⟩
  · rename_i z
    obtain ⟨v, rfl, q⟩ := rels1 r
    cases (show v = _ from q)
    by_cases hz : okSz z.length = true
    · rw [if_pos hz] at P
      exact .inr ⟨z, rfl, of_decide_eq_true hz, Post.done P w c rfl⟩
    · rw [if_neg hz] at P; exact P.elim
  · rename_i n
    obtain ⟨v, rfl, p, rfl, f⟩ := rels1 r
    cases h : g[n]? with
    | none => rw [h] at P; exact P.elim
    | some co =>
      rw [h] at P
      cases co with
      | lst l =>
        obtain ⟨ws, hp, rr⟩ := c.at_ n p _ f h
        exact .inl ⟨p, ws, rfl, .inl (SqL.of hp), by rw [rels_length rr]; exact Post.done P w c rfl⟩
      | _ => exact P.elim
  · exact P.elim
/-- int -/
def dInt : Den := fun ds g => match ds with
  | [.int i] => .ok (.int i) g
  | [.bl b] => .ok (.int (if b then 1 else 0)) g
  | _ => .bad
theorem dc_int : DCall X (.type "int") dInt := by
  refine DCall.of call_int1 fun E H W g ds vs Q w c r P => ?_
  unfold dInt at P
  split at P
  · obtain ⟨v, rfl, q⟩ := rels1 r
    cases (show v = _ from q)
    exact .inl ⟨_, rfl, Post.done P w c rfl⟩
  · obtain ⟨v, rfl, q⟩ := rels1 r
    cases (show v = _ from q)
    exact .inr ⟨_, rfl, Post.done P w c rfl⟩
  · exact P.elim
/-- abs -/
def dAbs : Den := fun ds g => match ds with
  | [.int i] => .ok (.int (if i < 0 then -i else i)) g
  | _ => .bad
theorem dc_abs : DCall X (.builtin "abs") dAbs := by
  refine DCall.of call_abs fun E H W g ds vs Q w c r P => ?_
  unfold dAbs at P
  split at P
  · obtain ⟨v, rfl, q⟩ := rels1 r
    cases (show v = _ from q)
    exact ⟨_, rfl, Post.done P w c rfl⟩
  · exact P.elim
def dMax2 : Den := fun ds g => match ds with
  | [.int i, .int j] => .ok (.int (if j > i then j else i)) g
  | _ => .bad
theorem dc_max2 (hc : X.calm = true) : DCall X (.builtin "max") dMax2 := by
  refine DCall.of (call_max2 hc) fun E H W g ds vs Q w c r P => ?_
  unfold dMax2 at P
  split at P
  · obtain ⟨v, v', rfl, q, q'⟩ := rels2 r
    cases (show v = _ from q)
    cases (show v' = _ from q')
    exact ⟨_, _, rfl, Post.done P w c rfl⟩
  · exact P.elim
def dMin2 : Den := fun ds g => match ds with
  | [.int i, .int j] => .ok (.int (if j < i then j else i)) g
  | _ => .bad
theorem dc_min2 (hc : X.calm = true) : DCall X (.builtin "min") dMin2 := by
  refine DCall.of (call_min2 hc) fun E H W g ds vs Q w c r P => ?_
  unfold dMin2 at P
  split at P
  · obtain ⟨v, v', rfl, q, q'⟩ := rels2 r
    cases (show v = _ from q)
    cases (show v' = _ from q')
    exact ⟨_, _, rfl, Post.done P w c rfl⟩
  · exact P.elim
/-- divmod by a small divisor -/
instance (i j : Int) : Decidable (CDiv i j) := by unfold CDiv; infer_instance
def dDivmod : Den := fun ds g => match ds with
  | [.int i, .int j] => if decide (CDiv i j) then .ok (.tup [.int (i / j), .int (i % j)]) g else .bad
  | _ => .bad
theorem dc_divmod : DCall X (.builtin "divmod") dDivmod := by
  refine DCall.of call_divmod fun E H W g ds vs Q w c r P => ?_
  unfold dDivmod at P
  split at P
  · rename_i i j
    obtain ⟨v, v', rfl, q, q'⟩ := rels2 r
    cases (show v = _ from q)
    cases (show v' = _ from q')
    by_cases hz : decide (CDiv i j) = true
    · rw [if_pos hz] at P
      exact ⟨i, j, rfl, of_decide_eq_true hz, fun p hp => Post.new P w c hp ⟨p, _, rfl, upd_same, rels_cons rfl (rels_one rfl)⟩⟩
    · rw [if_neg hz] at P; exact P.elim
  · exact P.elim
/-- all, any of a list of truths -/
def blsD : List D → Option (List Bool)
  | [] => some []
  | .bl b :: ds => (blsD ds).map (b :: ·)
  | _ :: _ => none
theorem bls_rel {K : PySem.W.Frag} {mg : Str → Option Value} {W : Wd} : ∀ {ds : List D} {vs : List V} {bs : List Bool}, rels K mg W ds vs → blsD ds = some bs → vs = bs.map V.bl
  | [], vs, bs, r, h => by
    have e : [] = bs := Option.some.inj h
    rw [← e]; exact r
  | d :: ds, vs, bs, r, h => by
    obtain ⟨v, ws, e, r1, r2⟩ := r
    cases d with
    | bl b =>
      cases q : blsD ds with
      | none => rw [blsD, q] at h; cases h
      | some cs =>
        rw [blsD, q] at h
        have e2 : b :: cs = bs := Option.some.inj h
        rw [← e2, e, bls_rel r2 q]
        cases (show v = _ from r1)
        rfl
    | _ => exact absurd (show none = some bs from h) (fun z => nomatch z)
def dAll : Den := fun ds g => match ds with
  | [.lst l] => (match blsD l with | some bs => .ok (.bl (bs.all (fun b => b))) g | none => .bad)
  | _ => .bad
theorem dc_all (hc : X.calm = true) : DCall X (.builtin "all") dAll := by
  refine DCall.of (cr_all hc) fun E H W g ds vs Q w c r P => ?_
  unfold dAll at P
  split at P
  · rename_i l
    obtain ⟨v, rfl, p, ws, rfl, f, rr⟩ := rels1 r
    cases h : blsD l with
    | none => rw [h] at P; exact P.elim
    | some bs =>
      rw [h] at P
      have e := bls_rel rr h
      subst e
      exact ⟨p, bs, rfl, SqL.of (w.sub _ _ f), Post.done P w c rfl⟩
  · exact P.elim
def dTupOf : Den := fun ds g => match ds with
  | [.lst l] => .ok (.tup l) g
  | [.tup l] => .ok (.tup l) g
  | _ => .bad
theorem dc_tuple : DCall X (.type "tuple") dTupOf := by
  refine DCall.of call_tuple_of fun E H W g ds vs Q w c r P => ?_
  unfold dTupOf at P
  split at P
  · obtain ⟨v, rfl, p, ws, rfl, f, rr⟩ := rels1 r
    exact ⟨p, ws, rfl, .inl ⟨SqL.of (w.sub _ _ f), fun l hl => Post.new P w c hl ⟨l, ws, rfl, upd_same, rels_le (ext_new w hl).1.le rr⟩⟩⟩
  · obtain ⟨v, rfl, p, ws, rfl, f, rr⟩ := rels1 r
    exact ⟨p, ws, rfl, .inr ⟨SqT.of (w.sub _ _ f), Post.done P w c ⟨p, ws, rfl, f, rr⟩⟩⟩
  · exact P.elim
/-- isinstance -/
def tyD : D → Option String
  | .non => some "NoneType"
  | .bl _ => some "bool"
  | .int _ => some "int"
  | .str _ => some "str"
  | .tup _ => some "tuple"
  | .lst _ => some "list"
  | .dik _ => some "dict"
  | .dit _ => some "dict"
  | _ => none
def dIsi : Den := fun ds g => match ds with
  | [d, .ty n] => (match tyD d with
    | some t => (match kitB t n with | some b => .ok (.bl b) g | none => .bad)
    | none => .bad)
  | _ => .bad
theorem ty_rel {K : PySem.W.Frag} {mg : Str → Option Value} {W : Wd} {H : Hp} {d : D} {v : V} {t : String} (w : WOk W H) (r : rel K mg W d v) (h : tyD d = some t) : TyX K H v (.type t) := by
  cases d with
  | non => cases (show v = _ from r); cases h; exact .base .non
  | bl _ => cases (show v = _ from r); cases h; exact .base (.bl _)
  | int _ => cases (show v = _ from r); cases h; exact .base (.int _)
  | str _ => cases (show v = _ from r); cases h; exact .base (.str _)
  | tup _ => obtain ⟨p, ws, rfl, f, rr⟩ := r; cases h; exact .base (.tup (w.sub _ _ f))
  | lst _ => obtain ⟨p, ws, rfl, f, rr⟩ := r; cases h; exact .base (.lst (w.sub _ _ f))
  | dik _ => obtain ⟨p, ws, rfl, f, rr⟩ := r; cases h; exact .base (.dK (w.sub _ _ f))
  | dit _ => obtain ⟨p, ws, rfl, f, rr⟩ := r; cases h; exact .base (.dT (w.sub _ _ f))
  | _ => cases h
theorem dc_isi : DCall X (.builtin "isinstance") dIsi := by
  refine DCall.of call_isi fun E H W g ds vs Q w c r P => ?_
  unfold dIsi at P
  split at P
  · rename_i d n
    obtain ⟨v, v', rfl, q, q'⟩ := rels2 r
    cases (show v' = _ from q')
    cases h : tyD d with
    | none => rw [h] at P; exact P.elim
    | some t =>
      rw [h] at P
      dsimp only at P
      cases h2 : kitB t n with
      | none => rw [h2] at P; exact P.elim
      | some b =>
        rw [h2] at P
        exact ⟨v, _, .type t, .type n, b, rfl, .ty n, ty_rel w q h, kit_ty h2, Post.done P w c rfl⟩
  · exact P.elim
end
end DL
set_option maxRecDepth 100000
set_option maxHeartbeats 4000000
namespace DL
open PySem PySem.Spec PyProof.Rows L2
def wipeD (ρ : Env) : List Nat → Env
  | [] => ρ
  | v :: vs => (wipeD ρ vs).set v none
section
variable {X : Cx} {Wx : WX} {B : Bs} {O O' : List Nat} {e a b c tg elt iter : Expr} {es ifs : List Expr} {f fa fb fe : FE} {ft : FT} {fs : FA} {fi : FI} {pos p : Pos}
theorem SR.forget {K : PySem.W.Frag} {mg : Str → Option Value} {W : Wd} {σ : L2.St} {H : Hp} {ρ : Env} {g : Gs} (S : SR K mg B O W σ H ρ g) (v : Nat) : SR K mg B O W (σ.set v none) H (ρ.set v none) g := by
  have key : ∀ {i : Nat} {d : D}, (ρ.set v none)[i]? = some (some d) → i ≠ v ∧ ρ[i]? = some (some d) := by
    intro i d h
    by_cases e : v = i
    · subst e
      by_cases hl : v < ρ.length
      · rw [List.getElem?_set_self hl] at h; cases h
      · rw [List.getElem?_eq_none (by rw [List.length_set]; omega)] at h; cases h
    · rw [List.getElem?_set_ne e] at h
      exact ⟨Ne.symm e, h⟩
  refine ⟨S.ext, S.wok, ⟨by rw [List.length_set, List.length_set]; exact S.env.len, fun i d n h => ?_, fun i d n h => ?_, fun i j q mi mj hi hj hi2 hj2 => ?_⟩, S.cells⟩
  · obtain ⟨ne, h⟩ := key h
    rw [List.getElem?_set_ne (Ne.symm ne)]
    exact S.env.val i d n h
  · obtain ⟨ne, h⟩ := key h
    rw [List.getElem?_set_ne (Ne.symm ne)]
    exact S.env.own i d n h
  · obtain ⟨d1, h1⟩ := hi2
    obtain ⟨d2, h2⟩ := hj2
    obtain ⟨n1, h1⟩ := key h1
    obtain ⟨n2, h2⟩ := key h2
    rw [List.getElem?_set_ne (Ne.symm n1)] at hi
    rw [List.getElem?_set_ne (Ne.symm n2)] at hj
    exact S.env.apart i j q mi mj hi hj ⟨d1, h1⟩ ⟨d2, h2⟩
theorem SR.wipe {K : PySem.W.Frag} {mg : Str → Option Value} {W : Wd} {σ : L2.St} {H : Hp} {ρ : Env} {g : Gs} (S : SR K mg B O W σ H ρ g) : ∀ vs, SR K mg B O W (wipe σ vs) H (wipeD ρ vs) g
  | [] => S
  | v :: vs => (SR.wipe S vs).forget v
/-- a comprehension's target: one name, or a tuple of names -/
inductive Pt where
  | one (i : Nat) | tup (is : List Nat)
def setsV (σ : L2.St) : List Nat → List V → L2.St
  | i :: is, v :: vs => setsV (σ.set i (some v)) is vs
  | _, _ => σ
def setsD (ρ : Env) : List Nat → List D → Env
  | i :: is, v :: vs => setsD (ρ.set i (some v)) is vs
  | _, _ => ρ
def gNs : List Nat → TGs
  | [] => gNil
  | i :: is => gCons (gName i) (gNs is)
def gPt (K : PySem.W.Frag) : Pt → TG
  | .one i => gName i
  | .tup is => L2.gTup K is.length (gNs is)
def ptIx : Pt → List Nat
  | .one i => [i]
  | .tup is => is
def ptSet : Pt → D → Env → Option Env
  | .one i, d, ρ => some (ρ.set i (some d))
  | .tup is, .tup ds, ρ => if ds.length = is.length then some (setsD ρ is ds) else none
  | _, _, _ => none
theorem gNs_of : ∀ {is : List Nat} {vs : List V} {σ : L2.St} {H : Hp} {Q : L2.St → Hp → Prop}, vs.length = is.length → Q (setsV σ is vs) H → gNs is vs σ H Q
  | [], vs, σ, H, Q, hl, q => by
    have e : vs = [] := List.eq_nil_of_length_eq_zero hl
    subst e
    exact ⟨rfl, q⟩
  | i :: is, [], σ, H, Q, hl, q => by cases hl
  | i :: is, v :: vs, σ, H, Q, hl, q => ⟨v, vs, rfl, gNs_of (is := is) (vs := vs) (by simpa using hl) q⟩
theorem wipe_set {σ : L2.St} {i : Nat} {x : Option V} : ∀ {vs : List Nat}, i ∈ vs → wipe (σ.set i x) vs = wipe σ vs
  | [], h => nomatch h
  | v :: vs, h => by
    unfold wipe
    by_cases e : i ∈ vs
    · rw [wipe_set e]
    · have ev : i = v := by
        rcases List.mem_cons.mp h with z | z
        · exact z
        · exact absurd z e
      subst ev
      have out : ∀ {us : List Nat}, i ∉ us → wipe (σ.set i x) us = (wipe σ us).set i x := by
        intro us
        induction us with
        | nil => intro _; rfl
        | cons u us ih =>
          intro hn
          unfold wipe
          have h1 : i ≠ u := fun z => hn (by rw [z]; exact List.mem_cons_self)
          have h2 : i ∉ us := fun z => hn (List.mem_cons_of_mem _ z)
          rw [ih h2, List.set_comm _ _ h1]
      rw [out e, List.set_set]
theorem wipe_sets : ∀ {is : List Nat} {vs : List V} {σ : L2.St} {us : List Nat}, (∀ i ∈ is, i ∈ us) → wipe (setsV σ is vs) us = wipe σ us
  | [], _, _, _, _ => rfl
  | i :: is, [], _, _, _ => rfl
  | i :: is, v :: vs, σ, us, h => by
    show wipe (setsV (σ.set i (some v)) is vs) us = wipe σ us
    rw [wipe_sets fun j hj => h j (List.mem_cons_of_mem _ hj), wipe_set (h i List.mem_cons_self)]
theorem wipe_wipe {σ : L2.St} : ∀ {vs : List Nat}, wipe (wipe σ vs) vs = wipe σ vs := by
  intro vs
  have key : ∀ (us : List Nat), (∀ u ∈ us, u ∈ vs) → wipe (wipe σ us) vs = wipe σ vs := by
    intro us
    induction us with
    | nil => intro _; rfl
    | cons u us ih =>
      intro h
      show wipe ((wipe σ us).set u none) vs = wipe σ vs
      rw [wipe_set (h u List.mem_cons_self), ih fun z hz => h z (List.mem_cons_of_mem _ hz)]
  exact key vs fun u hu => hu
theorem sets_ok {K : PySem.W.Frag} {mg : Str → Option Value} : ∀ {is : List Nat} {ds : List D} {vs : List V} {W : Wd} {σ : L2.St} {H : Hp} {ρ : Env} {g : Gs}, SR K mg B O W σ H ρ g → rels K mg W ds vs → (∀ i ∈ is, i ∉ O) → SR K mg B O W (setsV σ is vs) H (setsD ρ is ds) g
  | [], _, _, _, _, _, _, _, S, _, _ => S
  | i :: is, [], vs, W, σ, H, ρ, g, S, r, _ => by
    have e : vs = [] := r
    subst e
    exact S
  | i :: is, d :: ds, vs, W, σ, H, ρ, g, S, r, h => by
    obtain ⟨v, ws, e, r1, r2⟩ := r
    subst e
    have hi := h i List.mem_cons_self
    show SR K mg B O W (setsV (σ.set i (some v)) is ws) H (setsD (ρ.set i (some d)) is ds) g
    exact sets_ok (S.set (O' := O) i r1 (fun j hj => ⟨hj, fun z => hi (by rw [← z]; exact hj)⟩) fun j hj => .inr hj) r2 (fun j hj => h j (List.mem_cons_of_mem _ hj))
theorem gPt_of {K : PySem.W.Frag} {mg : Str → Option Value} {W : Wd} {σ : L2.St} {H : Hp} {ρ ρ' : Env} {g : Gs} {pt : Pt} {d : D} {v : V} {Q : L2.St → Hp → Prop} (S : SR K mg B O W σ H ρ g) (r : rel K mg W d v) (hO : ∀ i ∈ ptIx pt, i ∉ O) (hp : ptSet pt d ρ = some ρ')
    (h : ∀ σ', SR K mg B O W σ' H ρ' g → wipe σ' (ptIx pt) = wipe σ (ptIx pt) → Q σ' H) : gPt K pt v σ H Q := by
  cases pt with
  | one i =>
    have e : ρ.set i (some d) = ρ' := Option.some.inj hp
    subst e
    have hi := hO i List.mem_cons_self
    exact h _ (S.set i r (fun j hj => ⟨hj, fun z => hi (by rw [← z]; exact hj)⟩) fun j hj => .inr hj) (wipe_set List.mem_cons_self)
  | tup is =>
    cases d with
    | tup ds =>
      obtain ⟨p, vs, rfl, f, rr⟩ := r
      unfold ptSet at hp
      dsimp only at hp
      by_cases hl : ds.length = is.length
      · rw [if_pos hl] at hp
        have e : setsD ρ is ds = ρ' := Option.some.inj hp
        subst e
        have hv : vs.length = is.length := by rw [rels_length rr]; exact hl
        exact ⟨p, vs, rfl, SqT.of (S.wok.sub _ _ f), hv, gNs_of hv (h _ (sets_ok S rr hO) (wipe_sets fun i hi => hi))⟩
      · rw [if_neg hl] at hp; cases hp
    | _ => cases hp
/-- the turns of a comprehension, acc made so far -/
def lcD (pt : Pt) (ft : FT) (fe : FE) (ρ : Env) : List D → List D → M (List D)
  | [], acc, g => .ok acc g
  | d :: ds, acc, g => match ptSet pt d ρ with
    | none => .bad
    | some ρ1 => match ft ρ1 g with
      | .ok true g1 => (match fe ρ1 g1 with
        | .ok y g2 => if acc.length < sizeLine then lcD pt ft fe ρ ds (acc ++ [y]) g2 else .bad
        | _ => .bad)
      | .ok false g1 => lcD pt ft fe ρ ds acc g1
      | _ => .bad
def dDoneL (ds : List D) : M D := fun g => .ok (.lst ds) g
def fLc (fi : FI) (pt : Pt) (ft : FT) (fe : FE) : FE := fun ρ => M.bind (fi ρ) fun ds => M.bind (lcD pt ft fe (wipeD ρ (ptIx pt)) ds []) dDoneL
/-- no exception leaves a comprehension -/
abbrev wx0 : WX := fun _ _ _ _ => False
def ftYes : FT := fun _ => M.pure true
theorem tLc_of {pt : Pt} {own : List (Str × Nat)} (hown : own.map (·.2) = ptIx pt) (hO : ∀ i ∈ ptIx pt, i ∉ O) {W : Wd} {σ : L2.St} {H : Hp} {ρ : Env} {g : Gs} {Q : VK} (S : SR X.K X.mg B O W σ H ρ g)
    (P : Post (RD X) X.K X.mg (fun c d H' => Wx c d σ H') W H (fLc fi pt ft fe ρ g) Q) : tLc (tI X Wx B O fi) (gPt X.K pt) (tT X wx0 B O ft) (tE X wx0 B O fe) (own.map (·.2)) σ H Q := by
  rw [hown]
  refine ⟨W, ρ, g, S, (Post.bind (R := RW X) P).imp fun J H1 ⟨ds, W1, g1, e1, w1, c1, walk, P1⟩ => ?_⟩
  intro L hL
  have S1 := S.ext' e1 w1 c1
  have fL : W1.F L = none := by
    cases q : W1.F L with
    | none => rfl
    | some u => rw [w1.sub L u q] at hL; cases hL
  have tL : L ∉ W1.th := fun z => (w1.free L z).2 hL
  -- the list in the making stands at L, nobody else knows it
  have new0 : Ext W1 H1 W1 (upd H1 L (.lst [])) ∧ WOk W1 (upd H1 L (.lst [])) := by
    refine ⟨⟨WLe.refl _, fun a u h _ => by rw [upd_ne (ne_of_none h hL)]; exact h, fun a h => ⟨rfl, id⟩, fun a h => by rw [upd_ne fun z => h (by rw [z]; exact hL)]; exact h⟩, ⟨fun a u h => ?_, w1.nd, fun a h => ?_⟩⟩
    · have h' := w1.sub a u h
      rw [upd_ne (ne_of_none h' hL)]; exact h'
    · have h2 := w1.free a h
      exact ⟨h2.1, by rw [upd_ne fun z => h2.2 (by rw [z]; exact hL)]; exact h2.2⟩
  have c0 : GOk X.K X.mg W1 (upd H1 L (.lst [])) g1 := cells_ext c1 new0.1 rfl fun a h => upd_ne fun z => (w1.free a h).2 (by rw [z]; exact hL)
  refine ⟨fun i m H2 => i + m = ds.length ∧ ∃ W2 g2 acc vacc, Ext W1 H1 W2 H2 ∧ SR X.K X.mg B O W2 σ H2 ρ g2 ∧ W2.F L = none ∧ L ∉ W2.th ∧ H2 L = some (.lst vacc) ∧ rels X.K X.mg W2 acc vacc ∧
    Post (RD X) X.K X.mg (fun c d H' => Wx c d σ H') W1 H1 (M.bind (lcD pt ft fe (wipeD ρ (ptIx pt)) (ds.drop i) acc) dDoneL g2) Q, ⟨ds.length, by omega, W1, g1, [], [], new0.1, S1.ext' new0.1 new0.2 c0, fL, tL, upd_same, rels_nil, P1⟩, ?_⟩
  rintro i m H2 ⟨hm, W2, g2, acc, vacc, x2, S2, fL2, tL2, hH2, racc, P2⟩
  obtain ⟨wgo, wstop, wyld⟩ := walk W2 H2 x2.le S2.wok
  by_cases hlt : i < ds.length
  · have ed : ds.drop i = ds[i] :: ds.drop (i + 1) := List.drop_eq_getElem_cons hlt
    rw [ed] at P2
    refine .inr ⟨wgo i hlt, fun H' => ∃ W2 g2 acc vacc, Ext W1 H1 W2 H' ∧ SR X.K X.mg B O W2 σ H' ρ g2 ∧ W2.F L = none ∧ L ∉ W2.th ∧ H' L = some (.lst vacc) ∧ rels X.K X.mg W2 acc vacc ∧
      Post (RD X) X.K X.mg (fun c d H' => Wx c d σ H') W1 H1 (M.bind (lcD pt ft fe (wipeD ρ (ptIx pt)) (ds.drop (i + 1)) acc) dDoneL g2) Q, fun H' h => ⟨m - 1, by omega, by omega, h⟩, fun x H3 y => ?_⟩
    have hd : ds[i]? = some ds[i] := by simp [hlt]
    obtain ⟨W3, x3, w3, c3, r3⟩ := wyld i x H3 _ g2 hd y S2.cells
    have S3 := S2.ext' x3 w3 c3
    have S3w := S3.wipe (ptIx pt)
    have P3 := P2
    -- one turn
    have turn : lcD pt ft fe (wipeD ρ (ptIx pt)) (ds[i] :: ds.drop (i + 1)) acc g2 ≠ .bad := fun z => by
      have z2 : M.bind (lcD pt ft fe (wipeD ρ (ptIx pt)) (ds[i] :: ds.drop (i + 1)) acc) dDoneL g2 = .bad := by
        show Out.bind (lcD pt ft fe (wipeD ρ (ptIx pt)) (ds[i] :: ds.drop (i + 1)) acc g2) dDoneL = .bad
        rw [z]
      rw [z2] at P3
      exact P3.elim
    have step : ∀ {o : Out (List D)}, lcD pt ft fe (wipeD ρ (ptIx pt)) (ds[i] :: ds.drop (i + 1)) acc g2 = o → o ≠ .bad → Post (RD X) X.K X.mg (fun c d H' => Wx c d σ H') W1 H1 (o.bind dDoneL) Q := by
      intro o ho hb
      have e : M.bind (lcD pt ft fe (wipeD ρ (ptIx pt)) (ds[i] :: ds.drop (i + 1)) acc) dDoneL g2 = o.bind dDoneL := by
        show Out.bind (lcD pt ft fe (wipeD ρ (ptIx pt)) (ds[i] :: ds.drop (i + 1)) acc g2) dDoneL = _
        rw [ho]
      rw [← e]
      exact P3
    unfold lcD at turn step
    cases hpt : ptSet pt ds[i] (wipeD ρ (ptIx pt)) with
    | none => rw [hpt] at turn; exact absurd rfl turn
    | some ρ1 =>
      rw [hpt] at turn step
      dsimp only at turn step
      refine gPt_of S3w r3 hO hpt fun σ2 S4 hw => ⟨by rw [hw, wipe_wipe], W3, ρ1, g2, S4, ?_⟩
      cases hft : ft ρ1 g2 with
      | bad => rw [hft] at turn; exact absurd rfl turn
      | exc x gx => rw [hft] at turn; exact absurd rfl turn
      | ok k g4 =>
        rw [hft] at turn step
        intro k' W4 H4 x4 w4 c4 ek
        have ek : k' = k := ek
        subst ek
        have keepL4 : W4.F L = none ∧ L ∉ W4.th ∧ H4 L = some (.lst vacc) := by
          have hH3 : H3 L = some (.lst vacc) := x3.keep _ _ hH2 tL2
          have f3 := x3.old L (by rw [hH2]; exact fun q => nomatch q)
          have t3 : L ∉ W3.th := fun z => tL2 (f3.2 z)
          have f4 := x4.old L (by rw [hH3]; exact fun q => nomatch q)
          exact ⟨f4.1.trans (f3.1.trans fL2), fun z => t3 (f4.2 z), x4.keep _ _ hH3 t3⟩
        have S4' : SR X.K X.mg B O W4 σ H4 ρ g4 := (S2.ext' x3 w3 c3).ext' x4 w4 c4
        cases k' with
        | false =>
          dsimp only at turn step
          rw [if_neg (by decide)]
          exact ⟨W4, g4, acc, vacc, x2.trans (x3.trans x4), S4', keepL4.1, keepL4.2.1, keepL4.2.2, rels_le (x3.trans x4).le racc, step rfl turn⟩
        | true =>
          dsimp only at turn step
          rw [if_pos rfl]
          have S5 := S4.ext' x4 w4 c4
          refine ⟨W4, ρ1, g4, S5, ?_⟩
          cases hfe : fe ρ1 g4 with
          | bad => rw [hfe] at turn; exact absurd rfl turn
          | exc x gx => rw [hfe] at turn; exact absurd rfl turn
          | ok yd g5 =>
            rw [hfe] at turn step
            intro yv W5 H5 x5 w5 c5 ry
            dsimp only at turn step
            by_cases hz : acc.length < sizeLine
            · rw [if_pos hz] at turn step
              have f5 := x5.old L (by rw [keepL4.2.2]; exact fun q => nomatch q)
              have t5 : L ∉ W5.th := fun z => keepL4.2.1 (f5.2 z)
              have fL5 : W5.F L = none := f5.1.trans keepL4.1
              have hH5 : H5 L = some (.lst vacc) := x5.keep _ _ keepL4.2.2 keepL4.2.1
              have rac5 := rels_le (x3.trans (x4.trans x5)).le racc
              refine ⟨vacc, hH5, by rw [rels_length racc]; exact hz, ?_⟩
              have xS : Ext W1 H1 W5 H5 := x2.trans (x3.trans (x4.trans x5))
              have oldL : H1 L = none := hL
              -- the heap with one item more
              have x6 : Ext W1 H1 W5 (upd H5 L (.lst (vacc ++ [yv]))) := ⟨xS.le, fun a u h n => by rw [upd_ne (ne_of_none h oldL)]; exact xS.keep a u h n, xS.old, fun a h => by rw [upd_ne fun z => h (by rw [z]; exact oldL)]; exact xS.there a h⟩
              have w6 : WOk W5 (upd H5 L (.lst (vacc ++ [yv]))) := ⟨fun a u h => by rw [upd_ne fun z => by rw [z, fL5] at h; cases h]; exact w5.sub a u h, w5.nd, fun a h => ⟨(w5.free a h).1, by rw [upd_ne fun z => t5 (by rw [← z]; exact h)]; exact (w5.free a h).2⟩⟩
              have c6 : GOk X.K X.mg W5 (upd H5 L (.lst (vacc ++ [yv]))) g5 := ⟨c5.len, fun j q co e1 e2 => by
                have h0 := c5.at_ j q co e1 e2
                have nq : q ≠ L := fun z => t5 (by rw [← z]; exact List.mem_of_getElem? e1)
                cases co with
                | lst l => obtain ⟨vs, h, r⟩ := h0; exact ⟨vs, by rw [upd_ne nq]; exact h, r⟩
                | dik l => obtain ⟨vs, h, r⟩ := h0; exact ⟨vs, by rw [upd_ne nq]; exact h, r⟩
                | ins n l => obtain ⟨C, dx, vs, m', h, r⟩ := h0; exact ⟨C, dx, vs, m', by rw [upd_ne nq]; exact h, r⟩⟩
              have S6 : SR X.K X.mg B O W5 σ (upd H5 L (.lst (vacc ++ [yv]))) ρ g5 := S1.ext' x6 w6 c6
              refine ⟨W5, g5, acc ++ [yd], vacc ++ [yv], x6, S6, fL5, t5, upd_same, rels_append rac5 (rels_one ry), ?_⟩
              exact step rfl turn
            · rw [if_neg hz] at turn; exact absurd rfl turn
  · have em : ds.drop i = [] := List.drop_eq_nil_of_le (by omega)
    rw [em] at P2
    refine .inl ⟨wstop i (by omega), ?_⟩
    have leF : WLe W2 ⟨upd W2.F L (.lst vacc), W2.th⟩ := ⟨fun a u h => by show upd W2.F L (.lst vacc) a = some u; rw [upd_ne (ne_of_none h fL2)]; exact h, ⟨[], by simp⟩⟩
    refine P2 (.ref L) ⟨upd W2.F L (.lst vacc), W2.th⟩ H2 ⟨x2.le.trans leF, x2.keep, fun a h => ⟨?_, (x2.old a h).2⟩, x2.there⟩ ⟨fun a u h => ?_, S2.wok.nd, fun a h => ⟨?_, (S2.wok.free a h).2⟩⟩ (cells_W leF S2.cells) ⟨L, vacc, rfl, upd_same, rels_le leF racc⟩
    · show upd W2.F L (.lst vacc) a = W1.F a
      rw [upd_ne fun z => h (by rw [z]; exact hL)]
      exact (x2.old a h).1
    · have h : upd W2.F L (.lst vacc) a = some u := h
      by_cases ea : a = L
      · subst ea; rw [upd_same] at h; rw [hH2]; exact h
      · rw [upd_ne ea] at h; exact S2.wok.sub a u h
    · show upd W2.F L (.lst vacc) a = none
      rw [upd_ne fun z => tL2 (by rw [← z]; exact h)]
      exact (S2.wok.free a h).1
abbrev DTs (X : Cx) (Wx : WX) (B : Bs) (O : List Nat) (ifs : List Expr) (f : FT) : Prop := PTs X ifs (tT X Wx B O f)
theorem dts_nil : DTs X Wx B O [] ftYes := ⟨fun pins s σ H Q I ⟨W, ρ, g, S, P⟩ => pts_nil.run pins s σ H Q I (Post.done (R := RB) P S.wok S.cells rfl)⟩
theorem dts_one (h : DT X Wx B O c ft) : DTs X Wx B O [c] ft := pts_one h
theorem de_lc {scope : Scope} {own : List (Str × Nat)} (pt : Pt) (hc : X.calm = true) (hN : X.N.Nodup) (hi : DI X Wx B O tg iter fi) (ok : BlkOk X.N X.env.scope scope own) (hown : own.map (·.2) = ptIx pt) (hO : ∀ i ∈ ptIx pt, i ∉ O)
    (hg : ∀ (s : Shared) (H : Hp) (C : Addr) (cl : List (Str × Addr)) (fp : List Addr), PG (X.blk s H scope (compEnvC scope cl C X.env) fp) tg (gPt X.K pt))
    (ht : ∀ (s : Shared) (H : Hp) (C : Addr) (cl : List (Str × Addr)) (fp : List Addr), DTs (X.blk s H scope (compEnvC scope cl C X.env) fp) wx0 B O ifs ft)
    (he : ∀ (s : Shared) (H : Hp) (C : Addr) (cl : List (Str × Addr)) (fp : List Addr), DE (X.blk s H scope (compEnvC scope cl C X.env) fp) wx0 B O elt fe) (hs : ∀ x, foldedSetIterable iter X.env x = pure x := by intro _; rfl) :
    DE X Wx B O (.ListComp elt [⟨tg, iter, ifs, 0⟩] scope pos) (fLc fi pt ft fe) := by
  refine pe_mono (pe_lc (tt := tT X wx0 B O ft) (te := tE X wx0 B O fe) hc hN hi ok hg ht he hs) fun σ H Q ⟨W, ρ, g, S, P⟩ => ?_
  exact tLc_of hown hO S P
theorem ds_setLc (i : Nat) {y : Str} {py spos : Pos} {scope : Scope} {own : List (Str × Nat)} (pt : Pt) (hc : X.calm = true) (hN : X.N.Nodup) (hi : DI X Wx B O tg iter fi) (ok : BlkOk X.N X.env.scope scope own) (hown : own.map (·.2) = ptIx pt) (hO : ∀ i ∈ ptIx pt, i ∉ O)
    (hg : ∀ (s : Shared) (H : Hp) (C : Addr) (cl : List (Str × Addr)) (fp : List Addr), PG (X.blk s H scope (compEnvC scope cl C X.env) fp) tg (gPt X.K pt))
    (ht : ∀ (s : Shared) (H : Hp) (C : Addr) (cl : List (Str × Addr)) (fp : List Addr), DTs (X.blk s H scope (compEnvC scope cl C X.env) fp) wx0 B O ifs ft)
    (he : ∀ (s : Shared) (H : Hp) (C : Addr) (cl : List (Str × Addr)) (fp : List Addr), DE (X.blk s H scope (compEnvC scope cl C X.env) fp) wx0 B O elt fe) (hy : X.N[i]? = some y := by rfl) (hyl : X.env.scope.names.lookup y = some .local := by rfl)
    (hsw : swapsWith (.ListComp elt [⟨tg, iter, ifs, 0⟩] scope pos) (some (.Name y py)) spos.line X.env = pure true := by exact sw_true rfl rfl rfl (by decide +kernel)) (hs : ∀ x, foldedSetIterable iter X.env x = pure x := by intro _; rfl) (hd : O' = drop1 O i := by rfl) :
    DS X Wx B O O' (.Assign [.Name y py] (.ListComp elt [⟨tg, iter, ifs, 0⟩] scope pos) spos) (sSet i (fLc fi pt ft fe)) := by
  subst hd
  refine ps_mono (ps_setLc (tt := tT X wx0 B O ft) (te := tE X wx0 B O fe) hc hN hy hyl hsw hi ok hg ht he hs) fun D σ H ⟨W, ρ, g, S, P⟩ => ?_
  have h : tE X Wx B O (fLc fi pt ft fe) σ H (fun x H1 => gName i x σ H1 D.nx) := sx S P fun v H1 d W1 g1 S1 e1 r P1 => P1 W1 _ H1 (WLe.refl _) (S1.set i r (fun j hj => drop1_mem hj) fun j hj => drop1_of hj)
  obtain ⟨W, ρ, g, S, P⟩ := h
  exact tLc_of hown hO S P
/-- the list of a cell is changed -/
theorem SR.cell {K : PySem.W.Frag} {mg : Str → Option Value} {W : Wd} {σ : L2.St} {H : Hp} {ρ : Env} {g : Gs} (S : SR K mg B O W σ H ρ g) {n : Nat} {p : Addr} {u : HO} {co : CO} (hp : W.th[n]? = some p) (hc : cellAt K mg W (upd H p u) p co) : SR K mg B O W σ (upd H p u) ρ (g.set n co) := by
  have mp : p ∈ W.th := List.mem_of_getElem? hp
  have fp := (S.wok.free p mp).1
  refine ⟨⟨S.ext.le, fun a x h nt => ?_, S.ext.old, fun a h => ?_⟩, ⟨fun a x h => ?_, S.wok.nd, fun a h => ⟨(S.wok.free a h).1, ?_⟩⟩, ⟨S.env.len, S.env.val, fun i d n' h => ?_, S.env.apart⟩, ⟨by rw [List.length_set]; exact S.cells.len, fun i q ci e1 e2 => ?_⟩⟩
  · have ne : a ≠ p := fun z => nt ((S.ext.old a (by rw [h]; exact fun q => nomatch q)).2 (by rw [z]; exact mp))
    rw [upd_ne ne]; exact S.ext.keep a x h nt
  · by_cases ne : a = p
    · rw [ne, upd_same]; exact fun q => nomatch q
    · rw [upd_ne ne]; exact S.ext.there a h
  · rw [upd_ne fun z => by rw [z, fp] at h; cases h]; exact S.wok.sub a x h
  · by_cases ne : a = p
    · rw [ne, upd_same]; exact fun q => nomatch q
    · rw [upd_ne ne]; exact (S.wok.free a h).2
  · obtain ⟨q, h1, o⟩ := S.env.own i d n' h
    have nq : q ≠ p := fun z => o.nt (by rw [z]; exact mp)
    refine ⟨q, h1, ⟨?_, o.nf, o.nt, o.new⟩⟩
    have h0 := o.at_
    cases d with
    | lst l => obtain ⟨vs, h, r⟩ := h0; exact ⟨vs, by rw [upd_ne nq]; exact h, r⟩
    | dik l => obtain ⟨vs, h, r⟩ := h0; exact ⟨vs, by rw [upd_ne nq]; exact h, r⟩
    | dit l => obtain ⟨vs, h, r⟩ := h0; exact ⟨vs, by rw [upd_ne nq]; exact h, r⟩
    | ins c l => obtain ⟨C, dx, vs, m', h, r⟩ := h0; exact ⟨C, dx, vs, m', by rw [upd_ne nq]; exact h, r⟩
    | _ => exact h0.elim
  · by_cases ei : n = i
    · subst ei
      rw [hp] at e1
      have e1 : p = q := Option.some.inj e1
      subst e1
      by_cases hl : n < g.length
      · rw [List.getElem?_set_self hl] at e2
        have e2 : co = ci := by simpa using e2
        rw [← e2]; exact hc
      · rw [List.getElem?_eq_none (by rw [List.length_set]; omega)] at e2; cases e2
    · rw [List.getElem?_set_ne ei] at e2
      have h0 := S.cells.at_ i q ci e1 e2
      have nq : q ≠ p := fun z => ei (by
        rw [z] at e1
        obtain ⟨h1, x1⟩ := List.getElem?_eq_some_iff.mp hp
        obtain ⟨h2, x2⟩ := List.getElem?_eq_some_iff.mp e1
        exact (List.getElem_inj S.wok.nd).mp (x1.trans x2.symm))
      cases ci with
      | lst l => obtain ⟨vs, h, r⟩ := h0; exact ⟨vs, by rw [upd_ne nq]; exact h, r⟩
      | dik l => obtain ⟨vs, h, r⟩ := h0; exact ⟨vs, by rw [upd_ne nq]; exact h, r⟩
      | ins c l => obtain ⟨C, dx, vs, m', h, r⟩ := h0; exact ⟨C, dx, vs, m', by rw [upd_ne nq]; exact h, r⟩
/-- c[i] = v, c a cell -/
def gSubC (fo fi : FE) : FG := fun d ρ g => match fo ρ g with
  | .ok o g1 => (match fi ρ g1 with
    | .ok (.int k) g2 => (match o with
      | .cell n => (match g2[n]? with
        | some (.lst ds) => (match ixN ds.length k with
          | some j => .ok ρ (g2.set n (.lst (ds.set j d)))
          | none => .bad)
        | _ => .bad)
      | _ => .bad)
    | _ => .bad)
  | _ => .bad
theorem dg_subC {o i : Expr} {fo fi : FE} (ho : DE X Wx B O o fo) (hi : DE X Wx B O i fi)
    (ha : ∀ v, assign (.Subscript o i pos) X.env v = (do
      let ov ← holding [v] (eval o X.env)
      let iv ← holding [v, ov] (eval i X.env)
      standAt pos
      holding [v, ov, iv] (setItem ov iv v)
      release [v, ov, iv] []) := by intro _; rfl) : DG X B O O (.Subscript o i pos) (gSubC fo fi) := by
  refine pg_mono (pg_sub ho hi set_list ha) fun v σ H Q ⟨W, ρ, g, d, S, r, P⟩ => ?_
  unfold gSubC at P
  cases h1 : fo ρ g with
  | bad => rw [h1] at P; exact P.elim
  | exc x g1 => rw [h1] at P; exact P.elim
  | ok od g1 =>
    rw [h1] at P
    dsimp only at P
    refine ⟨W, ρ, g, S, ?_⟩
    rw [h1]
    intro ov W1 H1 x1 w1 c1 ro
    have S1 := S.ext' x1 w1 c1
    refine ⟨W1, ρ, g1, S1, ?_⟩
    cases h2 : fi ρ g1 with
    | bad => rw [h2] at P; exact P.elim
    | exc x g1 => rw [h2] at P; exact P.elim
    | ok id g2 =>
      rw [h2] at P
      intro iv W2 H2 x2 w2 c2 ri
      have S2 := S1.ext' x2 w2 c2
      cases id with
      | int k =>
        cases (show iv = _ from ri)
        dsimp only at P
        cases od with
        | cell n =>
          dsimp only at P
          obtain ⟨p, rfl, hp⟩ := rel_le x2.le ro
          cases h3 : g2[n]? with
          | none => rw [h3] at P; exact P.elim
          | some co =>
            rw [h3] at P
            cases co with
            | lst ds =>
              dsimp only at P
              obtain ⟨vs, hH, rr⟩ := S2.cells.at_ n p _ hp h3
              cases h4 : ixN ds.length k with
              | none => rw [h4] at P; exact P.elim
              | some j =>
                rw [h4] at P
                refine ⟨p, vs, k, j, rfl, rfl, hH, by rw [rels_length rr]; exact h4, P W2 σ _ (x1.le.trans x2.le) ?_⟩
                exact S2.cell hp ⟨_, upd_same, rels_set (rel_le (x1.le.trans x2.le) r) j rr⟩
            | _ => exact P.elim
        | _ => exact P.elim
      | _ => exact P.elim
end
end DL
set_option maxRecDepth 100000
set_option maxHeartbeats 4000000
namespace DL
open PySem PySem.Spec PyProof.Rows L2
section
variable {X : Cx} {Wx : WX} {B : Bs} {O O' : List Nat} {e a b c tg : Expr} {es : List Expr} {f fa fb fc : FE} {ft : FT} {fs : FA} {pos p : Pos}
def fChain (k k' : D → D → M D) (fa fb fc : FE) : FE := fun ρ => M.bind (fa ρ) fun x => M.bind (fb ρ) fun y => M.bind (k x y) fun z g => match z with
  | .bl true => M.bind (fc ρ) (fun w => k' y w) g
  | .bl false => .ok (.bl false) g
  | _ => .bad
/-- the operation's value as a relation on values -/
def rD (X : Cx) (Wx : WX) (k : D → D → M D) : R2 := fun vx vy H Q => ∃ σ W g x y, WOk W H ∧ GOk X.K X.mg W H g ∧ rel X.K X.mg W x vx ∧ rel X.K X.mg W y vy ∧ Post (RD X) X.K X.mg (fun c d H' => Wx c d σ H') W H (k x y g) fun v H' => Q v H'
def NoEx (k : D → D → M D) : Prop := ∀ x y g e g', k x y g ≠ .exc e g'
theorem noEx_dII {k : Int → Int → Option D} : NoEx (dII k) := fun x y g e g' h => by
  rcases dII_bad (k := k) (x := x) (y := y) (g := g) with q | ⟨i, j, d, _, _, _, q⟩ <;> rw [q] at h <;> cases h
theorem de_chain {op op' : CmpOp} {k k' : D → D → M D} (ho : DOp X wx0 (compareOp op) k) (ho' : DOp X wx0 (compareOp op') k') (n1 : NoEx k) (n2 : NoEx k') (ha : DE X Wx B O a fa) (hb : DE X Wx B O b fb) (hc : DE X Wx B O c fc)
    (hm : lastMarks [op, op'] [b, c] = false := by with_unfolding_all rfl) : DE X Wx B O (.Compare a [op, op'] [b, c] pos) (fChain k k' fa fb fc) := by
  have h1 : OpR X (compareOp op) (rD X wx0 k) := fun pins s σ H x y v u Q I rx ry ⟨σ0, W, g, dx, dy, w, gg, r1, r2, P⟩ => ho pins s σ H W g dx dy x y v u Q I w gg r1 r2 rx ry P
  have h2 : OpR X (compareOp op') (rD X wx0 k') := fun pins s σ H x y v u Q I rx ry ⟨σ0, W, g, dx, dy, w, gg, r1, r2, P⟩ => ho' pins s σ H W g dx dy x y v u Q I w gg r1 r2 rx ry P
  refine pe_mono (pe_chain h1 h2 ha hb hc hm) fun σ H Q ⟨W, ρ, g, S, P⟩ => ?_
  refine tE_then S P fun v H1 d W1 g1 S1 e1 r P1 => ?_
  refine tE_then S1 P1 fun v2 H2 d2 W2 g2 S2 e2 r2 P2 => ?_
  refine ⟨σ, W2, g2, d, d2, S2.wok, S2.cells, rel_le e2.le r, r2, ?_⟩
  cases q : k d d2 g2 with
  | bad => rw [show M.bind (k d d2) _ g2 = Out.bind (k d d2 g2) _ from rfl, q] at P2; exact P2.elim
  | exc x g3 => exact absurd q (n1 _ _ _ _ _)
  | ok z g3 =>
    rw [show M.bind (k d d2) _ g2 = Out.bind (k d d2 g2) _ from rfl, q] at P2
    intro v3 W3 H3 e3 w3 c3 r3
    have S3 := S2.ext' e3 w3 c3
    cases z with
    | bl t =>
      cases (show v3 = _ from r3)
      cases t with
      | false => exact ⟨false, rfl, ite_ff (Post.done (R := RD X) (Post.ext e3 P2) w3 c3 rfl)⟩
      | true =>
        refine ⟨true, rfl, ite_tt ?_⟩
        have P3 : Post (RD X) X.K X.mg (fun c d H' => Wx c d σ H') W3 H3 (M.bind (fc ρ) (fun w => k' d2 w) g3) Q := Post.ext e3 P2
        refine tE_then S3 P3 fun v4 H4 d4 W4 g4 S4 e4 r4 P4 => ⟨σ, W4, g4, d2, d4, S4.wok, S4.cells, rel_le (e3.le.trans e4.le) r2, r4, ?_⟩
        cases q2 : k' d2 d4 g4 with
        | bad => rw [q2] at P4; exact P4.elim
        | exc x g3 => exact absurd q2 (n2 _ _ _ _ _)
        | ok z g3 => rw [q2] at P4; exact P4
    | _ => exact P2.elim
end
section
variable {X : Cx}
def intsD : List D → Option (List Int)
  | [] => some []
  | .int i :: ds => (intsD ds).map (i :: ·)
  | _ :: _ => none
theorem ints_rel {K : PySem.W.Frag} {mg : Str → Option Value} {W : Wd} : ∀ {ds : List D} {vs : List V} {ns : List Int}, rels K mg W ds vs → intsD ds = some ns → vs = ns.map V.int
  | [], vs, bs, r, h => by
    have e : [] = bs := Option.some.inj h
    rw [← e]; exact r
  | d :: ds, vs, bs, r, h => by
    obtain ⟨v, ws, e, r1, r2⟩ := r
    cases d with
    | int b =>
      cases q : intsD ds with
      | none => rw [intsD, q] at h; cases h
      | some cs =>
        rw [intsD, q] at h
        have e2 : b :: cs = bs := Option.some.inj h
        rw [← e2, e, ints_rel r2 q]
        cases (show v = _ from r1)
        rfl
    | _ => exact absurd (show none = some bs from h) (fun z => nomatch z)
theorem holdAll_ints {h : Heap} : ∀ {ns : List Int} {us : List Value}, Vals (ns.map V.int) us → PySem.W.HoldAll h us ns
  | [], _, r => by rw [List.map_nil] at r; cases r; exact ⟨_, .nil⟩
  | n :: ns, _, r => by
    rw [List.map_cons] at r
    cases r with
    | @cons a b as bs h1 t =>
      obtain ⟨tk, rfl⟩ := h1
      exact PySem.W.HoldAll.cons (PySem.W.holds_int n tk) (holdAll_ints t)
def dMax1 : Den := fun ds g => match ds with
  | [.tup l] => (match intsD l with
    | some (n :: ns) => .ok (.int (PySem.W.maxOf n ns)) g
    | _ => .bad)
  | _ => .bad
theorem dc_max1 (hc : X.calm = true) (hu : X.A.units + 64 < cLine) : DCall X (.builtin "max") dMax1 := by
  intro E pins s σ H W g ds vs us Q I w c r rv P
  unfold dMax1 at P
  split at P
  · rename_i l
    obtain ⟨v, rfl, p, ws, rfl, f, rr⟩ := rels1 r
    cases h : intsD l with
    | none => rw [h] at P; exact P.elim
    | some ns0 =>
      rw [h] at P
      cases ns0 with
      | nil => exact P.elim
      | cons n ns =>
        have e := ints_rel rr h
        subst e
        obtain ⟨its, r0, ht, hz⟩ := I.tuple (SqT.of (w.sub _ _ f))
        rw [Vals.ref1 rv]
        refine PySem.W.max_tuple_datum (I.ok.hd hc) ht (by rw [List.toList_toArray]; exact holdAll_ints r0) (Nat.lt_of_le_of_lt (by show X.A.units + 1 + PySem.W.Datum.depth Int ≤ X.A.units + 64; exact Nat.add_le_add_left (by decide : 1 + 0 ≤ 64) _) hu) fun i v h' tk hv hh hk => ?_
        obtain ⟨t, rfl⟩ := PySem.W.int_of_holds hh
        exact ⟨.int _, H, I.kept hk, ⟨_, rfl⟩, Post.done P w c rfl⟩
  · exact P.elim
/-- repr -/
def dReprB (p : PyData) : Bool := p.showable && !p.hasDict && decide (p.depth + 1 ≤ 64) && okSz p.shown.length
def dRepr : Den := fun ds g => match ds with
  | [.bl b] => .ok (.str (if b then "True" else "False")) g
  | [.non] => .ok (.str "None") g
  | [.int i] => if i.natAbs.log2 < 1920 then .ok (.str (toString i)) g else .bad
  | [.str x] => if okSz (reprText x).length then .ok (.str (reprText x)) g else .bad
  | [.lst l] => (match pd (.lst l) with
    | some p => if dReprB p then .ok (.str p.shown) g else .bad
    | none => .bad)
  | [.tup l] => (match pd (.tup l) with
    | some p => if dReprB p then .ok (.str p.shown) g else .bad
    | none => .bad)
  | _ => .bad
theorem repr_ref (hu : X.A.units + 64 < cLine) (hgd : X.A.guards = some []) {pins : List (Addr × Obj)} {s : Shared} {σ : L2.St} {H : Hp} {W : Wd} {g : Gs} {d : D} {a : Addr} {p : PyData} {Q : VK} {E : XK} (I : Inv X pins σ H s) (w : WOk W H) (c : GOk X.K X.mg W H g)
    (r : rel X.K X.mg W d (.ref a)) (h : pd d = some p) (P : Post (RD X) X.K X.mg E W H ((if dReprB p then (.ok (.str p.shown) g : Out D) else .bad)) Q) : wpAny (model X.prog X.w) X.A (call (.builtin "repr") [.ref a]) (EP X pins σ Q) X.xe s := by
  by_cases hz : dReprB p = true
  · rw [if_pos hz] at P
    unfold dReprB at hz
    simp only [Bool.and_eq_true, Bool.not_eq_true'] at hz
    obtain ⟨⟨⟨h1, h2⟩, h3⟩, h4⟩ := hz
    have h3 := of_decide_eq_true h3
    obtain ⟨as, rr⟩ := Dp.reads I p (.ref a) (.ref a) (dp_of w d _ p r h) rfl
    refine repr_of_reads' rr h1 (fun z => absurd (h2.symm.trans z) (by decide)) hgd (by omega) (fun b o q => q) (fun h' u tk hk => ?_) (of_decide_eq_true h4)
    exact ⟨.str _, H, I.kept hk, ⟨_, rfl⟩, Post.done P w c rfl⟩
  · rw [if_neg hz] at P; exact P.elim
theorem dc_repr (hu : X.A.units + 64 < cLine) (hgd : X.A.guards = some []) : DCall X (.builtin "repr") dRepr := by
  intro E pins s σ H W g ds vs us Q I w c r rv P
  unfold dRepr at P
  split at P
  · rename_i b
    obtain ⟨v, rfl, q⟩ := rels1 r
    cases (show v = _ from q)
    cases rv with
    | @cons _ b' _ _ h1 t =>
      cases t
      cases h1
      exact PySem.P.repr_of_bool ⟨.str _, H, I.tok _, ⟨_, rfl⟩, Post.done P w c rfl⟩
  · obtain ⟨v, rfl, q⟩ := rels1 r
    cases (show v = _ from q)
    cases rv with
    | @cons _ b' _ _ h1 t =>
      cases t
      cases h1
      exact PySem.P.repr_of_none ⟨.str _, H, I.tok _, ⟨_, rfl⟩, Post.done P w c rfl⟩
  · rename_i i
    obtain ⟨v, rfl, q⟩ := rels1 r
    cases (show v = _ from q)
    cases rv with
    | @cons _ b' _ _ h1 t =>
      cases t
      obtain ⟨tk, rfl⟩ := h1
      by_cases hi : i.natAbs.log2 < 1920
      · rw [if_pos hi] at P
        exact PySem.P.repr_of_int hi ⟨.str _, H, I.tok _, ⟨_, rfl⟩, Post.done P w c rfl⟩
      · rw [if_neg hi] at P; exact P.elim
  · rename_i x
    obtain ⟨v, rfl, q⟩ := rels1 r
    cases (show v = _ from q)
    cases rv with
    | @cons _ b' _ _ h1 t =>
      cases t
      obtain ⟨tk, rfl⟩ := h1
      by_cases hi : okSz (reprText x).length = true
      · rw [if_pos hi] at P
        exact PySem.P.repr_of_str ⟨.str _, H, I.tok _, ⟨_, rfl⟩, Post.done P w c rfl⟩ (of_decide_eq_true hi)
      · rw [if_neg hi] at P; exact P.elim
  · rename_i l
    obtain ⟨v, rfl, q⟩ := rels1 r
    have q2 := q
    obtain ⟨p, ws, rfl, f, rr⟩ := q
    rw [Vals.ref1 rv]
    cases h : pd (.lst l) with
    | none => rw [h] at P; exact P.elim
    | some pp => rw [h] at P; exact repr_ref hu hgd I w c q2 h P
  · rename_i l
    obtain ⟨v, rfl, q⟩ := rels1 r
    have q2 := q
    obtain ⟨p, ws, rfl, f, rr⟩ := q
    rw [Vals.ref1 rv]
    cases h : pd (.tup l) with
    | none => rw [h] at P; exact P.elim
    | some pp => rw [h] at P; exact repr_ref hu hgd I w c q2 h P
  · exact P.elim
end
theorem ext_plain {W : Wd} {H : Hp} {p : Addr} {o : HO} (w : WOk W H) (hp : H p = none) : Ext W H W (upd H p o) ∧ WOk W (upd H p o) := by
  have hne : ∀ a, H a ≠ none → a ≠ p := fun a h z => h (by rw [z]; exact hp)
  refine ⟨⟨WLe.refl W, fun a u h _ => ?_, fun a h => ⟨rfl, id⟩, fun a h => ?_⟩, ⟨fun a u h => ?_, w.nd, fun a h => ⟨(w.free a h).1, ?_⟩⟩⟩
  · rw [upd_ne (hne a (by rw [h]; exact fun q => nomatch q))]; exact h
  · rw [upd_ne (hne a h)]; exact h
  · have := w.sub a u h
    rw [upd_ne (hne a (by rw [this]; exact fun q => nomatch q))]; exact this
  · rw [upd_ne (hne a (w.free a h).2)]; exact (w.free a h).2
section
variable {X : Cx} {Wx : WX} {B : Bs} {O O' : List Nat} {e a b c tg : Expr} {es : List Expr} {f fa fb fc : FE} {ft : FT} {fs : FA} {pos p : Pos}
def fPairs : List (FE × FE) → Env → M (List (D × D))
  | [], _ => M.pure []
  | (fk, fv) :: r, ρ => M.bind (fk ρ) fun k => M.bind (fv ρ) fun v => M.bind (fPairs r ρ) fun ps => M.pure ((k, v) :: ps)
def relP (K : PySem.W.Frag) (mg : Str → Option Value) (W : Wd) (ds : List (D × D)) (vs : List (V × V)) : Prop := rels K mg W (ds.map (·.1)) (vs.map (·.1)) ∧ rels K mg W (ds.map (·.2)) (vs.map (·.2))
theorem tP_of : ∀ {trs : List (FE × FE)} {W : Wd} {σ : L2.St} {H : Hp} {ρ : Env} {g : Gs} {Q : List (V × V) → Hp → Prop}, SR X.K X.mg B O W σ H ρ g →
    Post (fun W => relP X.K X.mg W) X.K X.mg (fun c d H' => Wx c d σ H') W H (fPairs trs ρ g) Q → tPairs (trs.map fun t => (tE X Wx B O t.1, tE X Wx B O t.2)) σ H Q
  | [], W, σ, H, ρ, g, Q, S, P => Post.done (R := fun W => relP X.K X.mg W) P S.wok S.cells ⟨rfl, rfl⟩
  | (fk, fv) :: r, W, σ, H, ρ, g, Q, S, P => by
    refine tE_then S P fun v H1 d W1 g1 S1 e1 r1 P1 => ?_
    refine tE_then S1 P1 fun v2 H2 d2 W2 g2 S2 e2 r2 P2 => ?_
    refine tP_of (trs := r) S2 ?_
    refine Post.imp (Post.bind (R' := fun W => relP X.K X.mg W) P2) fun ps H3 hq => ?_
    obtain ⟨ds, W3, g3, e3, w3, c3, r3, P3⟩ := hq
    exact Post.done (R := fun W => relP X.K X.mg W) P3 w3 c3 ⟨rels_cons (rel_le (e2.le.trans e3.le) r1) r3.1, rels_cons (rel_le e3.le r2) r3.2⟩
def keyedD : List (D × D) → Option (List (Key × D))
  | [] => some []
  | (k, v) :: r => match keyD k, keyedD r with
    | some x, some y => some ((x, v) :: y)
    | _, _ => none
def mergeA (kvs more : List (Key × D)) : List (Key × D) := more.foldl (fun acc kv => putA acc kv.1 kv.2) kvs
def dDisp (ps : List (D × D)) : M D := fun g => match keyedD ps with
  | some kvs => if kvs.length ≤ 15 then .ok (.dik (mergeA [] kvs)) g else .bad
  | none => .bad
theorem keyed_rel {K : PySem.W.Frag} {mg : Str → Option Value} {W : Wd} : ∀ {ds : List (D × D)} {vs : List (V × V)} {kvs : List (Key × D)}, relP K mg W ds vs → keyedD ds = some kvs → ∃ ws : List (Key × V), vs = ws.map (fun kv => (kV kv.1, kv.2)) ∧ relK K mg W kvs ws
  | [], [], kvs, r, h => by
    have e : [] = kvs := Option.some.inj h
    rw [← e]; exact ⟨[], rfl, rfl⟩
  | [], _ :: _, _, r, _ => nomatch (show _ = _ from r.1)
  | (k, v) :: ds, vs, kvs, r, h => by
    cases vs with
    | nil => obtain ⟨_, _, e, _⟩ := r.1; cases e
    | cons q vs =>
      obtain ⟨x1, y1, e1, rk, rks⟩ := r.1
      obtain ⟨x2, y2, e2, rv, rvs⟩ := r.2
      cases e1
      cases e2
      unfold keyedD at h
      cases hk : keyD k with
      | none => rw [hk] at h; cases h
      | some kk =>
        cases hr : keyedD ds with
        | none => rw [hk, hr] at h; cases h
        | some kr =>
          rw [hk, hr] at h
          have e : (kk, v) :: kr = kvs := Option.some.inj h
          obtain ⟨ws, h1, h2⟩ := keyed_rel (ds := ds) (vs := vs) ⟨rks, rvs⟩ hr
          rw [← e]
          refine ⟨(kk, q.2) :: ws, ?_, ⟨q.2, ws, rfl, rv, h2⟩⟩
          rw [List.map_cons, ← h1, ← key_rel rk hk]
theorem relK_merge {K : PySem.W.Frag} {mg : Str → Option Value} {W : Wd} : ∀ {more : List (Key × D)} {ws : List (Key × V)} {kvs : List (Key × D)} {vs : List (Key × V)}, relK K mg W more ws → relK K mg W kvs vs → relK K mg W (mergeA kvs more) (mergeK vs ws)
  | [], ws, kvs, vs, r, q => by
    cases (show ws = [] from r)
    exact q
  | (k, d) :: more, ws, kvs, vs, r, q => by
    obtain ⟨v, ws', rfl, rd, rm⟩ := r
    exact relK_merge (more := more) (ws := ws') rm (relK_put q rd)
def fDisp (trs : List (FE × FE)) : FE := fun ρ => M.bind (fPairs trs ρ) dDisp
theorem de_disp {keys : List (Option Expr)} {values : List Expr} {trs : List (FE × FE)} (h : PPs X pos keys values (trs.map fun t => (tE X Wx B O t.1, tE X Wx B O t.2))) (hall : keys.all (·.isSome) = true := by rfl) (hl : keys.length = values.length := by rfl) (h0 : keys ≠ [] := by exact fun z => nomatch z)
    (h15 : keys.length ≤ 15 := by decide) : DE X Wx B O (.Dict keys values pos) (fDisp trs) := by
  refine pe_mono (pe_disp h hall hl h0 h15) fun σ H Q ⟨W, ρ, g, S, P⟩ => ?_
  intro p hp
  obtain ⟨x1, w1⟩ := ext_plain (o := HO.dK []) S.wok hp
  have c1 : GOk X.K X.mg W (upd H p (.dK [])) g := cells_ext S.cells x1 rfl fun a ha => upd_ne fun z => (S.wok.free a ha).2 (by rw [z]; exact hp)
  have S1 := S.ext' x1 w1 c1
  have nW : W.F p = none := by
    cases q : W.F p with
    | none => rfl
    | some o => have := S.wok.sub p o q; rw [hp] at this; cases this
  have nT : p ∉ W.th := fun z => (S.wok.free p z).2 hp
  refine tP_of S1 ?_
  have P0 : Post (RD X) X.K X.mg (fun c d H' => Wx c d σ H') W H ((fPairs trs ρ g).bind dDisp) Q := P
  cases q : fPairs trs ρ g with
  | bad => rw [q] at P0; exact P0.elim
  | exc x g3 =>
    rw [q] at P0
    exact Post.ext (R := fun W => relP X.K X.mg W) x1 P0
  | ok ds g3 =>
    rw [q] at P0
    intro vs W2 H2 e2 w2 c2 r2
    have hold : H2 p = some (.dK []) := e2.keep p _ upd_same nT
    have hold1 : upd H p (HO.dK []) p ≠ none := by rw [upd_same]; exact fun z => nomatch z
    have nW2 : W2.F p = none := by rw [(e2.old p hold1).1]; exact nW
    have nT2 : p ∉ W2.th := fun z => nT ((e2.old p hold1).2 z)
    refine ⟨hold, ?_⟩
    have P1 : Post (RD X) X.K X.mg (fun c d H' => Wx c d σ H') W H (dDisp ds g3) Q := P0
    unfold dDisp at P1
    cases hk : keyedD ds with
    | none => rw [hk] at P1; exact P1.elim
    | some kvs =>
      rw [hk] at P1
      dsimp only at P1
      by_cases h15' : kvs.length ≤ 15
      · rw [if_pos h15'] at P1
        obtain ⟨ws, h1, h2⟩ := keyed_rel r2 hk
        refine ⟨ws, h1, by rw [relK_length h2]; exact h15', ?_⟩
        have hne : ∀ a, a ≠ p → upd H2 p (HO.dK (mergeK [] ws)) a = H2 a := fun a z => upd_ne z
        have le3 : WLe W2 ⟨upd W2.F p (.dK (mergeK [] ws)), W2.th⟩ := ⟨fun a o ha => by
          by_cases z : a = p
          · rw [z, nW2] at ha; cases ha
          · show upd W2.F p _ a = some o
            rw [upd_ne z]; exact ha, ⟨[], by simp⟩⟩
        refine P1 (.ref p) ⟨upd W2.F p (.dK (mergeK [] ws)), W2.th⟩ (upd H2 p (.dK (mergeK [] ws))) ⟨(e2.le).trans le3, fun a o ha hn => ?_, fun a ha => ?_, fun a ha => ?_⟩ ⟨fun a o ha => ?_, w2.nd, fun a ha => ?_⟩ ⟨c2.len, fun i q co h3 h4 => ?_⟩ ⟨p, _, rfl, upd_same, relK_le le3 (relK_merge h2 rfl)⟩
        · have z : a ≠ p := fun z => by rw [z, hp] at ha; cases ha
          rw [upd_ne z]
          exact e2.keep a o (by rw [upd_ne z]; exact ha) hn
        · have z : a ≠ p := fun z => ha (by rw [z]; exact hp)
          have h5 := e2.old a (by rw [upd_ne z]; exact ha)
          exact ⟨by show upd W2.F p _ a = _; rw [upd_ne z]; exact h5.1, h5.2⟩
        · have z : a ≠ p := fun z => ha (by rw [z]; exact hp)
          rw [upd_ne z]
          exact e2.there a (by rw [upd_ne z]; exact ha)
        · by_cases z : a = p
          · subst z
            have ha : upd W2.F a _ a = some o := ha
            rw [upd_same] at ha ⊢
            exact ha
          · have ha : upd W2.F p _ a = some o := ha
            rw [upd_ne z] at ha ⊢
            exact w2.sub a o ha
        · have z : a ≠ p := fun z => nT2 (by rw [← z]; exact ha)
          exact ⟨by show upd W2.F p _ a = _; rw [upd_ne z]; exact (w2.free a ha).1, by rw [upd_ne z]; exact (w2.free a ha).2⟩
        · have h5 := c2.at_ i q co h3 h4
          have z : q ≠ p := fun z => nT2 (by rw [← z]; exact List.mem_of_getElem? h3)
          cases co with
          | lst l => obtain ⟨xs, h6, h7⟩ := h5; exact ⟨xs, by rw [upd_ne z]; exact h6, rels_le le3 h7⟩
          | dik l => obtain ⟨xs, h6, h7⟩ := h5; exact ⟨xs, by rw [upd_ne z]; exact h6, relK_le le3 h7⟩
          | ins cc l => obtain ⟨C, dx, xs, h0, h6, h7⟩ := h5; exact ⟨C, dx, xs, h0, by rw [upd_ne z]; exact h6, relF_le le3 h7⟩
      · rw [if_neg h15'] at P1; exact P1.elim
end
end DL
set_option maxRecDepth 100000
set_option maxHeartbeats 4000000
namespace HT
open PySem PySem.Spec PyProof.Rows L2
section
variable {prog : Program} {w : World} {A : Around} {E : Value → Shared → Prop} {s : Shared}
theorem sliceApplied_rev {sl : Addr} {vs : Value} {n : Nat} {Q : Int × Int × Nat → Shared → Prop} (hs : s.heap.IsSliceOf sl .none .none vs) (pv : IsPart vs (some (-1)))
    (h : Q ((n : Int) - 1, -1, n) s) : wpAny (model prog w) A (Builtin.Slice.sliceApplied (.ref sl) (pure (n : Int))) Q E s := by
  obtain ⟨os, hos, hcs, hds⟩ := id hs
  unfold Builtin.Slice.sliceApplied Builtin.Slice.sliceFields
  refine wpAny_bind (wpAny_bind (wpAny_field hos hds (x := .none) rfl (wpAny_bind (wpAny_field hos hds (x := .none) rfl (wpAny_bind (wpAny_field hos hds (x := vs) rfl (wpAny_pure ?_)))))))
  refine wpAny_bind (slicePart_ pv ?_)
  show wpAny _ _ (if ((-1 : Int) == 0) = true then _ else _) _ _ s
  rw [if_neg (by decide)]
  refine wpAny_bind (slicePart_ .none (wpAny_bind (slicePart_ .none (wpAny_bind (wpAny_pure ?_)))))
  show wpAny _ _ (pure ((n : Int) - 1, (-1 : Int), Builtin.Slice.slicePlaces ((n : Int) - 1) (-1) (-1))) _ _ s
  have e : Builtin.Slice.slicePlaces ((n : Int) - 1) (-1) (-1) = n := by
    unfold Builtin.Slice.slicePlaces
    rw [if_neg (by decide)]
    by_cases hn : n = 0
    · subst hn; rfl
    · rw [if_pos (by omega)]
      have : ((n : Int) - 1 - -1 - 1) / (- -1) = (n : Int) - 1 := by
        rw [show (- -1 : Int) = 1 by decide, Int.ediv_one]; omega
      rw [this]; omega
  rw [e]
  exact wpAny_pure h
theorem fm_congr {α β : Type} {f g : α → Option β} : ∀ {l : List α}, (∀ a ∈ l, f a = g a) → l.filterMap f = l.filterMap g
  | [], _ => rfl
  | a :: l, h => by
    rw [List.filterMap_cons, List.filterMap_cons, h a List.mem_cons_self, fm_congr (l := l) fun b hb => h b (List.mem_cons_of_mem _ hb)]
theorem pick_rev (xs : Array Value) : ((List.range xs.size).filterMap fun (m : Nat) => xs[((xs.size : Int) - 1 + (m : Int) * (-1)).toNat]?).toArray = xs.toList.reverse.toArray := by
  have h := PySem.W.krv_pick xs
  unfold slicePick at h
  rw [PySem.W.krv_bounds] at h
  have h2 : ((sliceRange ((xs.size : Int) - 1) (-1) (-1)).filterMap (xs[·]?)).toArray = xs.toList.reverse.toArray := h
  rw [PySem.W.krv_sliceRange, List.filterMap_map] at h2
  rw [← h2]
  congr 1
  apply fm_congr
  intro m hm
  have := List.mem_range.mp hm
  have e : ((xs.size : Int) - 1 + (m : Int) * (-1)).toNat = xs.size - 1 - m := by omega
  rw [e]; rfl
theorem getItem_tuple_rev {t sl : Addr} {items : Array Value} {vs : Value} {Q : Value → Shared → Prop} (ht : IsTup s.heap t items) (hs : s.heap.IsSliceOf sl .none .none vs) (pv : IsPart vs (some (-1)))
    (h : Q (.ref s.heap.objs.size) { s with heap := s.heap.push { cls := .type "tuple", data := .seq items.toList.reverse.toArray } })
    (hsz : items.size ≤ sizeLine) : wpAny (model prog w) A (getItem (.ref t) (.ref sl)) Q E s := by
  have htake : sizeOk (.seq items.toList.reverse.toArray) := by
    show (items.toList.reverse.toArray).size ≤ sizeLine
    rw [List.size_toArray, List.length_reverse, Array.length_toList]
    omega
  obtain ⟨os, hos, hcs, hds⟩ := id hs
  have hTs : s.TypeIs (.ref sl) "slice" := ⟨os, hos, hcs⟩
  unfold getItem
  try with_reducible refine wpAny_holding ?_
  first | refine wpAny_bind (wpAny_pure ?_) | skip
  refine wpAny_bind (wpAny_sequenceKey ht.typeIs (by decide) ?_)
  refine wpAny_bind (wpAny_callSpecial?_slot (name := Str.ofString "__getitem__") ht.typeIs PyProof.Rows.slot_tuple_getitem
    (wpAny_call_entry PyProof.Rows.slot_tuple_getitem ht.typeIs entry_tuple_getitem ?_ (args_tuple_getitem _ _)))
  show wpAny _ _ (Builtin.Tuple.tupleItemsOf (.ref t) >>= _) _ _ s
  refine wpAny_bind (tupleItemsOf_ ht ?_)
  refine wpAny_bind (wpAny_typeOf hTs ?_)
  rw [if_pos (by decide)]
  refine wpAny_bind (sliceApplied_rev hs pv ?_)
  have hno : ¬ (((items.size : Int) - 1 == 0 && (-1 : Int) == 1 && items.size == items.size) = true) := by
    intro q
    rw [Bool.and_eq_true, Bool.and_eq_true] at q
    exact absurd q.1.2 (by decide)
  show wpAny _ _ (if ((items.size : Int) - 1 == 0 && (-1 : Int) == 1 && items.size == items.size) = true then _ else _) _ _ s
  rw [if_neg hno, pick_rev]
  first
    | exact wpAny_bind (m := Builtin.Tuple.tupleExact _) (wpAny_newObj_type (wpAny_pure ⟨_, rfl, wpAny_pure h⟩) htake)
    | exact wpAny_bind (m := Builtin.Tuple.tupleExact _) (wpAny_newObj_type (wpAny_bind (wpAny_pure (wpAny_pure ⟨_, rfl, wpAny_pure h⟩))) htake)
    | exact wpAny_bind (wpAny_bind (m := Builtin.Tuple.tupleExact _) (wpAny_newObj_type (wpAny_pure (wpAny_pure ⟨_, rfl, wpAny_pure h⟩)) htake))
    | exact wpAny_bind (wpAny_bind (m := Builtin.Tuple.tupleExact _) (wpAny_newObj_type (wpAny_pure ⟨_, rfl, wpAny_pure h⟩) htake))
end
end HT
namespace DL
open PySem PySem.Spec PyProof.Rows L2
section
variable {X : Cx} {Wx : WX} {B : Bs} {O O' : List Nat} {e a b c tg : Expr} {es : List Expr} {f fa fb fc : FE} {ft : FT} {fs : FA} {pos p : Pos}
def tRevB (K : PySem.W.Frag) (te : TE) : TE := fun σ H Q => te σ H fun x H1 => (∃ a xs, x = .ref a ∧ SqL K H1 a xs ∧ ∀ p, H1 p = none → Q (.ref p) (upd H1 p (.lst xs.reverse))) ∨ (∃ a xs, x = .ref a ∧ SqT K H1 a xs ∧ ∀ p, H1 p = none → Q (.ref p) (upd H1 p (.tup xs.reverse)))
theorem pe_revB {e : Expr} {te : TE} {k : Nat} {p1 p2 p3 pos : Pos} (he : PE X e te) : PE X (.Subscript e (.Slice none none (some (.UnaryOp .USub (.Constant (.int 1) k p1) p2)) p3) pos) (tRevB X.K te) := by
  refine ⟨fun pins s σ H Q I h => ?_⟩
  refine Subscript_ (thn (he.run pins s σ H _ I h) fun v s1 ⟨x, H1, I1, r1, q1⟩ => ?_)
  have hst : PO X (some (.UnaryOp .USub (.Constant (.int 1) k p1) p2)) (tPart (tUn (rU fun i => .int (-i)) (tC (.int 1)))) := po_some (pe_un un_neg pe_int)
  refine wpAny_Slice (thn (po_none.run pins s1 σ H1 (fun o H2 => o = none ∧ H2 = H1) I1 ⟨rfl, rfl⟩) fun vl s2 ⟨l, H2, I2, pl, el, e2⟩ => ?_)
  subst el e2
  refine thn (po_none.run pins s2 σ H2 (fun o H3 => o = none ∧ H3 = H2) I2 ⟨rfl, rfl⟩) fun vu s3 ⟨u, H3, I3, pu, eu, e3⟩ => ?_
  subst eu e3
  refine thn (hst.run pins s3 σ H3 (fun o H4 => o = some (-1) ∧ H4 = H3) I3 ⟨1, rfl, -1, rfl, rfl, rfl⟩) fun vs s4 ⟨o, H4, I4, ps, eo, e4⟩ => ?_
  subst eo e4
  have I5 : Inv X pins σ H4 { s4 with heap := s4.heap.push { cls := .type "slice", data := .fields #[vl, vu, vs] } } := I4.kept (t' := s4.toks) fun b ob q => Heap.get?_push_of_some _ q
  rcases q1 with q1 | q1
  · obtain ⟨a, xs, ex, hx, q⟩ := q1
    subst ex
    cases r1
    obtain ⟨its, r, ht, hz⟩ := I5.list hx
    have hlen := r.length
    show wpAny (model X.prog X.w) X.A (subscriptTail e (.Slice none none (some (.UnaryOp .USub (.Constant (.int 1) k p1) p2)) p3) (.ref a) (.ref s4.heap.objs.size)) (EP X pins σ Q) X.xe { s4 with heap := s4.heap.push { cls := .type "slice", data := .fields #[vl, vu, vs] } }
    refine tail_any (ops := [.ref a, .ref s4.heap.objs.size]) ht.isList.typeIs (PySem.slot_list_getitem.lookup) ?_ (by with_unfolding_all rfl)
    refine wpAny_getItem_list_slice ht.isList (Heap.IsSliceOf.new _ vl vu vs) pl pu ps (by decide) ?_ (by rw [List.size_toArray]; omega)
    rw [PySem.W.krv_pick]
    refine ⟨.ref _, _, I5.laid (t' := s4.toks) (o := .lst xs.reverse) (fun b ob q => Heap.get?_push_of_some _ q) (Nat.le_refl _) ?_, rfl, q _ (I5.hok.fresh (Nat.le_refl _))⟩
    exact ⟨by rw [List.length_reverse]; exact hz, _, 0, r.reverse, Heap.get?_push_size _ rfl⟩
  · obtain ⟨a, xs, ex, hx, q⟩ := q1
    subst ex
    cases r1
    cases pl
    cases pu
    obtain ⟨its, r, ht, hz⟩ := I5.tuple hx
    have hlen := r.length
    show wpAny (model X.prog X.w) X.A (subscriptTail e (.Slice none none (some (.UnaryOp .USub (.Constant (.int 1) k p1) p2)) p3) (.ref a) (.ref s4.heap.objs.size)) (EP X pins σ Q) X.xe { s4 with heap := s4.heap.push { cls := .type "slice", data := .fields #[.none, .none, vs] } }
    refine tail_any (ops := [.ref a, .ref s4.heap.objs.size]) ht.typeIs (PyProof.Rows.slot_tuple_getitem.lookup) ?_ (by with_unfolding_all rfl)
    refine HT.getItem_tuple_rev ht (Heap.IsSliceOf.new _ .none .none vs) ps ?_ (by rw [List.size_toArray]; omega)
    refine ⟨.ref _, _, I5.laid (t' := s4.toks) (o := .tup xs.reverse) (fun b ob q => Heap.get?_push_of_some _ q) (Nat.le_refl _) ?_, rfl, q _ (I5.hok.fresh (Nat.le_refl _))⟩
    exact ⟨by rw [List.length_reverse]; exact hz, _, r.reverse, IsTup.new _ _⟩
def dRev2 (x : D) : M D := fun g => match x with
  | .lst ds => .ok (.lst ds.reverse) g
  | .tup ds => .ok (.tup ds.reverse) g
  | _ => .bad
theorem de_rev2 {k : Nat} {p1 p2 p3 : Pos} (ha : DE X Wx B O a fa) : DE X Wx B O (.Subscript a (.Slice none none (some (.UnaryOp .USub (.Constant (.int 1) k p1) p2)) p3) pos) (f1 dRev2 fa) := by
  refine pe_mono (pe_revB ha) fun σ H Q ⟨W, ρ, g, S, P⟩ => ?_
  refine tE_then S P fun v H1 d W1 g1 S1 e1 r P1 => ?_
  cases d with
  | lst ds =>
    obtain ⟨p, vs, rfl, f, rr⟩ := r
    exact .inl ⟨p, vs, rfl, SqL.of (S1.wok.sub _ _ f), fun q hq => Post.new P1 S1.wok S1.cells hq ⟨q, _, rfl, upd_same, rels_le (ext_new S1.wok hq).1.le (rels_reverse rr)⟩⟩
  | tup ds =>
    obtain ⟨p, vs, rfl, f, rr⟩ := r
    exact .inr ⟨p, vs, rfl, SqT.of (S1.wok.sub _ _ f), fun q hq => Post.new P1 S1.wok S1.cells hq ⟨q, _, rfl, upd_same, rels_le (ext_new S1.wok hq).1.le (rels_reverse rr)⟩⟩
  | _ => exact P1.elim
structure KD (K : PySem.W.Frag) (w : World) (mg : Str → Option Value) (x : Str) (kvs : List (Str × D)) (away : List Str) : Prop where
  at_ : ∃ d es n, mg x = some (.ref d) ∧ KDict K w d es n ∧ (∀ z dd, kvs.lookup z = some dd → ∃ u v, PySem.W.nsIn K d z = some (some u) ∧ RelV v u ∧ ∀ W, rel K mg W dd v) ∧ ∀ z, away.contains z = true → PySem.W.nsIn K d z = some none
def dNotInK (x : Str) (kvs : List (Str × D)) (away : List Str) (y z : D) : M D := fun g => match y, z with
  | .str k, .glo x' => if x' = x then (match kvs.lookup k with
    | some _ => .ok (.bl false) g
    | none => if away.contains k = true then .ok (.bl true) g else .bad) else .bad
  | _, _ => .bad
def dIxK (x : Str) (kvs : List (Str × D)) (z y : D) : M D := fun g => match z, y with
  | .glo x', .str k => if x' = x then (match kvs.lookup k with
    | some d => .ok d g
    | none => .bad) else .bad
  | _, _ => .bad
theorem KD.glob {x : Str} {kvs : List (Str × D)} {away : List Str} (kd : KD X.K X.w X.mg x kvs away) (hg : Gl X x := by rfl) (hd : (x == ("__debug__" : Str)) = false := by decide) : DE X Wx B O (.Name x pos) (fC (.glo x)) := by
  obtain ⟨d, es, n, hm, _⟩ := kd.at_
  exact de_of (pe_glob (v := .ref d) hg hm rfl hd) fun W => ⟨d, rfl, hm⟩
theorem KD.dop_notIn {x : Str} {kvs : List (Str × D)} {away : List Str} (kd : KD X.K X.w X.mg x kvs away) : DOp X Wx (compareOp .NotIn) (dNotInK x kvs away) := by
  obtain ⟨d, es, n, hm, kk, h1, h2⟩ := kd.at_
  intro pins s σ H W g y z vy vz uy uz Q I w c r1 r2 q1 q2 P
  unfold dNotInK at P
  split at P
  · rename_i k x'
    by_cases hx : x' = x
    · rw [if_pos hx] at P
      subst hx
      obtain ⟨p, rfl, e⟩ := r2
      cases (hm.symm.trans e)
      cases (show vy = _ from r1)
      split at P
      · rename_i dd hl
        obtain ⟨u, v, e1, _⟩ := h1 k dd hl
        exact op_notIn_kd kk pins s σ H _ _ _ _ Q I q1 q2 ⟨k, _, rfl, rfl, e1, Post.done P w c rfl⟩
      · by_cases ha : away.contains k = true
        · rw [if_pos ha] at P
          exact op_notIn_kd kk pins s σ H _ _ _ _ Q I q1 q2 ⟨k, _, rfl, rfl, h2 k ha, Post.done P w c rfl⟩
        · rw [if_neg ha] at P; exact P.elim
    · rw [if_neg hx] at P; exact P.elim
  · exact P.elim
theorem KD.de_ix {x : Str} {kvs : List (Str × D)} {away : List Str} (kd : KD X.K X.w X.mg x kvs away) (ha : DE X Wx B O a fa) (hb : DE X Wx B O b fb) (hs : PlainIx b := by exact fun _ _ => rfl) : DE X Wx B O (.Subscript a b pos) (f2 (dIxK x kvs) fa fb) := by
  obtain ⟨d, es, n, hm, kk, h1, h2⟩ := kd.at_
  refine ⟨fun pins0 s0 σ0 H0 Q0 I0 ⟨W0, ρ0, g0, S0, P0⟩ => ?_⟩
  have ho : DOp X Wx (subscriptTail a b) (dIxK x kvs) := by
    intro pins s σ H W g z y vz vy uz uy Q I w c r2 r1 q2 q1 P
    unfold dIxK at P
    split at P
    · rename_i x' k
      by_cases hx : x' = x
      · rw [if_pos hx] at P
        subst hx
        obtain ⟨p, rfl, e⟩ := r2
        cases (hm.symm.trans e)
        cases (show vy = _ from r1)
        split at P
        · rename_i dd hl
          obtain ⟨u, v, e1, e2, e3⟩ := h1 k dd hl
          exact ix_kdict a b pins s σ H _ _ _ _ Q I q2 q1 ⟨_, k, v, rfl, rfl, ⟨es, n, u, kk.at_, kk.lit, e1, e2⟩, Post.done P w c (e3 W)⟩ (hs _ _)
        · exact P.elim
      · rw [if_neg hx] at P; exact P.elim
    · exact P.elim
  exact Subscript_ (two ho ha hb I0 S0 P0)
end
structure Cal (P : Program) (w : World) (K : PySem.W.Frag) (mg : Str → Option Value) (base : Heap) (k : Nat) (x : Str) (phi : Den) : Prop where
  at_ : ∃ fA fd ps, Dfn P w K mg base k fA fd ps phi ∧ mg x = some (.ref fA) ∧ Binds K fd ps []
theorem Cal.mono {P : Program} {w : World} {K : PySem.W.Frag} {mg : Str → Option Value} {base : Heap} {k j : Nat} {x : Str} {phi : Den} (c : Cal P w K mg base k x phi) (h : k ≤ j) : Cal P w K mg base j x phi :=
  let ⟨fA, fd, ps, d, m, b⟩ := c.at_
  ⟨fA, fd, ps, d.mono h, m, b⟩
section
variable {X : Cx} {Wx : WX} {B : Bs} {O O' : List Nat} {e a b c tg : Expr} {es : List Expr} {f fa fb fc : FE} {ft : FT} {fs : FA} {pos p : Pos} {k : Nat} {x : Str} {phi : Den}
theorem Cal.call (C : Cal X.prog X.w X.K X.mg X.base k x phi) (hr : Room k X.A) (hgd : X.A.guards = some []) (tk : Takes X Wx) (ha : DA X Wx B O (e :: es) fs) (hg : Gl X x := by rfl)
    (hdb : (x == ("__debug__" : Str)) = false := by decide) (he : starEach (e :: es) X.env = (false, eval e X.env) :: starEach es X.env := by rfl) (hpl : (backTo pos (starEach es X.env)).any (·.1) = false := by rfl) : DE X Wx B O (.Call (.Name x p) (e :: es) [] pos) (fCall phi fs) := by
  obtain ⟨fA, fd, ps, d, m, b⟩ := C.at_
  exact de_call d hr hgd tk m b ha hg hdb he hpl
end
section
variable {X : Cx} {Wx : WX} {B : Bs} {O O' : List Nat} {e a b c tg : Expr} {es : List Expr} {f fa fb fc : FE} {ft : FT} {fs : FA} {pos p : Pos} {k : Nat} {x : Str} {phi : Den}
structure KInt (mg : Str → Option Value) (x : Str) (i : Int) : Prop where
  at_ : ∃ t, mg x = some (.int i t)
theorem KInt.de {i : Int} (c : KInt X.mg x i) (hg : Gl X x := by rfl) (hd : (x == ("__debug__" : Str)) = false := by decide) : DE X Wx B O (.Name x pos) (fC (.int i)) := by
  obtain ⟨t, hm⟩ := c.at_
  exact de_of (pe_glob (v := .int i) hg hm ⟨t, rfl⟩ hd) fun W => rfl
/-- a tuple of texts of the top -/
structure KTup (K : PySem.W.Frag) (mg : Str → Option Value) (x : Str) (ws : List Str) : Prop where
  at_ : ∃ a, mg x = some (.ref a) ∧ ∀ F, SqT K F a (ws.map V.str)
theorem rels_strs {K : PySem.W.Frag} {mg : Str → Option Value} {W : Wd} : ∀ (ws : List Str), rels K mg W (ws.map D.str) (ws.map V.str)
  | [] => rfl
  | w :: ws => rels_cons rfl (rels_strs ws)
theorem KTup.de {ws : List Str} (c : KTup X.K X.mg x ws) (hg : Gl X x := by rfl) (hd : (x == ("__debug__" : Str)) = false := by decide) : DE X Wx B O (.Name x pos) (fC (.ktp (ws.map D.str))) := by
  obtain ⟨a, hm, h⟩ := c.at_
  exact de_of (pe_glob (v := .ref a) hg hm rfl hd) fun W => ⟨a, _, rfl, h _, rels_strs ws⟩
theorem de_ty {T : String} (hm : X.mg x = none) (hv : bootBuiltins x = some (.type T)) (hg : Gl X x := by rfl) (hn : x ≠ "__name__" := by decide) (hd : (x == ("__debug__" : Str)) = false := by decide) : DE X Wx B O (.Name x pos) (fC (.ty T)) :=
  de_of (pe_bltn (v := .ty T) hg hm hv rfl hn hd) fun W => rfl
def dIterB (d : D) : M (List D) := fun g => match d with
  | .lst ds => .ok ds g
  | .kst ds => .ok ds g
  | .tup ds => .ok ds g
  | .ktp ds => .ok ds g
  | _ => .bad
theorem di_any (ha : DE X Wx B O a fa) : DI X Wx B O tg a (fIter dIterB fa) := by
  refine ⟨fun pins s σ H Q I ⟨W, ρ, g, S, P⟩ => ?_⟩
  have hl := (di_list (tg := tg) ha).run pins s σ H Q I
  have ht := (di_tup (tg := tg) ha).run pins s σ H Q I
  have P0 : Post (RW X) X.K X.mg (fun c d H' => Wx c d σ H') W H ((fa ρ g).bind dIterB) Q := P
  cases q : fa ρ g with
  | bad => rw [q] at P0; exact P0.elim
  | exc x g' => rw [q] at P0; exact hl ⟨W, ρ, g, S, by show Post _ _ _ _ _ _ ((fa ρ g).bind dIterL) Q; rw [q]; exact P0⟩
  | ok d g' =>
    rw [q] at P0
    cases d with
    | lst ds => exact hl ⟨W, ρ, g, S, by show Post _ _ _ _ _ _ ((fa ρ g).bind dIterL) Q; rw [q]; exact P0⟩
    | kst ds => exact hl ⟨W, ρ, g, S, by show Post _ _ _ _ _ _ ((fa ρ g).bind dIterL) Q; rw [q]; exact P0⟩
    | tup ds => exact ht ⟨W, ρ, g, S, by show Post _ _ _ _ _ _ ((fa ρ g).bind dIterT) Q; rw [q]; exact P0⟩
    | ktp ds => exact ht ⟨W, ρ, g, S, by show Post _ _ _ _ _ _ ((fa ρ g).bind dIterT) Q; rw [q]; exact P0⟩
    | _ => exact P0.elim
theorem pps_cons' {ke v : Expr} {ks : List (Option Expr)} {vs : List Expr} {fk fv : FE} {trs : List (FE × FE)} (hk : DE X Wx B O ke fk) (hv : DE X Wx B O v fv) (hr : PPs X pos ks vs (trs.map fun t => (tE X Wx B O t.1, tE X Wx B O t.2))) :
    PPs X pos (some ke :: ks) (v :: vs) (((fk, fv) :: trs).map fun t => (tE X Wx B O t.1, tE X Wx B O t.2)) := pps_cons hk hv hr
theorem pps_nil' : PPs X pos [] [] (([] : List (FE × FE)).map fun t => (tE X Wx B O t.1, tE X Wx B O t.2)) := pps_nil
structure CalK (P : Program) (w : World) (K : PySem.W.Frag) (mg : Str → Option Value) (base : Heap) (k : Nat) (x : Str) (phi : Den) (ks : List Str) (gD : List D → List D) : Prop where
  at_ : ∃ fA fd ps gg gV, Dfn P w K mg base k fA fd ps phi ∧ mg x = some (.ref fA) ∧ KBn K fd ps 0 ks gg gV ∧ ∀ W ds vs, rels K mg W ds vs → rels K mg W (gD ds) (gV [] vs)
theorem CalK.mono {P : Program} {w : World} {K : PySem.W.Frag} {mg : Str → Option Value} {base : Heap} {k j : Nat} {x : Str} {phi : Den} {ks : List Str} {gD : List D → List D} (c : CalK P w K mg base k x phi ks gD) (h : k ≤ j) : CalK P w K mg base j x phi ks gD :=
  let ⟨fA, fd, ps, gg, gV, d, m, b, r⟩ := c.at_
  ⟨fA, fd, ps, gg, gV, d.mono h, m, b, r⟩
theorem CalK.call {kws : List Keyword} {ks : List Str} {n : Nat} {gD : List D → List D} (C : CalK X.prog X.w X.K X.mg X.base k x phi ks gD) (hr : Room k X.A) (hgd : X.A.guards = some []) (tk : Takes X Wx) (hn : ks.length = n)
    (hkw : DK X Wx B O kws fs) (hg : Gl X x := by rfl) (hall : (backToKw pos (keywordEach kws X.env)).all (·.1.isSome) = true := by rfl) (hks : (backToKw pos (keywordEach kws X.env)).filterMap (·.1) = ks := by rfl) (hdb : (x == ("__debug__" : Str)) = false := by decide)
    (hpl : ((backTo pos (starEach [] X.env)).any (·.1) || (backToKw pos (keywordEach kws X.env)).any (·.1.isNone)) = false := by rfl) : DE X Wx B O (.Call (.Name x p) [] kws pos) (fCall (denK phi n gD) fs) := by
  obtain ⟨fA, fd, ps, gg, gV, d, m, b, r⟩ := C.at_
  exact de_callK0 d hr hgd tk m b hn hkw r hg hall hks hdb hpl
end
def fSlice (fa : FE) (fl fh : FO) : FE := fun ρ => M.bind (fa ρ) fun x => M.bind (fl ρ) fun l => M.bind (fh ρ) fun h => dSlice x l h
theorem pgn {X : Cx} {pos : Pos} (i : Nat) {x : Str} (hN : X.N.Nodup) (hi : X.N[i]? = some x := by rfl) (hx : Loc X.env.scope x := by first | exact .inl rfl | exact .inr rfl) (hf : X.fn x = true ∨ X.env.scope.names.lookup x = some .local := by first | exact .inl rfl | exact .inr rfl | assumption) : PG X (.Name x pos) (gName i) := pg_name hN hi hx hf
section
variable {X : Cx} {Wx : WX} {B : Bs} {O O' : List Nat} {e a b c tg : Expr} {es : List Expr} {f fa fb fc : FE} {ft : FT} {fs : FA} {pos p : Pos} {k : Nat} {x : Str} {phi : Den}
def sPar3 (i j l : Nat) (fs : FA) : FS := fun ρ g => sOfA (fs ρ g) ρ fun ds g' => match ds with
  | [x, y, z] => .nx (((ρ.set i (some x)).set j (some y)).set l (some z)) g'
  | _ => .bad
end
end DL
set_option maxRecDepth 100000
set_option maxHeartbeats 4000000
namespace DL
open PySem PySem.Spec PyProof.Rows L2
/-- a def of the top as the head's print has it -/
structure DefFact (K : PySem.W.Frag) (x : Str) (st : Stmt) : Prop where
  at_ : ∃ (f : Addr) (od an : Option Addr) (sl : Array (Option Value)) (oc kV dc pm cd ct : Value), PySem.W.nsIn K mainGlobals x = some (some (.ref f)) ∧
    K.lookup f = some ⟨oc, od, .func (PySem.W.fnOf x x (defArgs st) (defBody st) (defScope st) .none kV dc pm an cd ct), sl⟩ ∧ PySem.W.codeIn K cd x = true ∧ PySem.W.keepIn K (.ref f) = true
theorem DefFact.mk' {K : PySem.W.Frag} {x : Str} {st : Stmt} {f : Addr} {od an : Option Addr} {sl : Array (Option Value)} {oc kV dc pm cd ct : Value} (a : PySem.W.nsIn K mainGlobals x = some (some (.ref f)))
    (l : K.lookup f = some ⟨oc, od, .func (PySem.W.fnOf x x (defArgs st) (defBody st) (defScope st) .none kV dc pm an cd ct), sl⟩) (c : PySem.W.codeIn K cd x = true) (k : PySem.W.keepIn K (.ref f) = true) : DefFact K x st := ⟨⟨f, od, an, sl, oc, kV, dc, pm, cd, ct, a, l, c, k⟩⟩
structure Got (K : PySem.W.Frag) (mg : Str → Option Value) (x : Str) (st : Stmt) (f : Addr) (fd : FuncData) : Prop where
  fn : Fun K x x st f fd
  mg_ : mg x = some (.ref f)
  fd_ : ∃ (an : Option Addr) (kV dc pm cd ct : Value), fd = PySem.W.fnOf x x (defArgs st) (defBody st) (defScope st) .none kV dc pm an cd ct
theorem DefFact.got {K : PySem.W.Frag} {x : Str} {st : Stmt} {h : Heap} {mg : Str → Option Value} (d : DefFact K x st) (X : K.In h) (G : h.Ns mainGlobals mg) : ∃ f fd, Got K mg x st f fd := by
  obtain ⟨f, od, an, sl, oc, kV, dc, pm, cd, ct, a, l, c, k⟩ := d.at_
  exact ⟨f, _, fun_mk l c k, PySem.W.mg_of X G a, an, kV, dc, pm, cd, ct, rfl⟩
/-- n values go to n names -/
theorem Got.binds {K : PySem.W.Frag} {mg : Str → Option Value} {x : Str} {st : Stmt} {f : Addr} {fd : FuncData} (g : Got K mg x st f fd) {ps : List Str}
    (h : ∀ (an : Option Addr) (kV dc pm cd ct : Value) (us : List Value), us.length = ps.length → bindArgs (PySem.W.fnOf x x (defArgs st) (defBody st) (defScope st) .none kV dc pm an cd ct) ⟨us, []⟩ = pure (ps.zip us)) : Binds K fd ps [] := by
  obtain ⟨an, kV, dc, pm, cd, ct, rfl⟩ := g.fd_
  exact Binds.all fun us hl => h an kV dc pm cd ct us hl
theorem Got.cal {P : Program} {w : World} {K : PySem.W.Frag} {mg : Str → Option Value} {base : Heap} {k : Nat} {x : Str} {st : Stmt} {f : Addr} {fd : FuncData} {phi : Den} {ps : List Str} (g : Got K mg x st f fd) (d : Dfn P w K mg base k f fd ps phi) (b : Binds K fd ps []) : Cal P w K mg base k x phi :=
  ⟨⟨f, fd, ps, d, g.mg_, b⟩⟩
theorem kint_of {K : PySem.W.Frag} {h : Heap} {mg : Str → Option Value} {x : Str} {i : Int} {t : Tok} (X : K.In h) (G : h.Ns mainGlobals mg) (a : PySem.W.nsIn K mainGlobals x = some (some (.int i t))) : KInt mg x i := ⟨⟨t, PySem.W.mg_of X G a⟩⟩
theorem ktup_of {K : PySem.W.Frag} {h : Heap} {mg : Str → Option Value} {x : Str} {ws : List Str} {a : Addr} {o : Obj} {its : Array Value} {n : Nat} (X : K.In h) (G : h.Ns mainGlobals mg) (e : PySem.W.nsIn K mainGlobals x = some (some (.ref a)))
    (l : K.lookup a = some o) (c : o.cls = .type "tuple") (d : o.data = .seq its n) (hz : its.size ≤ sizeLine) (r : Vals (ws.map V.str) its.toList) : KTup K mg x ws := ⟨⟨a, PySem.W.mg_of X G e, fun F => .inr ⟨o, its, n, l, c, d, hz, r⟩⟩⟩
theorem none_of {K : PySem.W.Frag} {h : Heap} {mg : Str → Option Value} {x : Str} (X : K.In h) (G : h.Ns mainGlobals mg) (e : PySem.W.nsIn K mainGlobals x = some none) : mg x = none := PySem.W.mg_none_of X G e
theorem rels_ints {K : PySem.W.Frag} {mg : Str → Option Value} {W : Wd} : ∀ (ns : List Int), rels K mg W (ns.map D.int) (ns.map V.int)
  | [] => rfl
  | n :: ns => rels_cons rfl (rels_ints ns)
/-- the script as data -/
abbrev scriptD (ns : List Int) : D := .kst (ns.map D.int)
theorem sp_law {K : PySem.W.Frag} {mg : Str → Option Value} {phi : Den} {H : Hp} {a : Addr} {ns : List Int} {g : Gs} (h : phi [scriptD ns] [] = .ok (.bl true) g) (hS : SqL K H a (ns.map V.int)) :
    spD K mg phi [.ref a] H (fun v _ => v = .bl true) E0 := by
  refine ⟨⟨H, []⟩, [scriptD ns], [], ⟨fun _ _ q => q, .nil, fun _ q => absurd q (by simp)⟩, rels_one ⟨a, _, rfl, hS, rels_ints ns⟩, ⟨rfl, fun i p c q => absurd q (by simp)⟩, ?_⟩
  rw [h]
  exact fun v W1 H1 e w c r => r
theorem walk_ofD {l : PySem.W.OpenLaw} {n k : Nat} {q : Program} {loose : List Str} {XP : (Str → Option Value) → Heap → Prop} {YP : World → Heap → Prop} {d : DefRec} {K : Params → PySem.W.Frag} {x : Str} (phi : Den)
    (hn : l.most = some n) (hn2 : n ≤ sizeLine) (hdf : d.params.defaults = []) (hr : Room k callerA) (hY : ∀ (w : World) (h : Heap), YP w h → (K w.params).In h)
    (htrue : ∀ ns : List Int, ns.length ≤ n → (∀ z ∈ ns, Builtin.Int.intBits z ≤ 1048576) → ∃ g, phi [scriptD ns] [] = .ok (.bl true) g)
    (F : ∀ (w : World) (mg : Str → Option Value) (fa : Addr) (h : Heap), (K w.params).In h → h.Ns mainGlobals mg → mg d.name = some (.ref fa) →
      ∃ fd : FuncData, (∀ (s : Shared) (u : Value), BindsTo s fd ⟨[u], []⟩ [(x, u)]) ∧ ∀ base : Heap, (K w.params).In base → base.Ns mainGlobals mg → FnG l.prog w (K w.params) mg base k fa fd [x] (spD (K w.params) mg phi)) :
    PySem.W.WalkO q loose XP YP l.row.toRowW d [] (fun f vs => PySem.call f vs) :=
  walk_ofG (sp := fun w mg => spD (K w.params) mg phi) hn hn2 hdf hr hY F fun w mg H a ns hl hb _ hS => let ⟨g, e⟩ := htrue ns hl hb; sp_law e hS
theorem kd3_of {K : PySem.W.Frag} {w : World} {h : Heap} {mg : Str → Option Value} {x : Str} {d : Addr} {es : Array DictEntry} {n : Nat} {a1 a2 a3 : Str} {i1 i2 i3 : Int} {t1 t2 t3 : Tok} (X : K.In h) (G : h.Ns mainGlobals mg) (e : PySem.W.nsIn K mainGlobals x = some (some (.ref d)))
    (l : K.lookup d = some ⟨.type "dict", none, .dict es n, #[]⟩) (k : PySem.W.KeysLit w.params es.toList) (low : (d == sysModules) = false)
    (f1 : PySem.W.nsIn K d a1 = some (some (.int i1 t1))) (f2 : PySem.W.nsIn K d a2 = some (some (.int i2 t2))) (f3 : PySem.W.nsIn K d a3 = some (some (.int i3 t3))) : KD K w mg x [(a1, .int i1), (a2, .int i2), (a3, .int i3)] [] := by
  refine ⟨⟨d, es, n, PySem.W.mg_of X G e, ⟨l, k, low⟩, fun z dd hz => ?_, fun z hz => absurd hz (by simp)⟩⟩
  rw [List.lookup_cons] at hz
  split at hz
  · rename_i q
    cases hz
    rw [eq_of_beq q]
    exact ⟨_, .int i1, f1, ⟨t1, rfl⟩, fun W => rfl⟩
  · rw [List.lookup_cons] at hz
    split at hz
    · rename_i q
      cases hz
      rw [eq_of_beq q]
      exact ⟨_, .int i2, f2, ⟨t2, rfl⟩, fun W => rfl⟩
    · rw [List.lookup_cons] at hz
      split at hz
      · rename_i q
        cases hz
        rw [eq_of_beq q]
        exact ⟨_, .int i3, f3, ⟨t3, rfl⟩, fun W => rfl⟩
      · cases hz
def sw2 {α : Type} : List α → List α
  | [a, b] => [b, a]
  | _ => []
theorem calk2 {zs : List V} {ws : List Value} (r : Vals zs ws) : Vals (sw2 zs) (sw2 ws) := by
  cases r with
  | nil => exact .nil
  | cons h1 t => cases t with
    | nil => exact .nil
    | cons h2 t => cases t with
      | nil => exact .cons h2 (.cons h1 .nil)
      | cons _ _ => exact .nil
theorem calkd2 {K : PySem.W.Frag} {mg : Str → Option Value} {W : Wd} : ∀ {ds : List D} {vs : List V}, rels K mg W ds vs → rels K mg W (sw2 ds) (sw2 vs)
  | [], _, r => by cases (show _ = _ from r); rfl
  | [_], _, r => by obtain ⟨v, ws, rfl, _, r⟩ := r; cases (show _ = _ from r); rfl
  | [_, _], _, r => by obtain ⟨v, ws, rfl, r1, v2, ws2, rfl, r2, r⟩ := r; cases (show _ = _ from r); exact rels_cons r2 (rels_one r1)
  | _ :: _ :: _ :: _, _, r => by obtain ⟨v, ws, rfl, r1, v2, ws2, rfl, r2, v3, ws3, rfl, _⟩ := r; rfl
end DL
set_option maxRecDepth 100000
set_option maxHeartbeats 4000000
namespace DL
open PySem PySem.Spec PyProof.Rows L2
mutual
def okC (n : Nat) : D → Bool
  | .tup ds => okCs n ds
  | .ktp ds => okCs n ds
  | .lst ds => okCs n ds
  | .kst ds => okCs n ds
  | .dik kvs => okCK n kvs
  | .dit kvs => okCT n kvs
  | .ins _ fs => okCF n fs
  | .cell i => decide (i < n)
  | _ => true
def okCs (n : Nat) : List D → Bool
  | [] => true
  | d :: ds => okC n d && okCs n ds
def okCK (n : Nat) : List (Key × D) → Bool
  | [] => true
  | (_, d) :: ds => okC n d && okCK n ds
def okCT (n : Nat) : List (List Key × D) → Bool
  | [] => true
  | (_, d) :: ds => okC n d && okCT n ds
def okCF (n : Nat) : List (Str × D) → Bool
  | [] => true
  | (_, d) :: ds => okC n d && okCF n ds
end
section
variable {K : PySem.W.Frag} {mg : Str → Option Value} {W W' : Wd} {n : Nat}
mutual
theorem rel_okC : ∀ {d : D} {v : V}, rel K mg W d v → okC W.th.length d = true
  | .non, _, _ => by rw [okC]; all_goals (intros; exact D.noConfusion ‹_›)
  | .bl _, _, _ => by rw [okC]; all_goals (intros; exact D.noConfusion ‹_›)
  | .int _, _, _ => by rw [okC]; all_goals (intros; exact D.noConfusion ‹_›)
  | .str _, _, _ => by rw [okC]; all_goals (intros; exact D.noConfusion ‹_›)
  | .ty _, _, _ => by rw [okC]; all_goals (intros; exact D.noConfusion ‹_›)
  | .byv _, _, _ => by rw [okC]; all_goals (intros; exact D.noConfusion ‹_›)
  | .glo _, _, _ => by rw [okC]; all_goals (intros; exact D.noConfusion ‹_›)
  | .tup ds, _, h => by
    obtain ⟨p, vs, e, s, r⟩ := h
    rw [okC]; exact rels_okC r
  | .ktp ds, _, h => by
    obtain ⟨p, vs, e, s, r⟩ := h
    rw [okC]; exact rels_okC r
  | .lst ds, _, h => by
    obtain ⟨p, vs, e, s, r⟩ := h
    rw [okC]; exact rels_okC r
  | .kst ds, _, h => by
    obtain ⟨p, vs, e, s, r⟩ := h
    rw [okC]; exact rels_okC r
  | .dik kvs, _, h => by
    obtain ⟨p, vs, e, s, r⟩ := h
    rw [okC]; exact relK_okC r
  | .dit kvs, _, h => by
    obtain ⟨p, vs, e, s, r⟩ := h
    rw [okC]; exact relT_okC r
  | .ins c fs, _, h => by
    obtain ⟨p, C, dx, vs, e, m, s, r⟩ := h
    rw [okC]; exact relF_okC r
  | .cell i, _, h => by
    obtain ⟨p, e, s⟩ := h
    rw [okC]
    exact decide_eq_true (List.getElem?_eq_some_iff.mp s).1
theorem rels_okC : ∀ {ds : List D} {vs : List V}, rels K mg W ds vs → okCs W.th.length ds = true
  | [], _, h => by rw [okCs]
  | d :: ds, _, h => by
    obtain ⟨v, ws, e, r, s⟩ := h
    rw [okCs, rel_okC r, rels_okC s]; rfl
theorem relK_okC : ∀ {ds : List (Key × D)} {vs : List (Key × V)}, relK K mg W ds vs → okCK W.th.length ds = true
  | [], _, h => by rw [okCK]
  | (k, d) :: ds, _, h => by
    obtain ⟨v, ws, e, r, s⟩ := h
    rw [okCK, rel_okC r, relK_okC s]; rfl
theorem relT_okC : ∀ {ds : List (List Key × D)} {vs : List (List Key × V)}, relT K mg W ds vs → okCT W.th.length ds = true
  | [], _, h => by rw [okCT]
  | (k, d) :: ds, _, h => by
    obtain ⟨v, ws, e, r, s⟩ := h
    rw [okCT, rel_okC r, relT_okC s]; rfl
theorem relF_okC : ∀ {ds : List (Str × D)} {vs : List (Str × V)}, relF K mg W ds vs → okCF W.th.length ds = true
  | [], _, h => by rw [okCF]
  | (k, d) :: ds, _, h => by
    obtain ⟨v, ws, e, r, s⟩ := h
    rw [okCF, rel_okC r, relF_okC s]; rfl
end
/-- from one world to one that knows as much, and the same first cells -/
structure LeN (n : Nat) (W W' : Wd) : Prop where
  F : ∀ a o, W.F a = some o → W'.F a = some o
  th : ∀ i, i < n → ∀ p, W.th[i]? = some p → W'.th[i]? = some p
mutual
theorem rel_leN (le : LeN n W W') : ∀ {d : D} {v : V}, okC n d = true → rel K mg W d v → rel K mg W' d v
  | .non, _, _, h => h
  | .bl _, _, _, h => h
  | .int _, _, _, h => h
  | .str _, _, _, h => h
  | .ty _, _, _, h => h
  | .byv _, _, _, h => h
  | .glo _, _, _, h => h
  | .tup ds, _, o, h => by
    obtain ⟨p, vs, e, s, r⟩ := h
    rw [okC] at o
    exact ⟨p, vs, e, le.F _ _ s, rels_leN le o r⟩
  | .ktp ds, _, o, h => by
    obtain ⟨p, vs, e, s, r⟩ := h
    rw [okC] at o
    exact ⟨p, vs, e, sqT_le le.F s, rels_leN le o r⟩
  | .lst ds, _, o, h => by
    obtain ⟨p, vs, e, s, r⟩ := h
    rw [okC] at o
    exact ⟨p, vs, e, le.F _ _ s, rels_leN le o r⟩
  | .kst ds, _, o, h => by
    obtain ⟨p, vs, e, s, r⟩ := h
    rw [okC] at o
    exact ⟨p, vs, e, sqL_le le.F s, rels_leN le o r⟩
  | .dik kvs, _, o, h => by
    obtain ⟨p, vs, e, s, r⟩ := h
    rw [okC] at o
    exact ⟨p, vs, e, le.F _ _ s, relK_leN le o r⟩
  | .dit kvs, _, o, h => by
    obtain ⟨p, vs, e, s, r⟩ := h
    rw [okC] at o
    exact ⟨p, vs, e, le.F _ _ s, relT_leN le o r⟩
  | .ins c fs, _, o, h => by
    obtain ⟨p, C, dx, vs, e, m, s, r⟩ := h
    rw [okC] at o
    exact ⟨p, C, dx, vs, e, m, le.F _ _ s, relF_leN le o r⟩
  | .cell i, _, o, h => by
    obtain ⟨p, e, s⟩ := h
    rw [okC] at o
    exact ⟨p, e, le.th i (of_decide_eq_true o) p s⟩
theorem rels_leN (le : LeN n W W') : ∀ {ds : List D} {vs : List V}, okCs n ds = true → rels K mg W ds vs → rels K mg W' ds vs
  | [], _, _, h => h
  | d :: ds, _, o, h => by
    obtain ⟨v, ws, e, r, s⟩ := h
    rw [okCs, Bool.and_eq_true] at o
    exact ⟨v, ws, e, rel_leN le o.1 r, rels_leN le o.2 s⟩
theorem relK_leN (le : LeN n W W') : ∀ {ds : List (Key × D)} {vs : List (Key × V)}, okCK n ds = true → relK K mg W ds vs → relK K mg W' ds vs
  | [], _, _, h => h
  | (k, d) :: ds, _, o, h => by
    obtain ⟨v, ws, e, r, s⟩ := h
    rw [okCK, Bool.and_eq_true] at o
    exact ⟨v, ws, e, rel_leN le o.1 r, relK_leN le o.2 s⟩
theorem relT_leN (le : LeN n W W') : ∀ {ds : List (List Key × D)} {vs : List (List Key × V)}, okCT n ds = true → relT K mg W ds vs → relT K mg W' ds vs
  | [], _, _, h => h
  | (k, d) :: ds, _, o, h => by
    obtain ⟨v, ws, e, r, s⟩ := h
    rw [okCT, Bool.and_eq_true] at o
    exact ⟨v, ws, e, rel_leN le o.1 r, relT_leN le o.2 s⟩
theorem relF_leN (le : LeN n W W') : ∀ {ds : List (Str × D)} {vs : List (Str × V)}, okCF n ds = true → relF K mg W ds vs → relF K mg W' ds vs
  | [], _, _, h => h
  | (k, d) :: ds, _, o, h => by
    obtain ⟨v, ws, e, r, s⟩ := h
    rw [okCF, Bool.and_eq_true] at o
    exact ⟨v, ws, e, rel_leN le o.1 r, relF_leN le o.2 s⟩
end
end
structure ClsF (K : PySem.W.Frag) (mg : Str → Option Value) (c : Str) : Prop where
  at_ : ∃ C, mg c = some (.ref C) ∧ Cls K C
/-- f is an attribute of the instances, of no class -/
structure FldF (K : PySem.W.Frag) (mg : Str → Option Value) (c f : Str) : Prop where
  at_ : ∃ C, mg c = some (.ref C) ∧ Cls K C ∧ NoAttr K C f
structure Mkr (P : Program) (w : World) (K : PySem.W.Frag) (mg : Str → Option Value) (base : Heap) (k : Nat) (c : Str) (phi : Den) : Prop where
  at_ : ∃ C f fd ps, mg c = some (.ref C) ∧ Mk K C f ∧ Dfn P w K mg base k f fd ps phi ∧ Binds K fd ps []
structure Prp (P : Program) (w : World) (K : PySem.W.Frag) (mg : Str → Option Value) (base : Heap) (k : Nat) (c f : Str) (phi : Den) : Prop where
  at_ : ∃ C p g fd ps, mg c = some (.ref C) ∧ Cls K C ∧ PropOf K C f p g ∧ Dfn P w K mg base k g fd ps phi ∧ Binds K fd ps []
structure Mtd (P : Program) (w : World) (K : PySem.W.Frag) (mg : Str → Option Value) (base : Heap) (k : Nat) (c m : Str) (phi : Den) : Prop where
  at_ : ∃ C f fd ps, mg c = some (.ref C) ∧ Cls K C ∧ Meth K C m f ∧ Dfn P w K mg base k f fd ps phi ∧ Binds K fd ps []
section
variable {P : Program} {w : World} {K : PySem.W.Frag} {mg : Str → Option Value} {base : Heap} {k j : Nat} {c m : Str} {phi : Den}
theorem Mkr.mono (M : Mkr P w K mg base k c phi) (h : k ≤ j) : Mkr P w K mg base j c phi := let ⟨C, f, fd, ps, a, b, d, e⟩ := M.at_; ⟨C, f, fd, ps, a, b, d.mono h, e⟩
theorem Prp.mono (M : Prp P w K mg base k c m phi) (h : k ≤ j) : Prp P w K mg base j c m phi := let ⟨C, p, f, fd, ps, a, b, q, d, e⟩ := M.at_; ⟨C, p, f, fd, ps, a, b, q, d.mono h, e⟩
theorem Mtd.mono (M : Mtd P w K mg base k c m phi) (h : k ≤ j) : Mtd P w K mg base j c m phi := let ⟨C, f, fd, ps, a, b, q, d, e⟩ := M.at_; ⟨C, f, fd, ps, a, b, q, d.mono h, e⟩
end
section
variable {X : Cx} {Wx : WX} {B : Bs} {O O' : List Nat} {e o a b tg : Expr} {es : List Expr} {fe fo fa fb : FE} {ft : FT} {fs : FA} {pos p apos : Pos} {k : Nat} {x c f m : Str} {phi : Den}
/-- the fields of an instance of a class -/
def insOf (c : Str) (x : D) (g : Gs) : Option (List (Str × D)) := match x with
  | .ins c' fs => if c' = c then some fs else none
  | .cell n => (match g[n]? with
    | some (.ins c' fs) => if c' = c then some fs else none
    | _ => none)
  | _ => none
theorem insOf_rel {W : Wd} {H : Hp} {g : Gs} {d : D} {v : V} {fs : List (Str × D)} {C : Addr} (w : WOk W H) (cl : GOk X.K X.mg W H g) (r : rel X.K X.mg W d v) (h : insOf c d g = some fs) (hm : X.mg c = some (.ref C)) :
    ∃ q dx ws, v = .ref q ∧ H q = some (.ins C dx ws) ∧ relF X.K X.mg W fs ws := by
  unfold insOf at h
  cases d with
  | ins c' l =>
    dsimp only at h
    by_cases hc : c' = c
    · rw [if_pos hc] at h
      cases h
      obtain ⟨q, C', dx, ws, rfl, m, s, rr⟩ := r
      rw [hc, hm] at m
      cases m
      exact ⟨q, dx, ws, rfl, w.sub _ _ s, rr⟩
    · rw [if_neg hc] at h; cases h
  | cell n =>
    dsimp only at h
    obtain ⟨q, rfl, hp⟩ := r
    cases h3 : g[n]? with
    | none => rw [h3] at h; cases h
    | some co =>
      rw [h3] at h
      cases co with
      | ins c' l =>
        dsimp only at h
        by_cases hc : c' = c
        · rw [if_pos hc] at h
          cases h
          obtain ⟨C', dx, ws, m, s, rr⟩ := cl.at_ n q _ hp h3
          rw [hc, hm] at m
          cases m
          exact ⟨q, dx, ws, rfl, s, rr⟩
        · rw [if_neg hc] at h; cases h
      | _ => cases h
  | _ => cases h
/-- o.f -/
def dFld (c f : Str) : D → M D := fun x g => match insOf c x g with
  | some fs => (match fs.lookup f with
    | some d => .ok d g
    | none => .bad)
  | none => .bad
theorem de_fld (he : DE X Wx B O e fe) (F : FldF X.K X.mg c f) (hb : attributeBase e f X.env (eval e X.env) = eval e X.env := by rfl) : DE X Wx B O (.Attribute e f pos) (f1 (dFld c f) fe) := by
  obtain ⟨C, hm, cl, na⟩ := F.at_
  refine pe_mono (pe_fld he hb) fun σ H Q ⟨W, ρ, g, S, P⟩ => ?_
  refine tE_then S P fun v H1 d W1 g1 S1 e1 r P1 => ?_
  unfold dFld at P1
  cases h : insOf c d g1 with
  | none => rw [h] at P1; exact P1.elim
  | some fs =>
    rw [h] at P1
    dsimp only at P1
    obtain ⟨q, dx, ws, rfl, hH, rr⟩ := insOf_rel S1.wok S1.cells r h hm
    cases h2 : fs.lookup f with
    | none => rw [h2] at P1; exact P1.elim
    | some d2 =>
      rw [h2] at P1
      obtain ⟨v2, l2, r2⟩ := relF_lookup rr h2
      exact ⟨q, C, dx, ws, v2, rfl, hH, cl, na, l2, Post.done P1 S1.wok S1.cells r2⟩
/-- o.f = e, o a cell -/
def sFld (c f : Str) (fo fv : FE) : FS := fun ρ g => sOf (fv ρ g) ρ fun d g1 => sOf (fo ρ g1) ρ fun ob g2 => match ob with
  | .cell n => (match g2[n]? with
    | some (.ins c' fs) => if c' = c ∧ fs.length < 1000 then .nx ρ (g2.set n (.ins c (putD f d fs))) else .bad
    | _ => .bad)
  | _ => .bad
theorem ds_fld {value : Expr} {fv : FE} {pos' : Pos} (ho : DE X Wx B O o fo) (hv : DE X Wx B O value fv) (F : FldF X.K X.mg c f) (hs : swapsWith value (some (.Attribute o f pos')) pos.line X.env = pure false := by rfl) :
    DS X Wx B O O (.Assign [.Attribute o f pos'] value pos) (sFld c f fo fv) := by
  obtain ⟨C, hm, cl, na⟩ := F.at_
  refine ps_mono (ps_fld ho hv hs) fun D σ H ⟨W, ρ, g, S, P⟩ => sx S P fun v H1 d W1 g1 S1 e1 r P1 => ?_
  refine sx (O' := O) (D := D) S1 P1 fun v2 H2 ob W2 g2 S2 e2 r2 P2 => ?_
  cases ob with
  | cell n =>
    dsimp only at P2
    obtain ⟨q, rfl, hp⟩ := r2
    cases h3 : g2[n]? with
    | none => rw [h3] at P2; exact P2.elim
    | some co =>
      rw [h3] at P2
      cases co with
      | ins c' l =>
        dsimp only at P2
        by_cases hc : c' = c ∧ l.length < 1000
        · rw [if_pos hc] at P2
          obtain ⟨C', dx, ws, m', s, rr⟩ := S2.cells.at_ n q _ hp h3
          have m2 := m'
          rw [hc.1, hm] at m'
          cases m'
          refine ⟨q, C, dx, ws, rfl, s, cl, na, by rw [relF_length rr]; exact hc.2, P2 W2 σ _ (WLe.refl _) (S2.cell hp ⟨C, dx, _, by rw [← hc.1]; exact m2, upd_same, relF_put (rel_le e2.le r) rr⟩)⟩
        · rw [if_neg hc] at P2; exact P2.elim
      | _ => exact P2.elim
  | _ => exact P2.elim
theorem in1_guards {A : Around} (h : A.guards = some []) : A.in1.guards = some [] := h
theorem getprop_G {pins : List (Addr × Obj)} {σ : L2.St} {H : Hp} {s : Shared} {Q : VK} {b : Bool} {C p g a dx : Addr} {fs : List (Str × V)} {fd : FuncData} {ps : List Str} {sp : Sp} (I : Inv X pins σ H s) (ea : H a = some (.ins C dx fs)) (cl : Cls X.K C) (hp : PropOf X.K C f p g)
    (F : FnG X.prog X.w X.K X.mg X.base k g fd ps sp) (hr : Room (k + 1) X.A) (hgd : X.A.guards = some []) (hb : Binds X.K fd ps []) (h : sp [.ref a] H Q E0) :
    wpAny (model X.prog X.w) X.A (getAttr (.ref a) f b) (EP X pins σ Q) X.xe s := by
  obtain ⟨mA, O, _, _, _, _⟩ := ins_get I.hok ea
  obtain ⟨od, J, _⟩ := O.look
  obtain ⟨rest, hrec⟩ := hp.rec_
  have I1 := I.tok (s.toks + 1)
  have hl : ([Value.ref a] ++ ([] : List Value)).length = ps.length := F.len _ _ _ _ h
  have hc : (PySem.W.clsIn X.K C).isSome = true := by
    obtain ⟨cd, hc, _⟩ := PySem.W.any_some cl.hd
    rw [hc]
    rfl
  refine PySem.W.get_bind I.kIn J (PySem.W.plainGet_of (cl.get f)).1 (PySem.W.findObj_data hc hp.at_ hp.get hp.tak) (PySem.W.plainGet_of (cl.get f)).2 (wpAny_call (PySem.W.prop_get (s := { s with toks := s.toks + 1 }) I.kIn hrec ?_))
  refine codeAny_mono (F.run X.A.in1 X.stack { s with toks := s.toks + 1 } H ⟨[.ref a], []⟩ [.ref a] [.ref a] Q E0 hr.in1 (in1_guards hgd) I1.env0.in1 (hb _ [.ref a] I1.kIn hl) (.cons rfl .nil) h) fun r s' hq => ?_
  cases r with
  | error er => obtain ⟨_, _, _, _, _, _, _, _, _, _, _, _, z⟩ := (show L2.CX X.prog X.w X.stack H _ E0 er s' from hq); exact z.elim
  | ok fl =>
    cases fl with
    | ret u =>
      obtain ⟨v, H', I3, rv, q3⟩ := I1.after hq
      show wpAny _ _ (handedOut u) _ _ _
      rw [PySem.W.handedOut_of (handed_of rv)]
      exact wpAny_pure ⟨v, H', I3, rv, q3⟩
    | next => exact False.elim hq
    | brk => exact False.elim hq
    | cont => exact False.elim hq
/-- o.f, f a property (whose def raises nothing) -/
def dProp (c : Str) (phi : Den) : D → M D := fun x g => match insOf c x g with
  | some _ => (match phi [x] g with
    | .ok d g' => .ok d g'
    | _ => .bad)
  | none => .bad
theorem Prp.de (R : Prp X.prog X.w X.K X.mg X.base k c f phi) (hr : Room (k + 1) X.A) (hgd : X.A.guards = some []) (he : DE X Wx B O e fe) (hb : attributeBase e f X.env (eval e X.env) = eval e X.env := by rfl) :
    DE X Wx B O (.Attribute e f pos) (f1 (dProp c phi) fe) := by
  obtain ⟨C, p, g, fd, ps, hm, cl, hp, F, bd⟩ := R.at_
  refine ⟨fun pins s σ H Q I ⟨W, ρ, g0, S, P⟩ => ?_⟩
  refine attr_of hb (thn (he.run pins s σ H _ I ⟨W, ρ, g0, S, Post.bind P⟩) fun u s1 ⟨x, H1, I1, rx, d, W1, g1, e1, w1, c1, r1, P1⟩ => ?_)
  unfold dProp at P1
  cases h : insOf c d g1 with
  | none => rw [h] at P1; exact P1.elim
  | some fs =>
    rw [h] at P1
    dsimp only at P1
    obtain ⟨q, dx, ws, rfl, hH, rr⟩ := insOf_rel w1 c1 r1 h hm
    obtain rfl : u = Value.ref q := rx
    refine getprop_G I1 hH cl hp F.ok hr hgd bd ⟨W1, [d], g1, w1, rels_one r1, c1, ?_⟩
    cases h2 : phi [d] g1 with
    | ok d2 g2 => rw [h2] at P1; exact P1
    | exc y g2 => rw [h2] at P1; exact P1.elim
    | bad => rw [h2] at P1; exact P1.elim
/-- o.m(..) -/
def fMeth (c m : Str) (phi : Den) (fo : FE) (fs : FA) : FE := fun ρ => M.bind (fo ρ) fun ob => fun g => match insOf c ob g with
  | some l => (match l.lookup m with
    | none => M.bind (fs ρ) (fun ds => phi (ob :: ds)) g
    | some _ => .bad)
  | none => .bad
theorem Mtd.de {pl : Sem Bool} (R : Mtd X.prog X.w X.K X.mg X.base k c m phi) (hr : Room k X.A) (hgd : X.A.guards = some []) (tk : Takes X Wx) (ho : DE X Wx B O o fo) (ha : DA X Wx B O (e :: es) fs)
    (hst : starEach (e :: es) X.env = (false, eval e X.env) :: starEach es X.env := by rfl) (hpl : (backTo pos (starEach es X.env)).any (·.1) = false := by rfl)
    (ht : eval (.Call (.Attribute o m apos) (e :: es) [] pos) X.env = (do
      let ov ← eval o X.env
      standAt apos.atName
      let (f, first) ← holding [ov] (getMethod ov m pl)
      callWith pos f first (backTo pos (starEach (e :: es) X.env)) (backToKw pos (keywordEach [] X.env))) := by rfl) :
    DE X Wx B O (.Call (.Attribute o m apos) (e :: es) [] pos) (fMeth c m phi fo fs) := by
  obtain ⟨C, f, fd, ps, hm, cl, hp, F, bd⟩ := R.at_
  refine ⟨fun pins s σ H Q I ⟨W, ρ, g0, S, P⟩ => ?_⟩
  refine PySem.W.methodCall_KW (pl := pl) (thn (ho.run pins s σ H _ I ⟨W, ρ, g0, S, Post.bind P⟩) fun u s1 ⟨x, H1, I1, rx, d, W1, g1, e1, w1, c1, r1, P1⟩ => ?_) ht
  cases h : insOf c d g1 with
  | none => rw [h] at P1; exact P1.elim
  | some l =>
    rw [h] at P1
    dsimp only at P1
    obtain ⟨q, dx, ws, rfl, hH, rr⟩ := insOf_rel w1 c1 r1 h hm
    obtain rfl : u = Value.ref q := rx
    cases h2 : l.lookup m with
    | some d2 => rw [h2] at P1; exact P1.elim
    | none =>
      rw [h2] at P1
      dsimp only at P1
      refine getmeth_ok I1 hH cl hp (relF_none rr h2) ?_
      refine PySem.W.callWith_K (first := [.ref q]) (h₀ := X.base) I1.ok.mod.kin hp.kp (thn (ha.run pos pins s1 σ H1 _ I1 ⟨W1, ρ, g1, S.ext' e1 w1 c1, Post.bind P1⟩) fun us s2 ⟨vs, H2, I2, r, ds, W2, g2, e2, w2, c2, rd, P2⟩ => ⟨I2.kIn, ?_⟩) hst hpl
      exact run_G (dvs := []) (us := .ref q :: us) (vs := .ref q :: vs) F.ok hr hgd bd .nil (passAt tk σ) I2 (.cons rfl r) (by rw [List.append_nil]; exact ⟨W2, d :: ds, g2, w2, rels_cons (rel_le e2.le r1) rd, c2, P2⟩)
theorem make_guards {A : Around} {C : Addr} {us : List Value} {kw : List (Str × Value)} (h : A.guards = some []) : (A.under (.builtin "type.__call__" ⟨.ref C :: us, kw⟩)).guards = some [] := by
  have e : (A.under (.builtin "type.__call__" ⟨.ref C :: us, kw⟩)).guards = A.guards := by
    first | rfl | (have hg : Code.isGuard (.builtin "type.__call__" ⟨.ref C :: us, kw⟩) = false := by decide +kernel
                   simp [Around.under, Code.guards, hg, pushGuards])
  rw [e, h]
theorem run_makeG {pins : List (Addr × Obj)} {σ : L2.St} {H : Hp} {s : Shared} {Q : VK} {us : List Value} {vs : List V} {C : Addr} {fd : FuncData} {ps : List Str} {sp : Sp} {E : XK} {fi : Addr} (M : Mk X.K C fi) (F : FnG X.prog X.w X.K X.mg X.base k fi fd ps sp) (hr : Room (k + 1) X.A) (hgd : X.A.guards = some []) (hb : Binds X.K fd ps [])
    (hx : PassesAt (L2.CX X.prog X.w) X σ E) (I : Inv X pins σ H s) (r : Vals vs us)
    (h : ∀ x dx, H x = none → H dx = none → dx ≠ x → sp (.ref x :: vs) (upd (upd H dx (.own x)) x (.ins C dx [])) (fun v H2 => v = .non ∧ Q (.ref x) H2) E) :
    wpAny (model X.prog X.w) X.A (call (.ref C) us) (EP X pins σ Q) X.xe s := by
  have hq := h (s.heap.objs.size + 1) s.heap.objs.size (I.hok.fresh (Nat.le_succ _)) (I.hok.fresh (Nat.le_refl _)) (Nat.ne_of_lt (Nat.lt_succ_self _))
  have I2 := Inv.made (C := C) I
  have r2 : Vals (V.ref (s.heap.objs.size + 1) :: vs) (Value.ref (s.heap.objs.size + 1) :: us) := .cons rfl r
  have hl : ((Value.ref (s.heap.objs.size + 1) :: us) ++ ([] : List Value)).length = ps.length := by
    have e := r2.length
    rw [F.len _ _ _ _ hq] at e
    rw [List.append_nil]
    exact e.symm
  have hb2 := hb { s with heap := (s.heap.push PySem.W.emptyDict).push (PySem.W.instObj C s.heap.objs.size) } (Value.ref (s.heap.objs.size + 1) :: us) I2.kIn hl
  rw [List.append_nil] at hb2
  refine wpAny_call (make_map (f := fi) I.kIn M.makes M.init (beq_iff_eq.mp M.fn) (codeAny_mono (F.run _ X.stack _ _ ⟨Value.ref (s.heap.objs.size + 1) :: us, []⟩ (Value.ref (s.heap.objs.size + 1) :: us) _ _ E (hr.make C us []) (make_guards hgd)
    (I2.env0.make C us []) hb2 r2 hq) fun r s' hq' => ?_))
  cases r with
  | error e => exact hx pins _ _ e s' I2 hq'
  | ok fl =>
    cases fl with
    | ret u =>
      obtain ⟨v, H', I3, rv, ev, q3⟩ := I2.after hq'
      subst ev
      exact ⟨rv, ⟨V.ref (s.heap.objs.size + 1), H', I3, rfl, q3⟩⟩
    | next => exact False.elim hq'
    | brk => exact False.elim hq'
    | cont => exact False.elim hq'
theorem ext_hid {K : PySem.W.Frag} {mg : Str → Option Value} {W : Wd} {H : Hp} {g : Gs} {p : Addr} {o : HO} (w : WOk W H) (cl : GOk K mg W H g) (hp : H p = none) : Ext W H W (upd H p o) ∧ WOk W (upd H p o) ∧ GOk K mg W (upd H p o) g := by
  have fp : W.F p = none := by
    cases q : W.F p with
    | none => rfl
    | some u => rw [w.sub p u q] at hp; cases hp
  have tp : p ∉ W.th := fun z => (w.free p z).2 hp
  have x : Ext W H W (upd H p o) := ⟨WLe.refl W, fun a u h _ => by rw [upd_ne (ne_of_none h hp)]; exact h, fun a h => ⟨rfl, id⟩, fun a h => by rw [upd_ne fun z => h (by rw [z]; exact hp)]; exact h⟩
  refine ⟨x, ⟨fun a u h => ?_, w.nd, fun a h => ?_⟩, cells_ext cl x rfl fun a h => upd_ne fun z => tp (by rw [← z]; exact h)⟩
  · rw [upd_ne (ne_of_none h fp)]; exact w.sub a u h
  · have ne : a ≠ p := fun z => tp (by rw [← z]; exact h)
    rw [upd_ne ne]
    exact w.free a h
open Classical in
/-- C(..): what __init__ has made of the new instance, as data -/
noncomputable def dMake (c : Str) (phi : Den) : Den := fun ds g => match phi (.cell g.length :: ds) (g ++ [.ins c []]) with
  | .ok d g2 => (match d with
    | .non => (match g2[g.length]? with
      | some (.ins c' fs) => if c' = c ∧ g2 = g ++ [.ins c fs] ∧ okCF g.length fs = true then .ok (.ins c fs) g else .bad
      | _ => .bad)
    | _ => .bad)
  | .exc x g2 => .exc x g2
  | .bad => .bad
theorem thaw {K : PySem.W.Frag} {mg : Str → Option Value} {W1 W2 : Wd} {H0 H1 H2 : Hp} {g1 : Gs} {c : Str} {fs : List (Str × D)} {x C : Addr} (hm : mg c = some (.ref C)) (w0 : WOk W1 H0) (c0 : GOk K mg W1 H0 g1) (hx : H0 x = none) (hH : ∀ a, H0 a ≠ none → H1 a = H0 a)
    (e2 : Ext ⟨W1.F, W1.th ++ [x]⟩ H1 W2 H2) (w2 : WOk W2 H2) (c2 : GOk K mg W2 H2 (g1 ++ [.ins c fs])) (ok : okCF g1.length fs = true) :
    ∃ W3, Ext W1 H0 W3 H2 ∧ WOk W3 H2 ∧ GOk K mg W3 H2 g1 ∧ rel K mg W3 (.ins c fs) (.ref x) := by
  have tx : x ∉ W1.th := fun z => (w0.free x z).2 hx
  have hth : W2.th = W1.th ++ [x] := by
    obtain ⟨more, em⟩ := e2.le.th
    have l := c2.len
    rw [em, List.length_append, List.length_append, List.length_append, c0.len] at l
    have : more = [] := by
      cases more with
      | nil => rfl
      | cons _ _ => simp at l
    rw [em, this, List.append_nil]
  have n1 : g1.length = W1.th.length := c0.len
  have hxi : W2.th[g1.length]? = some x := by rw [hth, n1, List.getElem?_append_right (Nat.le_refl _), Nat.sub_self]; rfl
  obtain ⟨C', dx, ws, m', hins, rr⟩ := c2.at_ g1.length x (.ins c fs) hxi (by rw [List.getElem?_append_right (Nat.le_refl _), Nat.sub_self]; rfl)
  rw [hm] at m'
  cases m'
  have fx2 : W2.F x = none := (w2.free x (by rw [hth]; simp)).1
  have le3 : LeN g1.length W2 ⟨upd W2.F x (.ins C dx ws), W1.th⟩ := by
    refine ⟨fun a o h => ?_, fun i hi p h => ?_⟩
    · show upd W2.F x (.ins C dx ws) a = some o
      rw [upd_ne (ne_of_none h fx2)]; exact h
    · rw [hth, List.getElem?_append_left (by omega)] at h; exact h
  have F1 : ∀ a o, W1.F a = some o → W2.F a = some o := fun a o h => e2.le.F a o h
  refine ⟨⟨upd W2.F x (.ins C dx ws), W1.th⟩, ⟨⟨fun a o h => le3.F a o (F1 a o h), ⟨[], by simp⟩⟩, fun a o h nt => ?_, fun a h => ⟨?_, id⟩, fun a h => ?_⟩, ⟨fun a o h => ?_, w0.nd, fun a h => ?_⟩, ⟨n1, fun i p co ei gi => ?_⟩, ⟨x, C, dx, ws, rfl, hm, upd_same, relF_leN le3 ok rr⟩⟩
  · have hne : a ≠ x := fun z => by rw [z, hx] at h; cases h
    refine e2.keep a o (by rw [hH a (by rw [h]; simp)]; exact h) fun z => ?_
    rcases List.mem_append.mp z with q | q
    · exact nt q
    · exact hne (by simpa using q)
  · have hne : a ≠ x := fun z => h (by rw [z]; exact hx)
    show upd W2.F x (.ins C dx ws) a = W1.F a
    rw [upd_ne hne]
    exact (e2.old a (by rw [hH a h]; exact h)).1
  · exact e2.there a (by rw [hH a h]; exact h)
  · have h : upd W2.F x (.ins C dx ws) a = some o := h
    by_cases ne : a = x
    · rw [ne, upd_same] at h; rw [ne, hins]; exact h
    · rw [upd_ne ne] at h; exact w2.sub a o h
  · have ne : a ≠ x := fun z => tx (by rw [← z]; exact h)
    have q := w2.free a (by rw [hth]; exact List.mem_append_left _ h)
    show upd W2.F x (.ins C dx ws) a = none ∧ H2 a ≠ none
    rw [upd_ne ne]
    exact q
  · have li : i < W1.th.length := (List.getElem?_eq_some_iff.mp ei).1
    have q := c2.at_ i p co (by rw [hth, List.getElem?_append_left li]; exact ei) (by rw [List.getElem?_append_left (by omega)]; exact gi)
    have q0 := c0.at_ i p co ei gi
    cases co with
    | lst ds =>
      obtain ⟨vs, h, r⟩ := q
      obtain ⟨vs0, h0, r0⟩ := q0
      exact ⟨vs, h, rels_leN le3 (by rw [n1]; exact rels_okC r0) r⟩
    | dik ds =>
      obtain ⟨vs, h, r⟩ := q
      obtain ⟨vs0, h0, r0⟩ := q0
      exact ⟨vs, h, relK_leN le3 (by rw [n1]; exact relK_okC r0) r⟩
    | ins d l =>
      obtain ⟨C1, dx1, vs, m1, h, r⟩ := q
      obtain ⟨C0, dx0, vs0, m0, h0, r0⟩ := q0
      exact ⟨C1, dx1, vs, m1, h, relF_leN le3 (by rw [n1]; exact relF_okC r0) r⟩
theorem Mkr.de (M : Mkr X.prog X.w X.K X.mg X.base k x phi) (hr : Room (k + 1) X.A) (hgd : X.A.guards = some []) (tk : Takes X Wx) (ha : DA X Wx B O (e :: es) fs) (hg : Gl X x := by rfl)
    (hdb : (x == ("__debug__" : Str)) = false := by decide) (he : starEach (e :: es) X.env = (false, eval e X.env) :: starEach es X.env := by rfl) (hpl : (backTo pos (starEach es X.env)).any (·.1) = false := by rfl) : DE X Wx B O (.Call (.Name x p) (e :: es) [] pos) (fCall (dMake x phi) fs) := by
  obtain ⟨C, fi, fd, ps, hm, mk, F, bd⟩ := M.at_
  refine ⟨fun pins s σ H Q I ⟨W, ρ, g, S, P⟩ => ?_⟩
  refine wpAny_Call_Name_kw (ld_glob I hg hm ?_ hdb)
  refine PySem.W.callWith_K (h₀ := X.base) I.ok.mod.kin mk.kp (thn (ha.run pos pins s σ H _ I ⟨W, ρ, g, S, Post.bind P⟩) fun us s1 ⟨vs, H1, I1, r, ds, W1, g1, e1, w1, c1, rd, P1⟩ => ⟨I1.kIn, ?_⟩) he hpl
  refine run_makeG mk F.ok hr hgd bd (passAt tk σ) I1 r fun a dx hx hdx ne => ?_
  obtain ⟨x1, w1', c1'⟩ := ext_hid (o := .own a) w1 c1 hdx
  have hx' : upd H1 dx (.own a) a = none := by rw [upd_ne ne.symm]; exact hx
  obtain ⟨x2, w2, c2⟩ := ext_cell (co := .ins x []) (o := .ins C dx []) w1' c1' hx' ⟨C, dx, [], hm, upd_same, rfl⟩
  refine ⟨⟨W1.F, W1.th ++ [a]⟩, .cell g1.length :: ds, g1 ++ [.ins x []], w2, rels_cons ⟨a, rfl, by rw [c1.len]; show (W1.th ++ [a])[W1.th.length]? = some a; rw [List.getElem?_append_right (Nat.le_refl _), Nat.sub_self]; rfl⟩ (rels_le (x1.trans x2).le rd), c2, ?_⟩
  unfold dMake at P1
  cases h : phi (.cell g1.length :: ds) (g1 ++ [.ins x []]) with
  | bad => rw [h] at P1; exact P1.elim
  | exc y g2 =>
    rw [h] at P1
    exact fun c dd W3 H3 e3 w3 c3 hx3 => P1 c dd W3 H3 ((x1.trans x2).trans e3) w3 c3 hx3
  | ok d g2 =>
    rw [h] at P1
    dsimp only at P1
    cases d with
    | non =>
      dsimp only at P1
      cases h2 : g2[g1.length]? with
      | none => rw [h2] at P1; exact P1.elim
      | some co =>
        rw [h2] at P1
        cases co with
        | ins c' l =>
          dsimp only at P1
          by_cases hc : c' = x ∧ g2 = g1 ++ [.ins x l] ∧ okCF g1.length l = true
          · rw [if_pos hc] at P1
            obtain ⟨_, rfl, ok⟩ := hc
            intro v W3 H3 e3 w3 c3 rv
            obtain ⟨W4, y1, y2, y3, y4⟩ := thaw (H1 := upd (upd H1 dx (.own a)) a (.ins C dx [])) hm w1 c1 hx (fun b hb => by
              have n1 : b ≠ a := fun z => hb (by rw [z]; exact hx)
              have n2 : b ≠ dx := fun z => hb (by rw [z]; exact hdx)
              rw [upd_ne n1, upd_ne n2]) e3 w3 c3 ok
            exact ⟨rv, P1 _ W4 H3 y1 y2 y3 y4⟩
          · rw [if_neg hc] at P1; exact P1.elim
        | _ => exact P1.elim
    | _ => exact P1.elim
structure InsF (K : PySem.W.Frag) (mg : Str → Option Value) (c : Str) : Prop where
  at_ : ∃ C, mg c = some (.ref C) ∧ C8.InsC K C
/-- isinstance(x, C), x an instance of C -/
def dIsC (c : Str) : Den := fun ds g => match ds with
  | [d, .glo c'] => if c' = c then (match insOf c d g with
    | some _ => .ok (.bl true) g
    | none => .bad) else .bad
  | _ => .bad
theorem dc_isC (F : InsF X.K X.mg c) : DCall X (.builtin "isinstance") (dIsC c) := by
  obtain ⟨C, hm, ic⟩ := F.at_
  refine DCall.of (C8.call_isC ic) fun E H W g ds vs Q w cl r P => ?_
  unfold dIsC at P
  split at P
  · rename_i d c'
    obtain ⟨v, v', rfl, q, q'⟩ := rels2 r
    obtain ⟨pc, rfl, hp⟩ := q'
    by_cases hc : c' = c
    · rw [if_pos hc] at P
      rw [hc, hm] at hp
      cases hp
      cases h : insOf c d g with
      | none => rw [h] at P; exact P.elim
      | some fs =>
        rw [h] at P
        obtain ⟨a, dx, ws, rfl, hH, rr⟩ := insOf_rel (X := X) w cl q h hm
        exact ⟨a, dx, ws, rfl, hH, Post.done P w cl rfl⟩
    · rw [if_neg hc] at P; exact P.elim
  · exact P.elim
theorem de_cls (F : ClsF X.K X.mg x) (hg : Gl X x := by rfl) (hd : (x == ("__debug__" : Str)) = false := by decide) : DE X Wx B O (.Name x pos) (fC (.glo x)) := by
  obtain ⟨C, hm, cl⟩ := F.at_
  exact de_glob hg hm (v := .ref C) rfl (fun W => ⟨C, rfl, hm⟩) hd
end
end DL
set_option maxRecDepth 100000
set_option maxHeartbeats 4000000
namespace DL
open PySem PySem.Spec PyProof.Rows L2
/-- a def of the text, with or without defaults -/
structure FunX (K : PySem.W.Frag) (x qual : Str) (st : Stmt) (f : Addr) (fd : FuncData) : Prop where
  ex : ∃ (oc : Value) (od : Option Addr) (dV kV doc pm : Value) (an : Option Addr) (cdv ct : Value) (osl : Array (Option Value)),
    fd = PySem.W.fnOf x qual (defArgs st) (defBody st) (defScope st) dV kV doc pm an cdv ct ∧ K.lookup f = some ⟨oc, od, .func fd, osl⟩ ∧ PySem.W.codeIn K cdv qual = true
  kp : PySem.W.keepIn K (.ref f) = true
section
variable {P : Program} {w : World} {K : PySem.W.Frag} {mg : Str → Option Value} {base : Heap}
theorem FnG.mkX {x qual : Str} {st : Stmt} {f : Addr} {fd : FuncData} {N ps : List Str} {k : Nat} {sp : Sp} (F : FunX K x qual st f fd) (S : FnScope N ps (defScope st)) (len : ∀ vs H Q E, sp vs H Q E → vs.length = ps.length)
    (hbody : ∀ (cdv : Value) (A : Around) (outer : List PySem.Env) (s : Shared) (H : Hp) (vs : List V) (Q : VK) (E : XK), Room k (A.deeper (envOfC qual (defScope st) s.heap.objs.size f cdv)) → A.guards = some [] → sp vs H Q E →
      ∃ t, PSs (cxOf (L2.CX P w) P w K mg base N qual (defScope st) f cdv A outer s H E) (defBody st) t ∧ t { nx := fun _ H' => Q .non H', rt := Q } (L2.start N vs) H) : FnG P w K mg base (k + 1) f fd ps sp := by
  obtain ⟨oc, od, dV, kV, doc, pm, an, cdv, ct, osl, rfl, lk, hcd⟩ := F.ex
  constructor
  · exact len
  intro A outer s H args us vs Q E hr hgd e0 hb r hsp
  have hl := len vs H Q E hsp
  have keepB : ∀ b o, base.get? b = some o → s.heap.get? b = some o := fun b o e => (e0.bs b o e).1
  have hkind : ∀ y ∈ ps.zip us, (defScope st).names.lookup y.1 = some .local ∨ ((defScope st).names.lookup y.1 = some .cell ∧ ((cellsFrom (s.heap.objs.size + 1) (defScope st).names []).lookup y.1).isSome = true) := by
    rintro ⟨n, v⟩ hy
    have mem := (List.of_mem_zip hy).1
    rcases S.par n mem with q | q
    · exact .inl q
    · exact .inr ⟨q, PySem.W.cellsFrom_some _ _ _ (.inl q)⟩
  refine codeAny_call_function hr.depth ((e0.mod.kin.keeps keepB) _ _ lk) rfl S.co S.gen rfl (PySem.W.codeRec_of (e0.mod.kin.keeps keepB) hcd) (hb _ _ _ _ ?_)
  refine wpAny_newFunctionEnv_cells S.kind hkind fun env he s1 x => ?_
  cases he
  refine ⟨(e0.mod.nolimit.keeps keepB).keeps x.toInCall.keep, codeAny_func ?_⟩
  obtain ⟨t, ht, hq⟩ := hbody cdv A outer s H vs Q E (hr.deeper _) hgd hsp
  have I := inv_start (CX := L2.CX P w) (E := E) (N := N) S hr.hd e0 hl r x
  refine wpAny_mono (ht.run [] s1 (L2.start N vs) H _ I hq) (fun fl s' hs => ?_) (fun _ _ hs => hs)
  cases fl with
  | brk => obtain ⟨σ', H', J, q⟩ := hs; cases q
  | cont => obtain ⟨σ', H', J, q⟩ := hs; cases q
  | next => obtain ⟨σ', H', J, q⟩ := hs; exact ⟨V.non, H', J.os, J.bare, J.base, J.hok, rfl, q⟩
  | ret u => obtain ⟨v, σ', H', J, rv, q⟩ := hs; exact ⟨v, H', J.os, J.bare, J.base, J.hok, rv, q⟩
theorem okDX {x qual : Str} {st : Stmt} {f : Addr} {fd : FuncData} {N ps : List Str} {k : Nat} {body : FS} {O' : List Nat} (F : FunX K x qual st f fd) (S : FnScope N ps (defScope st))
    (hbody : ∀ (cdv : Value) (A : Around) (outer : List PySem.Env) (s : Shared) (H : Hp) (E : XK) (B : Bs), Room k (A.deeper (envOfC qual (defScope st) s.heap.objs.size f cdv)) → Takes (cxD P w K mg base N qual (defScope st) f cdv A outer s H E) (wxE E) →
      A.guards = some [] → PassesOwn (model P w) (cxD P w K mg base N qual (defScope st) f cdv A outer s H E).A (cxD P w K mg base N qual (defScope st) f cdv A outer s H E).env (cxD P w K mg base N qual (defScope st) f cdv A outer s H E).xe →
      DSs (cxD P w K mg base N qual (defScope st) f cdv A outer s H E) (wxE E) B [] O' (defBody st) body) : Dfn P w K mg base (k + 1) f fd ps (runDef ps.length N.length body) := by
  refine ⟨?_, F.kp⟩
  refine FnG.mkX F S (fun vs H Q E h => spD_len h) fun cdv A outer s H vs Q E hr hgd h => ?_
  have hl := spD_len h
  obtain ⟨W, ds, g, w0, r, c, Pz⟩ := h
  unfold runDef at Pz
  by_cases hd : ds.length = ps.length
  · rw [if_pos hd] at Pz
    refine ⟨_, hbody cdv A outer s H E ⟨W, H⟩ hr (takes_of rfl rfl rfl rfl) hgd (passes_of rfl), ?_⟩
    have hN : ps.length ≤ N.length := by have := congrArg List.length S.pre; rw [List.length_take] at this; omega
    refine ⟨W, ds.map some ++ List.replicate (N.length - ps.length) none, g, ⟨Ext.refl _ _, w0, ⟨?_, fun i d _ hi => ?_, fun i d hi => absurd hi (by simp), fun i j p hi => absurd hi (by simp)⟩, c⟩, ?_⟩
    · unfold L2.start
      rw [List.length_append, List.length_append, List.length_map, List.length_map, List.length_replicate, List.length_replicate, hd, hl]
    · unfold L2.start
      by_cases hlt : i < ds.length
      · rw [List.getElem?_append_left (by rw [List.length_map]; exact hlt), List.getElem?_map] at hi
        cases q : ds[i]? with
        | none => rw [q] at hi; cases hi
        | some d' =>
          rw [q] at hi
          have e : d' = d := by simpa using hi
          rw [e] at q
          obtain ⟨v, h1, h2⟩ := rels_get r q
          refine ⟨v, ?_, h2⟩
          rw [List.getElem?_append_left (by rw [List.length_map, hl, ← hd]; exact hlt), List.getElem?_map, h1]
          rfl
      · rw [List.getElem?_append_right (by rw [List.length_map]; omega), List.getElem?_replicate] at hi
        split at hi <;> cases hi
    · cases q : body (ds.map some ++ List.replicate (N.length - ps.length) none) g with
      | nx ρ g' =>
        rw [q] at Pz
        intro W1 σ1 H1 le S1
        exact Pz .non W1 H1 S1.ext S1.wok S1.cells rfl
      | rt d g' =>
        rw [q] at Pz
        intro v W1 H1 e w c r
        exact Pz v W1 H1 e w c r
      | ex x ρ g' =>
        rw [q] at Pz
        intro c dd W1 σ1 H1 S1 hx
        exact Pz c dd W1 H1 S1.ext S1.wok S1.cells hx
      | bk ρ g' => rw [q] at Pz; exact Pz.elim
      | ct ρ g' => rw [q] at Pz; exact Pz.elim
      | bad => rw [q] at Pz; exact Pz.elim
  · rw [if_neg hd] at Pz; exact Pz.elim
end
structure ClsFact (K : PySem.W.Frag) (c : Str) : Prop where
  at_ : ∃ C : Addr, PySem.W.nsIn K mainGlobals c = some (some (.ref C)) ∧ PySem.W.plainGet K C Str.empty = true ∧ PySem.W.hasDictIn K C = true ∧ PySem.W.plainOver K C = true ∧ PySem.W.findIn K (.ref C) "__setattr__" = some (some (.builtin "object.__setattr__"))
theorem ClsFact.mk' {K : PySem.W.Frag} {c : Str} {C : Addr} (a : PySem.W.nsIn K mainGlobals c = some (some (.ref C))) (b : PySem.W.plainGet K C Str.empty = true) (d : PySem.W.hasDictIn K C = true) (e : PySem.W.plainOver K C = true) (f : PySem.W.findIn K (.ref C) "__setattr__" = some (some (.builtin "object.__setattr__"))) : ClsFact K c := ⟨⟨C, a, b, d, e, f⟩⟩
section
variable {P : Program} {w : World} {K : PySem.W.Frag} {mg : Str → Option Value} {base h : Heap} {k : Nat} {c m qual : Str} {st : Stmt} {phi : Den}
theorem clsf_of {C : Addr} (X : K.In h) (G : h.Ns mainGlobals mg) (a : PySem.W.nsIn K mainGlobals c = some (some (.ref C))) (b : PySem.W.plainGet K C Str.empty = true) (d : PySem.W.hasDictIn K C = true) (e : PySem.W.plainOver K C = true) (f : PySem.W.findIn K (.ref C) "__setattr__" = some (some (.builtin "object.__setattr__"))) : ClsF K mg c :=
  ⟨⟨C, PySem.W.mg_of X G a, ⟨b, d, e, f⟩⟩⟩
theorem fldf_of {f : Str} {C : Addr} (cf : ClsF K mg c) (X : K.In h) (G : h.Ns mainGlobals mg) (a : PySem.W.nsIn K mainGlobals c = some (some (.ref C))) (b : PySem.W.findIn K (.ref C) f = some none) : FldF K mg c f := by
  obtain ⟨C', hm, cl⟩ := cf.at_
  have e := PySem.W.mg_of X G a
  rw [hm] at e
  cases e
  exact ⟨⟨_, hm, cl, b⟩⟩
theorem insf_of {C : Addr} (cf : ClsF K mg c) (X : K.In h) (G : h.Ns mainGlobals mg) (a : PySem.W.nsIn K mainGlobals c = some (some (.ref C))) (ha : PySem.W.findIn K (.ref C) "__class__" = some (some (.builtin "object.__class__")))
    (hn : PySem.W.specialIn K (.builtin "object.__class__") "__get__" = some (some (.builtin "getset_descriptor.__get__"))) (ht : PySem.W.takesIn K (.builtin "object.__class__") = some true) (hm : PySem.W.mroIn K C (.type "object") = some true) (me : PySem.W.kitOne K (.ref C) (.ref C) = some true) : InsF K mg c := by
  obtain ⟨C', hmm, cl⟩ := cf.at_
  have e := PySem.W.mg_of X G a
  rw [hmm] at e
  cases e
  exact ⟨⟨_, hmm, cl, ha, hn, ht, hm, me⟩⟩
/-- a def without defaults -/
structure Nd (K : PySem.W.Frag) (m qual : Str) (st : Stmt) (fd : FuncData) : Prop where
  at_ : ∃ (kV dc pm : Value) (an : Option Addr) (cd ct : Value), fd = PySem.W.fnOf m qual (defArgs st) (defBody st) (defScope st) .none kV dc pm an cd ct
theorem Nd.binds {fd : FuncData} {ps : List Str} (n : Nd K m qual st fd) (hb : ∀ (kV dc pm : Value) (an : Option Addr) (cd ct : Value) (us : List Value), us.length = ps.length → bindArgs (PySem.W.fnOf m qual (defArgs st) (defBody st) (defScope st) .none kV dc pm an cd ct) ⟨us, []⟩ = pure (ps.zip us)) : Binds K fd ps [] := by
  obtain ⟨kV, dc, pm, an, cd, ct, rfl⟩ := n.at_
  exact Binds.all fun us hl => hb kV dc pm an cd ct us hl
/-- a method, or __init__ -/
structure MthFact (K : PySem.W.Frag) (c m qual : Str) (st : Stmt) : Prop where
  at_ : ∃ (C f : Addr) (od an : Option Addr) (sl : Array (Option Value)) (oc dV kV dc pm cd ct : Value), PySem.W.nsIn K mainGlobals c = some (some (.ref C)) ∧ PySem.W.findIn K (.ref C) m = some (some (.ref f)) ∧ PySem.W.isFn K (.ref f) = true ∧
    K.lookup f = some ⟨oc, od, .func (PySem.W.fnOf m qual (defArgs st) (defBody st) (defScope st) dV kV dc pm an cd ct), sl⟩ ∧ PySem.W.codeIn K cd qual = true ∧ PySem.W.keepIn K (.ref f) = true
theorem MthFact.mk' {C f : Addr} {od an : Option Addr} {sl : Array (Option Value)} {oc dV kV dc pm cd ct : Value} (a : PySem.W.nsIn K mainGlobals c = some (some (.ref C))) (i : PySem.W.findIn K (.ref C) m = some (some (.ref f))) (j : PySem.W.isFn K (.ref f) = true)
    (l : K.lookup f = some ⟨oc, od, .func (PySem.W.fnOf m qual (defArgs st) (defBody st) (defScope st) dV kV dc pm an cd ct), sl⟩) (cc : PySem.W.codeIn K cd qual = true) (kk : PySem.W.keepIn K (.ref f) = true) : MthFact K c m qual st := ⟨⟨C, f, od, an, sl, oc, dV, kV, dc, pm, cd, ct, a, i, j, l, cc, kk⟩⟩
structure MthFact0 (K : PySem.W.Frag) (c m qual : Str) (st : Stmt) : Prop where
  at_ : ∃ (C f : Addr) (od an : Option Addr) (sl : Array (Option Value)) (oc kV dc pm cd ct : Value), PySem.W.nsIn K mainGlobals c = some (some (.ref C)) ∧ PySem.W.findIn K (.ref C) m = some (some (.ref f)) ∧ PySem.W.isFn K (.ref f) = true ∧
    K.lookup f = some ⟨oc, od, .func (PySem.W.fnOf m qual (defArgs st) (defBody st) (defScope st) .none kV dc pm an cd ct), sl⟩ ∧ PySem.W.codeIn K cd qual = true ∧ PySem.W.keepIn K (.ref f) = true
structure GotM (K : PySem.W.Frag) (mg : Str → Option Value) (c m qual : Str) (st : Stmt) (C f : Addr) (fd : FuncData) : Prop where
  fn : FunX K m qual st f fd
  mg_ : mg c = some (.ref C)
  me : Meth K C m f
theorem MthFact.got (d : MthFact K c m qual st) (X : K.In h) (G : h.Ns mainGlobals mg) : ∃ C f fd, GotM K mg c m qual st C f fd := by
  obtain ⟨C, f, od, an, sl, oc, dV, kV, dc, pm, cd, ct, a, i, j, l, cc, kk⟩ := d.at_
  exact ⟨C, f, _, ⟨⟨oc, od, dV, kV, dc, pm, an, cd, ct, sl, rfl, l, cc⟩, kk⟩, PySem.W.mg_of X G a, ⟨i, j, kk⟩⟩
theorem MthFact0.got (d : MthFact0 K c m qual st) (X : K.In h) (G : h.Ns mainGlobals mg) : ∃ C f fd, GotM K mg c m qual st C f fd ∧ Nd K m qual st fd := by
  obtain ⟨C, f, od, an, sl, oc, kV, dc, pm, cd, ct, a, i, j, l, cc, kk⟩ := d.at_
  exact ⟨C, f, _, ⟨⟨⟨oc, od, .none, kV, dc, pm, an, cd, ct, sl, rfl, l, cc⟩, kk⟩, PySem.W.mg_of X G a, ⟨i, j, kk⟩⟩, ⟨⟨kV, dc, pm, an, cd, ct, rfl⟩⟩⟩
/-- .. where the defaults are a tuple, none of which is taken -/
theorem GotM.bindsD {C f T : Addr} {fd : FuncData} {ps : List Str} {o : Obj} {its : Array Value} {n : Nat} {cdv ct dc pm kV oc : Value} {an od : Option Addr} {sl : Array (Option Value)} (g : GotM K mg c m qual st C f fd)
    (l : K.lookup f = some ⟨oc, od, .func (PySem.W.fnOf m qual (defArgs st) (defBody st) (defScope st) (.ref T) kV dc pm an cdv ct), sl⟩) (lT : K.lookup T = some o) (oT : o.data = .seq its n)
    (hb : ∀ us : List Value, us.length = ps.length → ∃ k, bindArgs (PySem.W.fnOf m qual (defArgs st) (defBody st) (defScope st) (.ref T) kV dc pm an cdv ct) ⟨us, []⟩ = seqItems? (.ref T) >>= k ∧ k (some its) = pure (ps.zip us)) : Binds K fd ps [] := by
  obtain ⟨oc', od', dV', kV', dc', pm', an', cd', ct', sl', rfl, l', cc⟩ := g.fn.ex
  rw [l] at l'
  injection l' with l'
  injection l' with _ _ e _
  injection e with e
  rw [← e]
  intro s us X hl
  rw [List.append_nil] at hl ⊢
  obtain ⟨k, e1, e2⟩ := hb us hl
  refine BindsTo.of_looks fun M => ?_
  rw [e1]
  exact looks_items X lT oT (.of_pure e2)
theorem GotM.mkr {C f : Addr} {fd : FuncData} {ps : List Str} (g : GotM K mg c "__init__" qual st C f fd) (mk : PySem.W.makesIn K C = true) (kc : PySem.W.keepIn K (.ref C) = true) (d : Dfn P w K mg base k f fd ps phi) (b : Binds K fd ps []) : Mkr P w K mg base k c phi :=
  ⟨⟨C, f, fd, ps, g.mg_, ⟨mk, g.me.at_, g.me.fn, kc⟩, d, b⟩⟩
/-- a class may be made -/
structure MakeFact (K : PySem.W.Frag) (c : Str) : Prop where
  at_ : ∃ C : Addr, PySem.W.nsIn K mainGlobals c = some (some (.ref C)) ∧ PySem.W.makesIn K C = true ∧ PySem.W.keepIn K (.ref C) = true
theorem MakeFact.mk' {C : Addr} (a : PySem.W.nsIn K mainGlobals c = some (some (.ref C))) (b : PySem.W.makesIn K C = true) (d : PySem.W.keepIn K (.ref C) = true) : MakeFact K c := ⟨⟨C, a, b, d⟩⟩
theorem GotM.mkr' {C f : Addr} {fd : FuncData} {ps : List Str} (g : GotM K mg c "__init__" qual st C f fd) (mf : MakeFact K c) (X : K.In h) (G : h.Ns mainGlobals mg) (d : Dfn P w K mg base k f fd ps phi) (b : Binds K fd ps []) : Mkr P w K mg base k c phi := by
  obtain ⟨C', a, mk, kc⟩ := mf.at_
  have e := PySem.W.mg_of X G a
  rw [g.mg_] at e
  cases e
  exact g.mkr mk kc d b
/-- a property -/
structure PrpFact (K : PySem.W.Frag) (c m qual : Str) (st : Stmt) : Prop where
  at_ : ∃ (C p f : Addr) (rest : List Value) (od an : Option Addr) (sl : Array (Option Value)) (oc kV dc pm cd ct : Value), PySem.W.nsIn K mainGlobals c = some (some (.ref C)) ∧ PropOf K C m p f ∧
    K.lookup f = some ⟨oc, od, .func (PySem.W.fnOf m qual (defArgs st) (defBody st) (defScope st) .none kV dc pm an cd ct), sl⟩ ∧ PySem.W.codeIn K cd qual = true ∧ PySem.W.keepIn K (.ref f) = true
theorem PrpFact.mk' {C p f : Addr} {rest : List Value} {od an : Option Addr} {sl : Array (Option Value)} {oc kV dc pm cd ct : Value} (a : PySem.W.nsIn K mainGlobals c = some (some (.ref C))) (i : PySem.W.findIn K (.ref C) m = some (some (.ref p)))
    (gt : PySem.W.specialIn K (.ref p) "__get__" = some (some (.builtin "property.__get__"))) (tk : PySem.W.takesIn K (.ref p) = some true) (rc : PySem.W.recIn K p "property" = some (.ref f :: rest))
    (l : K.lookup f = some ⟨oc, od, .func (PySem.W.fnOf m qual (defArgs st) (defBody st) (defScope st) .none kV dc pm an cd ct), sl⟩) (cc : PySem.W.codeIn K cd qual = true) (kk : PySem.W.keepIn K (.ref f) = true) : PrpFact K c m qual st :=
  ⟨⟨C, p, f, rest, od, an, sl, oc, kV, dc, pm, cd, ct, a, ⟨i, gt, tk, ⟨rest, rc⟩⟩, l, cc, kk⟩⟩
structure GotP (K : PySem.W.Frag) (mg : Str → Option Value) (c m qual : Str) (st : Stmt) (C p f : Addr) (fd : FuncData) : Prop where
  fn : FunX K m qual st f fd
  mg_ : mg c = some (.ref C)
  pr : PropOf K C m p f
theorem PrpFact.got (d : PrpFact K c m qual st) (X : K.In h) (G : h.Ns mainGlobals mg) : ∃ C p f fd, GotP K mg c m qual st C p f fd ∧ Nd K m qual st fd := by
  obtain ⟨C, p, f, rest, od, an, sl, oc, kV, dc, pm, cd, ct, a, i, l, cc, kk⟩ := d.at_
  exact ⟨C, p, f, _, ⟨⟨⟨oc, od, .none, kV, dc, pm, an, cd, ct, sl, rfl, l, cc⟩, kk⟩, PySem.W.mg_of X G a, i⟩, ⟨⟨kV, dc, pm, an, cd, ct, rfl⟩⟩⟩
theorem GotP.prp {C p f : Addr} {fd : FuncData} {ps : List Str} (g : GotP K mg c m qual st C p f fd) (cf : ClsF K mg c) (d : Dfn P w K mg base k f fd ps phi) (b : Binds K fd ps []) : Prp P w K mg base k c m phi := by
  obtain ⟨C', hm, cl⟩ := cf.at_
  have e := g.mg_
  rw [hm] at e
  cases e
  exact ⟨⟨_, p, f, fd, ps, hm, cl, g.pr, d, b⟩⟩
/-- the facts as the head has them, class by class -/
theorem ClsFact.clsf (X : K.In h) (G : h.Ns mainGlobals mg) (d : ClsFact K c) : ClsF K mg c := let ⟨_, a, b, e, f, g⟩ := d.at_; clsf_of X G a b e f g
structure FldFact (K : PySem.W.Frag) (c f : Str) : Prop where
  at_ : ∃ C : Addr, PySem.W.nsIn K mainGlobals c = some (some (.ref C)) ∧ PySem.W.findIn K (.ref C) f = some none
theorem FldFact.mk' {f : Str} {C : Addr} (a : PySem.W.nsIn K mainGlobals c = some (some (.ref C))) (b : PySem.W.findIn K (.ref C) f = some none) : FldFact K c f := ⟨⟨C, a, b⟩⟩
theorem FldFact.fldf {f : Str} (X : K.In h) (G : h.Ns mainGlobals mg) (cf : ClsFact K c) (d : FldFact K c f) : FldF K mg c f := let ⟨_, a, b⟩ := d.at_; fldf_of (cf.clsf X G) X G a b
theorem kit_self {K : PySem.W.Frag} (C : Addr) : PySem.W.kitOne K (.ref C) (.ref C) = some true := by
  unfold PySem.W.kitOne
  rw [if_pos (by simp)]
structure InsFact (K : PySem.W.Frag) (c : Str) : Prop where
  at_ : ∃ C : Addr, PySem.W.nsIn K mainGlobals c = some (some (.ref C)) ∧ PySem.W.findIn K (.ref C) "__class__" = some (some (.builtin "object.__class__")) ∧ PySem.W.specialIn K (.builtin "object.__class__") "__get__" = some (some (.builtin "getset_descriptor.__get__")) ∧
    PySem.W.takesIn K (.builtin "object.__class__") = some true ∧ PySem.W.mroIn K C (.type "object") = some true
theorem InsFact.mk' {C : Addr} (a : PySem.W.nsIn K mainGlobals c = some (some (.ref C))) (ha : PySem.W.findIn K (.ref C) "__class__" = some (some (.builtin "object.__class__"))) (hn : PySem.W.specialIn K (.builtin "object.__class__") "__get__" = some (some (.builtin "getset_descriptor.__get__")))
    (ht : PySem.W.takesIn K (.builtin "object.__class__") = some true) (hm : PySem.W.mroIn K C (.type "object") = some true) : InsFact K c := ⟨⟨C, a, ha, hn, ht, hm⟩⟩
theorem InsFact.insf (X : K.In h) (G : h.Ns mainGlobals mg) (cf : ClsFact K c) (d : InsFact K c) : InsF K mg c := let ⟨_, a, ha, hn, ht, hm⟩ := d.at_; insf_of (cf.clsf X G) X G a ha hn ht hm (kit_self _)
/-- a def with defaults, called with all its parameters -/
structure BndD (K : PySem.W.Frag) (c m qual : Str) (st : Stmt) (ps : List Str) : Prop where
  at_ : ∃ (C f T : Addr) (od an : Option Addr) (sl : Array (Option Value)) (oc kV dc pm cd ct : Value) (o : Obj) (its : Array Value) (n : Nat), PySem.W.nsIn K mainGlobals c = some (some (.ref C)) ∧ PySem.W.findIn K (.ref C) m = some (some (.ref f)) ∧
    K.lookup f = some ⟨oc, od, .func (PySem.W.fnOf m qual (defArgs st) (defBody st) (defScope st) (.ref T) kV dc pm an cd ct), sl⟩ ∧ K.lookup T = some o ∧ o.data = .seq its n ∧
    ∀ us : List Value, us.length = ps.length → ∃ k, bindArgs (PySem.W.fnOf m qual (defArgs st) (defBody st) (defScope st) (.ref T) kV dc pm an cd ct) ⟨us, []⟩ = seqItems? (.ref T) >>= k ∧ k (some its) = pure (ps.zip us)
theorem BndD.mk' {C f T : Addr} {od an : Option Addr} {sl : Array (Option Value)} {oc kV dc pm cd ct : Value} {o : Obj} {its : Array Value} {n : Nat} {ps : List Str} (a : PySem.W.nsIn K mainGlobals c = some (some (.ref C))) (i : PySem.W.findIn K (.ref C) m = some (some (.ref f)))
    (l : K.lookup f = some ⟨oc, od, .func (PySem.W.fnOf m qual (defArgs st) (defBody st) (defScope st) (.ref T) kV dc pm an cd ct), sl⟩) (lT : K.lookup T = some o) (oT : o.data = .seq its n)
    (hb : ∀ us : List Value, us.length = ps.length → ∃ k, bindArgs (PySem.W.fnOf m qual (defArgs st) (defBody st) (defScope st) (.ref T) kV dc pm an cd ct) ⟨us, []⟩ = seqItems? (.ref T) >>= k ∧ k (some its) = pure (ps.zip us)) : BndD K c m qual st ps :=
  ⟨⟨C, f, T, od, an, sl, oc, kV, dc, pm, cd, ct, o, its, n, a, i, l, lT, oT, hb⟩⟩
theorem BndD.binds {C f : Addr} {fd : FuncData} {ps : List Str} (b : BndD K c m qual st ps) (X : K.In h) (G : h.Ns mainGlobals mg) (g : GotM K mg c m qual st C f fd) : Binds K fd ps [] := by
  obtain ⟨C', f', T, od, an, sl, oc, kV, dc, pm, cd, ct, o, its, n, a, i, l, lT, oT, hb⟩ := b.at_
  have e := PySem.W.mg_of X G a
  rw [g.mg_] at e
  cases e
  have e2 := g.me.at_
  rw [i] at e2
  cases e2
  exact g.bindsD l lT oT hb
end
def dNeS : D → D → M D := fun x y g => match x, y with
  | .str a, .str b => .ok (.bl (!decide (a = b))) g
  | _, _ => .bad
theorem dec_str {a b : Str} : decide (V.str a = V.str b) = decide (a = b) := by
  rw [Bool.eq_iff_iff, decide_eq_true_iff, decide_eq_true_iff]
  exact ⟨fun h => by injection h, fun h => by rw [h]⟩
theorem dop_neS {X : Cx} {Wx : WX} : DOp X Wx (compareOp .NotEq) dNeS := by
  refine DOp.of op_ne fun σ H W g x y vx vy Q w c r1 r2 P => ?_
  cases x with
  | str a =>
    cases y with
    | str b =>
      cases (show vx = _ from r1)
      cases (show vy = _ from r2)
      exact ⟨rfl, by rw [dec_str]; exact Post.done P w c rfl⟩
    | _ => exact P.elim
  | _ => exact P.elim
end DL
set_option maxRecDepth 100000
set_option maxHeartbeats 4000000
namespace LB
open PySem PySem.Spec PyProof.Rows L2 DL
def kd_LENGTHS : List (Str × D) := [("same line", .int 3), ("parts", .int 5), ("within", .int 4)]
def aw_LENGTHS : List Str := []
def ks_SIDES : List Str := ["in", "out", "over"]
abbrev b__law_poured : FS := (sSeq (sSet 2 (fIf (fBool (f2 dLt (fVar 1) (fCall dLen (fCons (fVar 0) fNil)))) (f2 dIx (fVar 0) (fVar 1)) (fC (.int 0))))
  (sSeq (sSet 3 (f2 dAdd (fC (.int 50023)) (f2 dMul (fC (.int 6373)) (fVar 1))))
  (sSeq (sFor (fIter dIterB (fSlice (fVar 0) fNoPart (fPart (fC (.int 7))))) (gNam 4) (sSet 3 (f2 dMod (fCall dInt (fCons (f2 dAdd (f2 dAdd (f2 dMul (fVar 3) (fC (.int 29989))) (f2 dMul (fVar 4) (fC (.int 9)))) (fC (.int 23))) fNil)) (fC (.int 2147483587)))))
  (sRet (fCellL (fCons (fIf (fOr (fBool (f2 dLt (fVar 2) (fC (.int 0)))) (fBool (f2 dGe (fVar 2) (f2 dPow (fC (.int 10)) (fC (.int 18)))))) (fCall dAbs (fCons (fVar 2) fNil)) (fC (.int 0))) (fCons (f2 dMod (fCall dInt (fCons (f2 dAdd (f2 dAdd (f2 dMul (fVar 3) (fC (.int 67))) (f2 dMul (fVar 2) (fVar 2))) (f2 dMul (fC (.int 19)) (fVar 1))) fNil)) (fC (.int 2147483587))) (fCons (fC (.int 0)) fNil))))))))
def phi__law_poured : Den := runDef 2 5 b__law_poured
abbrev b__law_shared : FS := (sSeq (sFor (fIterA dRg1 (fCons (fC (.int 400)) fNil)) (gNam 2) (sSeq (sIf (fBool (f2 dEq (fVar 1) (fC (.int 0)))) (sRet (fVar 0)) sSkip)
  (sPar 0 1 (fCons (fVar 1) (fCons (f2 dMod (fCall dInt (fCons (fVar 0) fNil)) (fVar 1)) fNil)))))
  (sRet (fC (.int 1))))
def phi__law_shared : Den := runDef 2 3 b__law_shared
abbrev b__law_part : FS := (sSeq (sSet 2 (f2 dMod (fCall dInt (fCons (fVar 0) fNil)) (fVar 1)))
  (sSeq (sSet 3 (fCall phi__law_shared (fCons (fVar 1) (fCons (fVar 2) fNil))))
  (sRet (fTup (fCons (f2 dFdiv (fVar 2) (fVar 3)) (fCons (f2 dFdiv (fVar 1) (fVar 3)) fNil))))))
def phi__law_part : Den := runDef 2 4 b__law_part
abbrev b__law_form : FS := (sSeq (sAsg (fVar 0) (gTup 5 (gsCons (gNam 1) (gsCons (gNam 2) (gsCons (gNam 3) (gsCons (gNam 4) (gsCons (gNam 5) gsNil)))))))
  (sSeq (sSet 6 (fCall phi__law_shared (fCons (fVar 2) (fCons (fVar 3) fNil))))
  (sSeq (sSet 7 (f2 dIx (fDisp (((fC (.str "in")), (f2 dSub (fVar 2) (fVar 3))) :: (((fC (.str "out")), (f2 dAdd (fVar 2) (fVar 3))) :: (((fC (.str "over")), (f2 dSub (fVar 3) (fVar 2))) :: [])))) (fVar 1)))
  (sSeq (sIf (fBool (f2 dEq (fVar 4) (fC (.int 0)))) (sRet (fTup (fCons (fC (.str "circle")) (fCons (fVar 7) fNil)))) sSkip)
  (sSeq (sPar 8 9 (fCons (f2 dFdiv (fVar 3) (fVar 6)) (fCons (f2 dFdiv (fCall dAbs (fCons (fVar 7) fNil)) (fVar 6)) fNil)))
  (sSeq (sIf (fAnd (fBool (f2 dEq (fVar 1) (fC (.str "in")))) (fOr (fBool (f2 dGt (fVar 8) (fVar 9))) (fAnd (fBool (f2 dEq (fVar 8) (fVar 9))) (fBool (f2 dGt (fVar 7) (fVar 4)))))) (sRet (fTup (fCons (fVar 7) (fCons (fVar 8) (fCons (fVar 4) (fCons (f1 dNeg (fVar 9)) (fCons (fCall phi__law_part (fCons (fVar 5) (fCons (fVar 6) fNil))) fNil))))))) sSkip)
  (sSeq (sIf (fBool (f2 dEq (fVar 1) (fC (.str "in")))) (sRet (fTup (fCons (fVar 4) (fCons (fVar 9) (fCons (fVar 7) (fCons (f1 dNeg (fVar 8)) (fCons (fCall phi__law_part (fCons (fVar 5) (fCons (fVar 6) fNil))) fNil))))))) sSkip)
  (sSeq (sSet 10 (fCall phi__law_part (fCons (f2 dSub (f2 dMul (fC (.int 2)) (fVar 5)) (f2 dMul (fCall dMin2 (fCons (fVar 8) (fCons (fVar 9) fNil))) (fVar 6))) (fCons (f2 dMul (fC (.int 2)) (fVar 6)) fNil))))
  (sSeq (sIf (fBool (f2 dEq (fVar 1) (fC (.str "out")))) (sRet (fTup (fCons (fVar 4) (fCons (fVar 9) (fCons (fVar 7) (fCons (fVar 8) (fCons (fVar 10) fNil))))))) sSkip)
  (sRet (fTup (fCons (fVar 7) (fCons (fVar 8) (fCons (fVar 4) (fCons (fVar 9) (fCons (fVar 10) fNil))))))))))))))))
def phi__law_form : Den := runDef 1 11 b__law_form
abbrev b__law_arrows : FS := (sSeq (sAsg (fVar 0) (gTup 5 (gsCons (gNam 1) (gsCons (gNam 2) (gsCons (gNam 3) (gsCons (gNam 4) (gsCons (gNam 5) gsNil)))))))
  (sSeq (sSet 6 (fCall phi__law_shared (fCons (fVar 2) (fCons (fVar 3) fNil))))
  (sSeq (sSet 7 (f2 dIx (fDisp (((fC (.str "in")), (f2 dSub (fVar 2) (fVar 3))) :: (((fC (.str "out")), (f2 dAdd (fVar 2) (fVar 3))) :: (((fC (.str "over")), (f2 dSub (fVar 3) (fVar 2))) :: [])))) (fVar 1)))
  (sSeq (sPar 8 9 (fCons (fCall phi__law_part (fCons (fVar 5) (fCons (fVar 2) fNil))) (fCons (fCall phi__law_part (fCons (f2 dAdd (f2 dMul (fC (.int 2)) (fVar 5)) (fVar 2)) (fCons (f2 dMul (fC (.int 2)) (fVar 2)) fNil))) fNil)))
  (sSeq (sSet 10 (fTup (fCons (fVar 7) (fCons (f2 dFdiv (fVar 3) (fVar 6)) (fCons (fIf (fBool (f2 dEq (fVar 1) (fC (.str "over")))) (fVar 9) (fVar 8)) fNil)))))
  (sSeq (sIf (fBool (f2 dEq (fVar 4) (fC (.int 0)))) (sRet (fLst (fCons (fTup (fCons (fVar 7) (fCons (fC (.int 1)) (fCons (f2 dIx (fVar 10) (fC (.int 2))) fNil)))) fNil))) sSkip)
  (sSeq (sSet 11 (fIf (fBool (f2 dEq (fVar 1) (fC (.str "out")))) (f2 dFdiv (f2 dAdd (fVar 2) (fVar 3)) (fVar 6)) (f2 dFdiv (f2 dSub (fVar 3) (fVar 2)) (fVar 6))))
  (sRet (fLst (fCons (fVar 10) (fCons (fTup (fCons (fVar 4) (fCons (fVar 11) (fCons (fIf (fBool (f2 dEq (fVar 1) (fC (.str "out")))) (fVar 9) (fVar 8)) fNil)))) fNil)))))))))))
def phi__law_arrows : Den := runDef 1 12 b__law_arrows
abbrev b__law_is_part : FS := (sSeq (sIf (fOr (fNot (fTru (fCall dIsi (fCons (fVar 0) (fCons (fC (.ty "tuple")) fNil))))) (fBool (f2 dNe (fCall dLen (fCons (fVar 0) fNil)) (fC (.int 2))))) (sRet (fC (.bl false))) sSkip)
  (sSeq (sIf (fBool (f2 dNe (fLc (fIter dIterB (fVar 0)) (.one 1) (fOr (fNot (fTru (fCall dIsi (fCons (fVar 1) (fCons (fC (.ty "int")) fNil))))) (fTru (fCall dIsi (fCons (fVar 1) (fCons (fC (.ty "bool")) fNil))))) (fVar 1)) (fLst fNil))) (sRet (fC (.bl false))) sSkip)
  (sRet (fAndV (fChain dLe dLt (fC (.int 0)) (f2 dIx (fVar 0) (fC (.int 0))) (f2 dIx (fVar 0) (fC (.int 1)))) (f2 dEq (fCall phi__law_part (fCons (f2 dIx (fVar 0) (fC (.int 0))) (fCons (f2 dIx (fVar 0) (fC (.int 1))) fNil))) (fVar 0))))))
def phi__law_is_part : Den := runDef 1 2 b__law_is_part
abbrev b__law_is_shown : FS := (sSeq (sIf (fOr (fNot (fTru (fCall dIsi (fCons (fVar 2) (fCons (fC (.ty "tuple")) fNil))))) (fOr (fBool (f2 dNe (fCall dLen (fCons (fVar 2) fNil)) (fC (.int 3)))) (fNot (fTru (fCall phi__law_is_part (fCons (f2 dIx (fVar 2) (fC (.int 2))) fNil)))))) (sRet (fC (.bl false))) sSkip)
  (sSeq (sIf (fOr (fNot (fTru (fCall dIsi (fCons (f2 dIx (fVar 2) (fC (.int 0))) (fCons (fC (.ty "bool")) fNil))))) (fNot (fTru (fCall dIsi (fCons (f2 dIx (fVar 2) (fC (.int 1))) (fCons (fC (.ty "bool")) fNil)))))) (sRet (fC (.bl false))) sSkip)
  (sSeq (sPar 3 4 (fCons (fCall phi__law_arrows (fCons (fVar 0) fNil)) (fCons (fCall phi__law_arrows (fCons (fVar 1) fNil)) fNil)))
  (sSeq (sIf (fOr (fBool (f2 dNe (fCall dLen (fCons (fVar 3) fNil)) (fCall dLen (fCons (fVar 4) fNil)))) (fAnd (fTru (f2 dIx (fVar 2) (fC (.int 0)))) (fBool (f2 dEq (fCall dLen (fCons (fVar 3) fNil)) (fC (.int 1)))))) (sRet (fC (.bl false))) sSkip)
  (sSeq (sSet 4 (fIf (fTru (f2 dIx (fVar 2) (fC (.int 0)))) (f1 dRev2 (fVar 4)) (fVar 4)))
  (sSeq (sAsg (f2 dIx (fVar 2) (fC (.int 2))) (gTup 2 (gsCons (gNam 5) (gsCons (gNam 6) gsNil))))
  (sSeq (sFor (fIterA dRg1 (fCons (fCall dLen (fCons (fVar 3) fNil)) fNil)) (gNam 7) (sSeq (sAsg (f2 dIx (fVar 3) (fVar 7)) (gTup 3 (gsCons (gNam 8) (gsCons (gNam 9) (gsCons (gNam 10) gsNil)))))
  (sSeq (sAsg (f2 dIx (fVar 4) (fVar 7)) (gTup 3 (gsCons (gNam 11) (gsCons (gNam 12) (gsCons (gNam 13) gsNil)))))
  (sSeq (sIf (fOr (fBool (f2 dNe (fVar 8) (fVar 11))) (fBool (f2 dNe (fVar 9) (fIf (fTru (f2 dIx (fVar 2) (fC (.int 1)))) (f2 dSub (fC (.int 0)) (fVar 12)) (fVar 12))))) (sRet (fC (.bl false))) sSkip)
  (sIf (fBool (f2 dNe (fCall phi__law_part (fCons (f2 dAdd (f2 dMul (f2 dIx (fVar 13) (fC (.int 0))) (fVar 6)) (f2 dMul (f2 dMul (fVar 9) (fVar 5)) (f2 dIx (fVar 13) (fC (.int 1))))) (fCons (f2 dMul (f2 dIx (fVar 13) (fC (.int 1))) (fVar 6)) fNil))) (fVar 10))) (sRet (fC (.bl false))) sSkip)))))
  (sRet (fC (.bl true))))))))))
def phi__law_is_shown : Den := runDef 3 14 b__law_is_shown
abbrev b__law_sip : FS := (sSeq (sIf (fBool (f2 dGt (f2 dIx (fVar 0) (fC (.int 0))) (fC (.int 0)))) (sSeq (sAsg (fCall dDivmod (fCons (f2 dIx (fVar 0) (fC (.int 0))) (fCons (fVar 1) fNil))) (gTup 2 (gsCons (gSubC (fVar 0) (fC (.int 0))) (gsCons (gNam 2) gsNil))))
  (sRet (fVar 2))) sSkip)
  (sSeq (sAsg (f2 dAdd (f2 dIx (fVar 0) (fC (.int 2))) (fC (.int 1))) (gSubC (fVar 0) (fC (.int 2))))
  (sSeq (sSet 3 (f2 dMod (fCall dInt (fCons (f2 dAdd (f2 dAdd (f2 dMul (f2 dIx (fVar 0) (fC (.int 1))) (f2 dAdd (fC (.int 41011)) (f2 dMul (fC (.int 2)) (f2 dIx (fVar 0) (fC (.int 2)))))) (f2 dMul (fC (.int 4409)) (f2 dIx (fVar 0) (fC (.int 2))))) (fC (.int 11))) fNil)) (fC (.int 2147483587))))
  (sSeq (sAsg (f2 dMod (fCall dInt (fCons (f2 dAdd (f2 dAdd (f2 dMul (fVar 3) (fC (.int 38183))) (f2 dMul (fC (.int 5)) (f2 dIx (fVar 0) (fC (.int 2))))) (fC (.int 3))) fNil)) (fC (.int 2147483579))) (gSubC (fVar 0) (fC (.int 1))))
  (sRet (f2 dMod (fCall dInt (fCons (f2 dFdiv (f2 dIx (fVar 0) (fC (.int 1))) (fC (.int 512))) fNil)) (fVar 1)))))))
def phi__law_sip : Den := runDef 2 4 b__law_sip
abbrev b__law_one : FS := (sRet (f2 dIx (fVar 1) (fCall phi__law_sip (fCons (fVar 0) (fCons (fCall dLen (fCons (fVar 1) fNil)) fNil)))))
def phi__law_one : Den := runDef 2 2 b__law_one
abbrev b__law_speeds : FS := (sSeq (sPar 2 3 (fCons (f2 dAdd (fC (.int 1)) (fCall phi__law_sip (fCons (fVar 0) (fCons (fVar 1) fNil)))) (fCons (f2 dAdd (fC (.int 2)) (fCall phi__law_sip (fCons (fVar 0) (fCons (fVar 1) fNil)))) fNil)))
  (sSeq (sIf (fBool (f2 dGe (fVar 2) (fVar 3))) (sPar 2 3 (fCons (f2 dSub (fVar 3) (fC (.int 1))) (fCons (f2 dAdd (fVar 2) (fC (.int 1))) fNil))) sSkip)
  (sSeq (sSet 4 (fCall phi__law_shared (fCons (fVar 3) (fCons (fVar 2) fNil))))
  (sRet (fLst (fCons (f2 dFdiv (fVar 2) (fVar 4)) (fCons (f2 dFdiv (fVar 3) (fVar 4)) fNil)))))))
def phi__law_speeds : Den := runDef 2 5 b__law_speeds
abbrev b__law_wide : FS := (sSeq (sSet 2 (fC (.int 0)))
  (sSeq (sFor (fIterA dRg1 (fCons (fC (.int 6)) fNil)) (gNam 3) (sSet 2 (f2 dAdd (f2 dMul (fVar 2) (fC (.int 1000003))) (fCall phi__law_sip (fCons (fVar 0) (fCons (fC (.int 1000003)) fNil))))))
  (sRet (f2 dMod (fCall dInt (fCons (fVar 2) fNil)) (fVar 1)))))
def phi__law_wide : Den := runDef 2 4 b__law_wide
abbrev b__law_set : FS := (sSeq (sPar 2 3 (fCons (f2 dAdd (fC (.int 1)) (fCall phi__law_wide (fCons (fVar 0) (fCons (fVar 1) fNil)))) (fCons (fCall phi__law_one (fCons (fVar 0) (fCons (fLst (fCons (fC (.str "in")) (fCons (fC (.str "in")) (fCons (fC (.str "out")) (fCons (fC (.str "over")) fNil))))) fNil))) fNil)))
  (sSeq (sAsg (fCall phi__law_speeds (fCons (fVar 0) (fCons (fC (.int 7)) fNil))) (DL.gLst 2 (gsCons (gNam 4) (gsCons (gNam 5) gsNil))))
  (sSeq (sIf (fBool (f2 dEq (fVar 3) (fC (.str "in")))) (sSeq (sSet 6 (f2 dMul (fVar 2) (fCall phi__law_one (fCons (fVar 0) (fCons (fLst (fCons (fVar 4) (fCons (f2 dSub (fVar 5) (fVar 4)) fNil))) fNil)))))
  (sSet 7 (f2 dMul (fVar 2) (fVar 5)))) (sPar 6 7 (fCons (f2 dMul (fVar 2) (fIf (fBool (f2 dEq (fVar 3) (fC (.str "out")))) (fVar 4) (fVar 5))) (fCons (f2 dMul (fVar 2) (f2 dSub (fVar 5) (fVar 4))) fNil))))
  (sSeq (sSet 8 (f2 dFdiv (fVar 6) (fVar 2)))
  (sSeq (sSet 9 (fLst (fCons (fVar 6) (fCons (fVar 8) (fCons (f2 dMul (fVar 8) (f2 dAdd (fC (.int 1)) (fCall phi__law_sip (fCons (fVar 0) (fCons (fC (.int 9)) fNil))))) (fCons (fCall phi__law_sip (fCons (fVar 0) (fCons (fC (.int 12)) fNil))) (fCons (fC (.int 0)) (fCons (f2 dMul (fVar 8) (fVar 2)) fNil))))))))
  (sSeq (sSet 10 (fCall phi__law_one (fCons (fVar 0) (fCons (f2 dAdd (fVar 9) (fLst (fCons (f2 dAdd (fC (.int 1)) (fCall phi__law_wide (fCons (fVar 0) (fCons (fVar 1) fNil)))) fNil))) fNil))))
  (sSeq (sIf (fAnd (fBool (f2 dEq (fVar 3) (fC (.str "in")))) (fAnd (fBool (f2 dEq (fVar 7) (f2 dMul (fC (.int 2)) (fVar 6)))) (fBool (f2 dEq (fVar 10) (fVar 6))))) (sSet 10 (f2 dAdd (fVar 10) (fC (.int 1)))) sSkip)
  (sSeq (sSet 11 (fCall phi__law_one (fCons (fVar 0) (fCons (fLst (fCons (fC (.int 0)) (fCons (fC (.int 1)) (fCons (fCall phi__law_sip (fCons (fVar 0) (fCons (fC (.int 40)) fNil))) (fCons (fCall phi__law_wide (fCons (fVar 0) (fCons (fVar 7) fNil))) (fCons (fVar 2) (fCons (f2 dSub (f2 dPow (fC (.int 10)) (fC (.int 30))) (fCall phi__law_sip (fCons (fVar 0) (fCons (fC (.int 9)) fNil)))) fNil))))))) fNil))))
  (sRet (fTup (fCons (fVar 3) (fCons (fVar 7) (fCons (fVar 6) (fCons (fVar 10) (fCons (fVar 11) fNil)))))))))))))))
def phi__law_set : Den := runDef 2 12 b__law_set
abbrev b__law_twin : FS := (sSeq (sAsg (fVar 0) (gTup 5 (gsCons (gNam 1) (gsCons (gNam 2) (gsCons (gNam 3) (gsCons (gNam 4) (gsCons (gNam 5) gsNil)))))))
  (sSeq (sSet 6 (fCall phi__law_shared (fCons (fVar 2) (fCons (fVar 3) fNil))))
  (sSeq (sSet 7 (f2 dIx (fDisp (((fC (.str "in")), (f2 dSub (fVar 2) (fVar 3))) :: (((fC (.str "out")), (f2 dAdd (fVar 2) (fVar 3))) :: (((fC (.str "over")), (f2 dSub (fVar 3) (fVar 2))) :: [])))) (fVar 1)))
  (sSeq (sPar 8 9 (fCons (f2 dFdiv (fVar 3) (fVar 6)) (fCons (f2 dFdiv (fVar 7) (fVar 6)) fNil)))
  (sSeq (sIf (fOr (fBool (f2 dEq (fVar 4) (fC (.int 0)))) (fBool (f2 dNe (f2 dMod (fCall dInt (fCons (fVar 4) fNil)) (fVar 8)) (fC (.int 0))))) (sRet (fTup fNil)) sSkip)
  (sSeq (sSet 10 (f2 dFdiv (fVar 4) (fVar 8)))
  (sSeq (sIf (fBool (f2 dNe (f2 dMod (fCall dInt (fCons (f2 dMul (fVar 5) (fVar 10)) fNil)) (fVar 6)) (fC (.int 0)))) (sRet (fTup fNil)) sSkip)
  (sSeq (sSet 11 (f2 dMod (fCall dInt (fCons (f2 dFdiv (f2 dMul (fVar 5) (fVar 10)) (fVar 6)) fNil)) (fVar 10)))
  (sSeq (sIf (fBool (f2 dEq (fVar 1) (fC (.str "in")))) (sRet (fTup (fCons (fC (.str "in")) (fCons (f2 dMul (fVar 10) (f2 dAdd (fVar 8) (fVar 9))) (fCons (f2 dMul (fVar 10) (fVar 9)) (fCons (fVar 7) (fCons (fVar 11) fNil))))))) sSkip)
  (sSeq (sSet 12 (fIf (fBool (f2 dEq (fVar 1) (fC (.str "out")))) (f2 dSub (fVar 9) (fVar 8)) (f2 dSub (fVar 8) (fVar 9))))
  (sRet (fTup (fCons (fIf (fBool (f2 dEq (fVar 1) (fC (.str "out")))) (fC (.str "over")) (fC (.str "out"))) (fCons (f2 dMul (fVar 10) (fVar 12)) (fCons (f2 dMul (fVar 10) (fVar 9)) (fCons (fVar 7) (fCons (fVar 11) fNil)))))))))))))))))
def phi__law_twin : Den := runDef 1 13 b__law_twin
abbrev b__law_mate : FS := (sSeq (sPar 2 3 (fCons (fCall phi__law_sip (fCons (fVar 0) (fCons (fC (.int 9)) fNil))) (fCons (fCall phi__law_shared (fCons (f2 dIx (fVar 1) (fC (.int 1))) (fCons (f2 dIx (fVar 1) (fC (.int 2))) fNil))) fNil)))
  (sSeq (sSet 4 (fCall phi__law_one (fCons (fVar 0) (fCons (fLst (fCons (f2 dIx (fVar 1) (fC (.int 4))) (fCons (f2 dMod (fCall dInt (fCons (f2 dIx (fVar 1) (fC (.int 4))) fNil)) (fVar 3)) (fCons (f2 dAdd (f2 dIx (fVar 1) (fC (.int 4))) (fVar 3)) (fCons (f2 dAdd (f2 dIx (fVar 1) (fC (.int 4))) (fC (.int 1))) (fCons (f2 dAdd (fCall phi__law_wide (fCons (fVar 0) (fCons (fVar 3) fNil))) (f2 dMul (fC (.int 2)) (fVar 3))) fNil)))))) fNil))))
  (sSeq (sSet 5 (f2 dAdd (fSlice (fVar 1) fNoPart (fPart (fC (.int 4)))) (fTup (fCons (fCall dMin2 (fCons (fVar 4) (fCons (f2 dPow (fC (.int 10)) (fC (.int 30))) fNil))) fNil))))
  (sSeq (sIf (fBool (f2 dLt (fVar 2) (fC (.int 3)))) (sRet (fVar 5)) sSkip)
  (sSeq (sIf (fBool (f2 dLt (fVar 2) (fC (.int 6)))) (sSeq (sSet 6 (fCall phi__law_twin (fCons (fVar 5) fNil)))
  (sRet (fIf (fAnd (fBool (f2 dNe (fVar 6) (fTup fNil))) (fBool (f2 dLe (fCall dMax1 (fCons (fSlice (fVar 6) (fPart (fC (.int 1))) fNoPart) fNil)) (f2 dPow (fC (.int 10)) (fC (.int 30)))))) (fVar 6) (fVar 5)))) sSkip)
  (sSeq (sIf (fBool (f2 dEq (fVar 2) (fC (.int 6)))) (sSeq (sSet 7 (f2 dAdd (f2 dAdd (fSlice (fVar 5) fNoPart (fPart (fC (.int 3)))) (fTup (fCons (f2 dAdd (f2 dIx (fVar 5) (fC (.int 3))) (fC (.int 1))) fNil))) (fSlice (fVar 5) (fPart (fC (.int 4))) fNoPart)))
  (sRet (fIf (fAnd (fBool (f2 dEq (f2 dIx (fVar 7) (fC (.int 0))) (fC (.str "in")))) (fAnd (fBool (f2 dEq (f2 dIx (fVar 7) (fC (.int 1))) (f2 dMul (fC (.int 2)) (f2 dIx (fVar 7) (fC (.int 2)))))) (fBool (f2 dEq (f2 dIx (fVar 7) (fC (.int 3))) (f2 dIx (fVar 7) (fC (.int 2))))))) (fVar 5) (fVar 7)))) sSkip)
  (sSeq (sIf (fBool (f2 dEq (fVar 2) (fC (.int 7)))) (sRet (fIf (fBool (f2 dNe (f2 dIx (fVar 5) (fC (.int 0))) (fC (.str "in")))) (fVar 5) (f2 dAdd (fTup (fCons (fC (.str "out")) fNil)) (fSlice (fVar 5) (fPart (fC (.int 1))) fNoPart)))) sSkip)
  (sRet (fCall phi__law_set (fCons (fVar 0) (fCons (fC (.int 50)) fNil)))))))))))
def phi__law_mate : Den := runDef 2 8 b__law_mate
abbrev b_common : FS := (sSeq (sWhile (fBool (f2 dGt (fVar 1) (fC (.int 0)))) (sPar 0 1 (fCons (fVar 1) (fCons (f2 dMod (fCall dInt (fCons (fVar 0) fNil)) (fVar 1)) fNil))))
  (sRet (fVar 0)))
def phi_common : Den := runDef 2 2 b_common
abbrev b_reduced : FS := (sSeq (sSet 2 (f2 dMod (fCall dInt (fCons (fVar 0) fNil)) (fVar 1)))
  (sSeq (sSet 3 (fCall phi_common (fCons (fVar 1) (fCons (fVar 2) fNil))))
  (sRet (fTup (fCons (f2 dFdiv (fVar 2) (fVar 3)) (fCons (f2 dFdiv (fVar 1) (fVar 3)) fNil))))))
def phi_reduced : Den := runDef 2 4 b_reduced
abbrev b_scaled : FS := (sRet (fCall phi_reduced (fCons (f2 dMul (fVar 0) (f2 dIx (fVar 1) (fC (.int 0)))) (fCons (f2 dIx (fVar 1) (fC (.int 1))) fNil))))
def phi_scaled : Den := runDef 2 2 b_scaled
abbrev b_summed : FS := (sRet (fCall phi_reduced (fCons (f2 dAdd (f2 dMul (f2 dIx (fVar 0) (fC (.int 0))) (f2 dIx (fVar 1) (fC (.int 1)))) (f2 dMul (f2 dIx (fVar 1) (fC (.int 0))) (f2 dIx (fVar 0) (fC (.int 1))))) (fCons (f2 dMul (f2 dIx (fVar 0) (fC (.int 1))) (f2 dIx (fVar 1) (fC (.int 1)))) fNil))))
def phi_summed : Den := runDef 2 2 b_summed
abbrev b_are_matched : FS := (sRet (fAndV (f2 dEq (fSlice (fVar 0) fNoPart (fPart (fC (.int 2)))) (fSlice (fVar 1) fNoPart (fPart (fC (.int 2))))) (f2 dEq (f2 dIx (fVar 0) (fC (.int 2))) (fCall phi_summed (fCons (f2 dIx (fVar 1) (fC (.int 2))) (fCons (fCall phi_scaled (fCons (f2 dIx (fVar 0) (fC (.int 1))) (fCons (fVar 2) fNil))) fNil))))))
def phi_are_matched : Den := runDef 3 3 b_are_matched
abbrev b_is_between : FS := (sSeq (sIf (fOr (fNot (fTru (fCall dIsi (fCons (fVar 0) (fCons (fC (.ty "int")) fNil))))) (fOr (fTru (fCall dIsi (fCons (fVar 0) (fCons (fC (.ty "bool")) fNil)))) (fBool (f2 dLt (fVar 0) (fVar 1))))) (sRet (fC (.bl false))) sSkip)
  (sRet (fOrV (f2 dIs (fVar 2) (fC .non)) (f2 dLe (fVar 0) (fVar 2)))))
def phi_is_between : Den := runDef 3 3 b_is_between
abbrev b_is_part : FS := (sSeq (sIf (fOr (fNot (fTru (fCall dIsi (fCons (fVar 0) (fCons (fC (.ty "tuple")) fNil))))) (fOr (fBool (f2 dNe (fCall dLen (fCons (fVar 0) fNil)) (fC (.int 2)))) (fNot (fTru (fCall phi_is_between (fCons (f2 dIx (fVar 0) (fC (.int 1))) (fCons (fC (.int 1)) (fCons (fC .non) fNil)))))))) (sRet (fC (.bl false))) sSkip)
  (sRet (fAndV (fCall phi_is_between (fCons (f2 dIx (fVar 0) (fC (.int 0))) (fCons (fC (.int 0)) (fCons (f2 dSub (f2 dIx (fVar 0) (fC (.int 1))) (fC (.int 1))) fNil)))) (f2 dEq (fCall phi_reduced (fCons (f2 dIx (fVar 0) (fC (.int 0))) (fCons (f2 dIx (fVar 0) (fC (.int 1))) fNil))) (fVar 0)))))
def phi_is_part : Den := runDef 1 1 b_is_part
abbrev b_terms_of : FS := (sSeq (sAsg (fVar 0) (gTup 5 (gsCons (gNam 1) (gsCons (gNam 2) (gsCons (gNam 3) (gsCons (gNam 4) (gsCons (gNam 5) gsNil)))))))
  (sSeq (sSet 6 (fCall phi_common (fCons (fVar 2) (fCons (fVar 3) fNil))))
  (sSeq (sSet 7 (fCall phi_reduced (fCons (fVar 5) (fCons (fVar 2) fNil))))
  (sSeq (sSet 8 (fCall phi_summed (fCons (fVar 7) (fCons (fTup (fCons (fC (.int 1)) (fCons (fC (.int 2)) fNil))) fNil))))
  (sSeq (sIf (fBool (f2 dEq (fVar 1) (fC (.str "in")))) (sSet 9 (fTup (fCons (fTup (fCons (f2 dSub (fVar 2) (fVar 3)) (fCons (f2 dFdiv (fVar 3) (fVar 6)) (fCons (fVar 7) fNil)))) (fCons (fTup (fCons (fVar 4) (fCons (f2 dFdiv (f2 dSub (fVar 3) (fVar 2)) (fVar 6)) (fCons (fVar 7) fNil)))) fNil)))) (sIf (fBool (f2 dEq (fVar 1) (fC (.str "out")))) (sSet 9 (fTup (fCons (fTup (fCons (f2 dAdd (fVar 2) (fVar 3)) (fCons (f2 dFdiv (fVar 3) (fVar 6)) (fCons (fVar 7) fNil)))) (fCons (fTup (fCons (fVar 4) (fCons (f2 dFdiv (f2 dAdd (fVar 2) (fVar 3)) (fVar 6)) (fCons (fVar 8) fNil)))) fNil)))) (sSet 9 (fTup (fCons (fTup (fCons (f2 dSub (fVar 3) (fVar 2)) (fCons (f2 dFdiv (fVar 3) (fVar 6)) (fCons (fVar 8) fNil)))) (fCons (fTup (fCons (fVar 4) (fCons (f2 dFdiv (f2 dSub (fVar 3) (fVar 2)) (fVar 6)) (fCons (fVar 7) fNil)))) fNil))))))
  (sRet (fIf (fBool (f2 dGt (fVar 4) (fC (.int 0)))) (fVar 9) (fTup (fCons (fTup (fCons (f2 dIx (f2 dIx (fVar 9) (fC (.int 0))) (fC (.int 0))) (fCons (fC (.int 1)) (fCons (f2 dIx (f2 dIx (fVar 9) (fC (.int 0))) (fC (.int 2))) fNil)))) fNil)))))))))
def phi_terms_of : Den := runDef 1 10 b_terms_of
abbrev b_is_same_line : FS := (sSeq (sIf (fOr (fNot (fTru (fCall dIsi (fCons (fVar 2) (fCons (fC (.ty "tuple")) fNil))))) (fBool (f2 dNe (fCall dLen (fCons (fVar 2) fNil)) (fC (.int 3))))) (sRet (fC (.bl false))) sSkip)
  (sSeq (sAsg (fVar 2) (gTup 3 (gsCons (gNam 3) (gsCons (gNam 4) (gsCons (gNam 5) gsNil)))))
  (sSeq (sIf (fOr (fNot (fTru (fCall dIsi (fCons (fVar 3) (fCons (fC (.ty "bool")) fNil))))) (fOr (fNot (fTru (fCall dIsi (fCons (fVar 4) (fCons (fC (.ty "bool")) fNil))))) (fNot (fTru (fCall phi_is_part (fCons (fVar 5) fNil)))))) (sRet (fC (.bl false))) sSkip)
  (sSeq (sSet 6 (fCall phi_terms_of (fCons (fVar 0) fNil)))
  (sSeq (sSet 7 (fCall phi_terms_of (fCons (fVar 1) fNil)))
  (sSeq (sIf (fOr (fBool (f2 dNe (fCall dLen (fCons (fVar 6) fNil)) (fCall dLen (fCons (fVar 7) fNil)))) (fAnd (fTru (fVar 3)) (fBool (f2 dEq (fCall dLen (fCons (fVar 6) fNil)) (fC (.int 1)))))) (sRet (fC (.bl false))) sSkip)
  (sSeq (sIf (fTru (fVar 3)) (sSet 7 (f1 dRev2 (fVar 7))) sSkip)
  (sSeq (sIf (fTru (fVar 4)) (sSet 7 (fCall dTupOf (fCons (fLc (fIter dIterB (fVar 7)) (.tup [10, 11, 12]) ftYes (fTup (fCons (fVar 10) (fCons (f1 dNeg (fVar 11)) (fCons (fVar 12) fNil))))) fNil))) sSkip)
  (sRet (fCall dAll (fCons (fLc (fIterA dZip (fCons (fVar 6) (fCons (fVar 7) fNil))) (.tup [8, 9]) ftYes (fCall phi_are_matched (fCons (fVar 8) (fCons (fVar 9) (fCons (fVar 5) fNil))))) fNil)))))))))))
def phi_is_same_line : Den := runDef 3 13 b_is_same_line
abbrev b_is_one_of : FS := (sRet (fAndV (fCall dIsi (fCons (fVar 0) (fCons (fC (.ty "str")) fNil))) (f2 dIn (fVar 0) (fVar 1))))
def phi_is_one_of : Den := runDef 2 2 b_is_one_of
abbrev b_is_stroke : FS := (sRet (fAndV (f2 dEq (fVar 0) (fC (.str "in"))) (fAndV (f2 dEq (fVar 1) (f2 dMul (fC (.int 2)) (fVar 2))) (f2 dEq (fVar 3) (fVar 2)))))
def phi_is_stroke : Den := runDef 4 4 b_is_stroke
abbrev b_wheel_fits : FS := (sRet (fOrV (f2 dEq (fVar 0) (fC (.str "out"))) (fOrV (fAndV (f2 dEq (fVar 0) (fC (.str "in"))) (f2 dLt (fVar 2) (fVar 1))) (fAndV (f2 dEq (fVar 0) (fC (.str "over"))) (f2 dGt (fVar 2) (fVar 1))))))
def phi_wheel_fits : Den := runDef 3 3 b_wheel_fits
abbrev b_is_setting : FS := (sSeq (sIf (fOr (fNot (fTru (fCall dIsi (fCons (fVar 0) (fCons (fC (.ty "tuple")) fNil))))) (fOr (fBool (f2 dNe (fCall dLen (fCons (fVar 0) fNil)) (fC (.int 5)))) (fNot (fTru (fCall phi_is_one_of (fCons (f2 dIx (fVar 0) (fC (.int 0))) (fCons (fC (.ktp (ks_SIDES.map D.str))) fNil))))))) (sRet (fC (.bl false))) sSkip)
  (sSeq (sAsg (fVar 0) (gTup 5 (gsCons (gNam 2) (gsCons (gNam 3) (gsCons (gNam 4) (gsCons (gNam 5) (gsCons (gNam 6) gsNil)))))))
  (sSeq (sIf (fOr (fNot (fTru (fCall phi_is_between (fCons (fVar 3) (fCons (fC (.int 1)) (fCons (fVar 1) fNil)))))) (fOr (fNot (fTru (fCall phi_is_between (fCons (fVar 4) (fCons (fC (.int 1)) (fCons (fVar 1) fNil)))))) (fNot (fTru (fCall phi_is_between (fCons (fVar 5) (fCons (fC (.int 0)) (fCons (fVar 1) fNil)))))))) (sRet (fC (.bl false))) sSkip)
  (sRet (fAndV (fCall phi_is_between (fCons (fVar 6) (fCons (fC (.int 0)) (fCons (fVar 1) fNil)))) (fAndV (fCall phi_wheel_fits (fCons (fVar 2) (fCons (fVar 3) (fCons (fVar 4) fNil)))) (fNotV (fCall phi_is_stroke (fCons (fVar 2) (fCons (fVar 3) (fCons (fVar 4) (fCons (fVar 5) fNil))))))))))))
def phi_is_setting : Den := runDef 2 7 b_is_setting
abbrev b_accepts : FS := (sSeq (sIf (fOr (fNot (fTru (fCall dIsi (fCons (fVar 0) (fCons (fC (.ty "tuple")) fNil))))) (fOr (fBool (f2 dEq (fCall dLen (fCons (fVar 0) fNil)) (fC (.int 0)))) (fOr (fNot (fTru (fCall dIsi (fCons (f2 dIx (fVar 0) (fC (.int 0))) (fCons (fC (.ty "str")) fNil))))) (fBool (f2 (dNotInK "LENGTHS" kd_LENGTHS aw_LENGTHS) (f2 dIx (fVar 0) (fC (.int 0))) (fC (.glo "LENGTHS"))))))) (sRet (fC (.bl false))) sSkip)
  (sSeq (sIf (fBool (f2 dNe (fCall dLen (fCons (fVar 0) fNil)) (f2 (dIxK "LENGTHS" kd_LENGTHS) (fC (.glo "LENGTHS")) (f2 dIx (fVar 0) (fC (.int 0)))))) (sRet (fC (.bl false))) sSkip)
  (sSeq (sIf (fBool (f2 dEq (f2 dIx (fVar 0) (fC (.int 0))) (fC (.str "same line")))) (sSeq (sIf (fOr (fNot (fTru (fCall phi_is_setting (fCons (f2 dIx (fVar 0) (fC (.int 1))) (fCons (fC (.int (10 ^ 30))) fNil))))) (fNot (fTru (fCall phi_is_setting (fCons (f2 dIx (fVar 0) (fC (.int 2))) (fCons (fC (.int (10 ^ 30))) fNil)))))) (sRet (fC (.bl false))) sSkip)
  (sRet (fCall phi_is_same_line (fCons (f2 dIx (fVar 0) (fC (.int 1))) (fCons (f2 dIx (fVar 0) (fC (.int 2))) (fCons (fVar 1) fNil)))))) sSkip)
  sBad)))
def phi_accepts : Den := runDef 2 4 b_accepts
end LB
set_option maxRecDepth 100000
set_option maxHeartbeats 4000000
namespace DL
open PySem PySem.Spec PyProof.Rows L2 LB
section
variable (ρ : Env) (g : Gs) (f h k : FS) (fa fb fc : FE) (ft fu : FT) (fs : FA) (d : D) (ds : List D)
theorem ap_seq : sSeq f h ρ g = match f ρ g with | .nx r g' => h r g' | o => o := (rfl)
theorem ap_skip : sSkip ρ g = .nx ρ g := (rfl)
theorem ap_bad : sBad ρ g = .bad := (rfl)
theorem ap_break : sBreak ρ g = .bk ρ g := (rfl)
theorem ap_cont : sCont ρ g = .ct ρ g := (rfl)
theorem ap_if : sIf ft f h ρ g = match ft ρ g with | .ok true g' => f ρ g' | .ok false g' => h ρ g' | .exc x g' => .ex x ρ g' | .bad => .bad := by
  show sOfT (ft ρ g) ρ _ = _
  cases ft ρ g with
  | ok b g' => cases b <;> rfl
  | exc x g' => rfl
  | bad => rfl
theorem ap_set (i : Nat) : sSet i fa ρ g = match fa ρ g with | .ok d g' => .nx (ρ.set i (some d)) g' | .exc x g' => .ex x ρ g' | .bad => .bad := (rfl)
theorem ap_par (i j : Nat) : sPar i j fs ρ g = match fs ρ g with | .ok ds g' => (match ds with | [x, y] => .nx ((ρ.set i (some x)).set j (some y)) g' | _ => .bad) | .exc x g' => .ex x ρ g' | .bad => .bad := (rfl)
theorem ap_par3 (i j l : Nat) : sPar3 i j l fs ρ g = match fs ρ g with | .ok ds g' => (match ds with | [x, y, z] => .nx (((ρ.set i (some x)).set j (some y)).set l (some z)) g' | _ => .bad) | .exc x g' => .ex x ρ g' | .bad => .bad := (rfl)
theorem ap_ret : sRet fa ρ g = match fa ρ g with | .ok d g' => .rt d g' | .exc x g' => .ex x ρ g' | .bad => .bad := (rfl)
theorem ap_retN : sRetN ρ g = .rt .non g := (rfl)
theorem ap_expr : sExpr fa ρ g = match fa ρ g with | .ok d g' => .nx ρ g' | .exc x g' => .ex x ρ g' | .bad => .bad := (rfl)
theorem ap_asg (fg : FG) : sAsg fa fg ρ g = match fa ρ g with | .ok d g' => (match fg d ρ g' with | .ok r g2 => .nx r g2 | .bad => .bad) | .exc x g' => .ex x ρ g' | .bad => .bad := (rfl)
theorem ap_for (fi : FI) (fg : FG) : sFor fi fg f ρ g = match fi ρ g with | .ok ds g' => forD fg f ds ρ g' | .exc x g' => .ex x ρ g' | .bad => .bad := (rfl)
theorem ap_for_nil (fg : FG) : forD fg f [] ρ g = .nx ρ g := (rfl)
theorem ap_for_cons (fg : FG) : forD fg f (d :: ds) ρ g = match fg d ρ g with | .bad => .bad | .ok r g1 => (match f r g1 with | .nx r2 g2 => forD fg f ds r2 g2 | .ct r2 g2 => forD fg f ds r2 g2 | .bk r2 g2 => .nx r2 g2 | o => o) := by
  first
  | (rw [forD]; done)
  | (rw [forD]
     cases fg d ρ g with
     | bad => rfl
     | ok r g1 => dsimp only; cases f r g1 <;> rfl)
theorem ap_var (i : Nat) : fVar i ρ g = match ρ[i]? with | some (some d) => .ok d g | _ => .bad := (rfl)
theorem ap_C : fC d ρ g = .ok d g := (rfl)
theorem ap_f2 (k : D → D → M D) : f2 k fa fb ρ g = match fa ρ g with | .ok x g1 => (match fb ρ g1 with | .ok y g2 => k x y g2 | .exc x g' => .exc x g' | .bad => .bad) | .exc x g' => .exc x g' | .bad => .bad := by
  show Out.bind (fa ρ g) _ = _
  cases fa ρ g with
  | ok x g1 => show Out.bind (fb ρ g1) _ = _; dsimp only; cases fb ρ g1 <;> rfl
  | exc x g' => rfl
  | bad => rfl
theorem ap_f1 (k : D → M D) : f1 k fa ρ g = match fa ρ g with | .ok x g1 => k x g1 | .exc x g' => .exc x g' | .bad => .bad := by
  show Out.bind (fa ρ g) _ = _
  cases fa ρ g <;> rfl
theorem ap_nil : fNil ρ g = .ok [] g := (rfl)
theorem ap_cons : fCons fa fs ρ g = match fa ρ g with | .ok x g1 => (match fs ρ g1 with | .ok xs g2 => .ok (x :: xs) g2 | .exc x g' => .exc x g' | .bad => .bad) | .exc x g' => .exc x g' | .bad => .bad := by
  show Out.bind (fa ρ g) _ = _
  cases fa ρ g with
  | ok x g1 => show Out.bind (fs ρ g1) _ = _; dsimp only; cases fs ρ g1 <;> rfl
  | exc x g' => rfl
  | bad => rfl
theorem ap_tup : fTup fs ρ g = match fs ρ g with | .ok x g1 => dTup x g1 | .exc x g' => .exc x g' | .bad => .bad := by
  show Out.bind (fs ρ g) _ = _
  cases fs ρ g <;> rfl
theorem ap_lst : fLst fs ρ g = match fs ρ g with | .ok x g1 => dLst x g1 | .exc x g' => .exc x g' | .bad => .bad := by
  show Out.bind (fs ρ g) _ = _
  cases fs ρ g <;> rfl
theorem ap_cellL : fCellL fs ρ g = match fs ρ g with | .ok x g1 => dCellL x g1 | .exc x g' => .exc x g' | .bad => .bad := by
  show Out.bind (fs ρ g) _ = _
  cases fs ρ g <;> rfl
theorem ap_call (phi : Den) : fCall phi fs ρ g = match fs ρ g with | .ok x g1 => phi x g1 | .exc x g' => .exc x g' | .bad => .bad := by
  show Out.bind (fs ρ g) _ = _
  cases fs ρ g <;> rfl
theorem ap_fif : fIf ft fa fb ρ g = match ft ρ g with | .ok true g' => fa ρ g' | .ok false g' => fb ρ g' | .exc x g' => .exc x g' | .bad => .bad := by
  show Out.bind (ft ρ g) _ = _
  cases ft ρ g with
  | ok b g' => cases b <;> rfl
  | exc x g' => rfl
  | bad => rfl
theorem ap_bool : fBool fa ρ g = match fa ρ g with | .ok d g' => (match d with | .bl b => .ok b g' | _ => .bad) | .exc x g' => .exc x g' | .bad => .bad := by
  show Out.bind (fa ρ g) _ = _
  cases fa ρ g <;> rfl
theorem ap_tru : fTru fa ρ g = match fa ρ g with | .ok d g' => dTru d g' | .exc x g' => .exc x g' | .bad => .bad := by
  show Out.bind (fa ρ g) _ = _
  cases fa ρ g <;> rfl
theorem ap_and : fAnd ft fu ρ g = match ft ρ g with | .ok true g' => fu ρ g' | .ok false g' => .ok false g' | .exc x g' => .exc x g' | .bad => .bad := by
  show Out.bind (ft ρ g) _ = _
  cases ft ρ g with
  | ok b g' => cases b <;> rfl
  | exc x g' => rfl
  | bad => rfl
theorem ap_or : fOr ft fu ρ g = match ft ρ g with | .ok true g' => .ok true g' | .ok false g' => fu ρ g' | .exc x g' => .exc x g' | .bad => .bad := by
  show Out.bind (ft ρ g) _ = _
  cases ft ρ g with
  | ok b g' => cases b <;> rfl
  | exc x g' => rfl
  | bad => rfl
theorem ap_not : fNot ft ρ g = match ft ρ g with | .ok b g' => .ok (!b) g' | .exc x g' => .exc x g' | .bad => .bad := by
  show Out.bind (ft ρ g) _ = _
  cases ft ρ g <;> rfl
theorem ap_andV : fAndV fa fb ρ g = match fa ρ g with | .ok d g' => (match d with | .bl true => fb ρ g' | .bl false => .ok (.bl false) g' | _ => .bad) | .exc x g' => .exc x g' | .bad => .bad := by
  show Out.bind (Out.bind (fa ρ g) _) _ = _
  cases fa ρ g with
  | ok d g' => cases d with
    | bl b => cases b <;> rfl
    | _ => rfl
  | exc x g' => rfl
  | bad => rfl
theorem ap_orV : fOrV fa fb ρ g = match fa ρ g with | .ok d g' => (match d with | .bl true => .ok (.bl true) g' | .bl false => fb ρ g' | _ => .bad) | .exc x g' => .exc x g' | .bad => .bad := by
  show Out.bind (Out.bind (fa ρ g) _) _ = _
  cases fa ρ g with
  | ok d g' => cases d with
    | bl b => cases b <;> rfl
    | _ => rfl
  | exc x g' => rfl
  | bad => rfl
theorem ap_notV : fNotV fa ρ g = match fa ρ g with | .ok d g' => (match d with | .bl b => .ok (.bl (!b)) g' | _ => .bad) | .exc x g' => .exc x g' | .bad => .bad := by
  show Out.bind (Out.bind (fa ρ g) _) _ = _
  cases fa ρ g with
  | ok d g' => cases d <;> rfl
  | exc x g' => rfl
  | bad => rfl
theorem ap_chain (k k' : D → D → M D) : fChain k k' fa fb fc ρ g = match fa ρ g with | .ok x g1 => (match fb ρ g1 with | .ok y g2 => (match k x y g2 with | .ok z g3 => (match z with | .bl true => (match fc ρ g3 with | .ok w g4 => k' y w g4 | .exc x g' => .exc x g' | .bad => .bad) | .bl false => .ok (.bl false) g3 | _ => .bad) | .exc x g' => .exc x g' | .bad => .bad) | .exc x g' => .exc x g' | .bad => .bad) | .exc x g' => .exc x g' | .bad => .bad := by
  show Out.bind (fa ρ g) _ = _
  cases fa ρ g with
  | ok x g1 =>
    show Out.bind (fb ρ g1) _ = _
    dsimp only
    cases fb ρ g1 with
    | ok y g2 =>
      show Out.bind (k x y g2) _ = _
      dsimp only
      cases k x y g2 with
      | ok z g3 => cases z with
        | bl b => cases b with
          | true => show Out.bind (fc ρ g3) _ = _; dsimp only; cases fc ρ g3 <;> rfl
          | false => rfl
        | _ => rfl
      | exc x g' => rfl
      | bad => rfl
    | exc x g' => rfl
    | bad => rfl
  | exc x g' => rfl
  | bad => rfl
theorem ap_part : fPart fa ρ g = match fa ρ g with | .ok d g' => (match d with | .int i => .ok (some i) g' | _ => .bad) | .exc x g' => .exc x g' | .bad => .bad := by
  show Out.bind (fa ρ g) _ = _
  cases fa ρ g <;> rfl
theorem ap_nopart : fNoPart ρ g = .ok none g := (rfl)
theorem ap_slice (fl fh : FO) : fSlice fa fl fh ρ g = match fa ρ g with | .ok x g1 => (match fl ρ g1 with | .ok l g2 => (match fh ρ g2 with | .ok h g3 => dSlice x l h g3 | .exc x g' => .exc x g' | .bad => .bad) | .exc x g' => .exc x g' | .bad => .bad) | .exc x g' => .exc x g' | .bad => .bad := by
  show Out.bind (fa ρ g) _ = _
  cases fa ρ g with
  | ok x g1 =>
    show Out.bind (fl ρ g1) _ = _
    dsimp only
    cases fl ρ g1 with
    | ok l g2 => show Out.bind (fh ρ g2) _ = _; dsimp only; cases fh ρ g2 <;> rfl
    | exc x g' => rfl
    | bad => rfl
  | exc x g' => rfl
  | bad => rfl
theorem ap_disp (l : List (FE × FE)) : fDisp l ρ g = match fPairs l ρ g with | .ok x g1 => dDisp x g1 | .exc x g' => .exc x g' | .bad => .bad := by
  show Out.bind (fPairs l ρ g) _ = _
  cases fPairs l ρ g <;> rfl
theorem ap_pnil : fPairs [] ρ g = .ok [] g := (rfl)
theorem ap_pcons (l : List (FE × FE)) : fPairs ((fa, fb) :: l) ρ g = match fa ρ g with | .ok x g1 => (match fb ρ g1 with | .ok y g2 => (match fPairs l ρ g2 with | .ok ps g3 => .ok ((x, y) :: ps) g3 | .exc x g' => .exc x g' | .bad => .bad) | .exc x g' => .exc x g' | .bad => .bad) | .exc x g' => .exc x g' | .bad => .bad := by
  show Out.bind (fa ρ g) _ = _
  cases fa ρ g with
  | ok x g1 =>
    show Out.bind (fb ρ g1) _ = _
    dsimp only
    cases fb ρ g1 with
    | ok l1 g2 => show Out.bind (fPairs l ρ g2) _ = _; dsimp only; cases fPairs l ρ g2 <;> rfl
    | exc x g' => rfl
    | bad => rfl
  | exc x g' => rfl
  | bad => rfl
theorem ap_iter (k : D → M (List D)) : fIter k fa ρ g = match fa ρ g with | .ok x g1 => k x g1 | .exc x g' => .exc x g' | .bad => .bad := by
  show Out.bind (fa ρ g) _ = _
  cases fa ρ g <;> rfl
theorem ap_iterA (k : List D → M (List D)) : fIterA k fs ρ g = match fs ρ g with | .ok x g1 => k x g1 | .exc x g' => .exc x g' | .bad => .bad := by
  show Out.bind (fs ρ g) _ = _
  cases fs ρ g <;> rfl
theorem ap_lc (fi : FI) (pt : Pt) : fLc fi pt ft fa ρ g = match fi ρ g with | .ok ds g1 => (match lcD pt ft fa (wipeD ρ (ptIx pt)) ds [] g1 with | .ok l g2 => .ok (.lst l) g2 | .exc x g' => .exc x g' | .bad => .bad) | .exc x g' => .exc x g' | .bad => .bad := by
  show Out.bind (fi ρ g) _ = _
  cases fi ρ g with
  | ok x g1 => show Out.bind (lcD pt ft fa (wipeD ρ (ptIx pt)) x [] g1) _ = _; dsimp only; cases lcD pt ft fa (wipeD ρ (ptIx pt)) x [] g1 <;> rfl
  | exc x g' => rfl
  | bad => rfl
theorem ap_gnam (i : Nat) : gNam i d ρ g = .ok (ρ.set i (some d)) g := (rfl)
theorem ap_gtup (n : Nat) (l : FGs) : DL.gTup n l d ρ g = match d with | .tup ds => (if ds.length = n then l ds ρ g else .bad) | _ => .bad := by
  cases d <;> rfl
theorem ap_glst (n : Nat) (l : FGs) : DL.gLst n l d ρ g = match d with | .lst ds => (if ds.length = n then l ds ρ g else .bad) | _ => .bad := by
  cases d <;> rfl
theorem ap_gsnil : gsNil [] ρ g = .ok ρ g := (rfl)
theorem ap_gscons (x : FG) (l : FGs) : gsCons x l (d :: ds) ρ g = match x d ρ g with | .ok r g' => l ds r g' | .bad => .bad := (rfl)
theorem ap_yes : ftYes ρ g = .ok true g := (rfl)
theorem ap_run (n N : Nat) : runDef n N f ds g = if ds.length = n then (match f (ds.map some ++ List.replicate (N - n) none) g with | .nx _ g' => .ok .non g' | .rt d g' => .ok d g' | .ex x _ g' => .exc x g' | _ => .bad) else .bad := (rfl)
end
/-- small enough for every step -/
def Sm (i : Int) : Prop := i.natAbs < 10 ^ 200
theorem sm_of {i : Int} (h1 : -(10 ^ 200) < i) (h2 : i < 10 ^ 200) : Sm i := by
  unfold Sm
  omega
theorem big_pow : (10 : Nat) ^ 200 ≤ 2 ^ 700 := by decide
theorem log_lt {n k : Nat} (h : n < 2 ^ k) (hk : 0 < k) : n.log2 < k := by
  by_cases hn : n = 0
  · subst hn; rw [Nat.log2_zero]; exact hk
  · exact (Nat.log2_lt hn).mpr h
theorem sm_log {i : Int} (h : Sm i) : i.natAbs.log2 < 700 := log_lt (Nat.lt_of_lt_of_le h big_pow) (by decide)
theorem bits_of {i : Int} {k : Nat} (h : i.natAbs.log2 < k) : Builtin.Int.intBits i ≤ k := by
  unfold Builtin.Int.intBits
  split <;> omega
theorem sm_bits {i : Int} (h : Sm i) : Builtin.Int.intBits i ≤ 700 := bits_of (sm_log h)
theorem okMul_bits {i j : Int} (h : Builtin.Int.intBits i ≤ 60000000) (h2 : Builtin.Int.intBits j ≤ 60000000) : okMul i j = true := decide_eq_true (by unfold CMulX; omega)
theorem okMul_sm {i j : Int} (h : Sm i) (h2 : Sm j) : okMul i j = true := okMul_bits (Nat.le_trans (sm_bits h) (by decide)) (Nat.le_trans (sm_bits h2) (by decide))
theorem dAdd_ii (i j : Int) (g : Gs) : dAdd (.int i) (.int j) g = .ok (.int (i + j)) g := (rfl)
theorem dSub_ii (i j : Int) (g : Gs) : dSub (.int i) (.int j) g = .ok (.int (i - j)) g := (rfl)
theorem dMul_ii {i j : Int} (h : okMul i j = true) (g : Gs) : dMul (.int i) (.int j) g = .ok (.int (i * j)) g := by
  show (if okMul i j = true then _ else _) = _
  rw [if_pos h]
theorem dMod_ii {i j : Int} (h : 0 < j) (g : Gs) : dMod (.int i) (.int j) g = .ok (.int (i % j)) g := by
  unfold dMod dII
  dsimp only
  rw [if_pos (decide_eq_true (by omega)), Int.fmod_eq_emod_of_nonneg _ (by omega)]
theorem dFdiv_ii {i j : Int} (h : 0 < j) (hs : Sm j) (g : Gs) : dFdiv (.int i) (.int j) g = .ok (.int (i / j)) g := by
  unfold dFdiv dII
  dsimp only
  rw [if_pos (show okDiv j = true from decide_eq_true ⟨by omega, Nat.lt_trans (sm_log hs) (by decide)⟩), Int.fdiv_eq_ediv_of_nonneg _ (by omega)]
theorem dLt_ii (i j : Int) (g : Gs) : dLt (.int i) (.int j) g = .ok (.bl (decide (i < j))) g := (rfl)
theorem dLe_ii (i j : Int) (g : Gs) : dLe (.int i) (.int j) g = .ok (.bl (decide (i ≤ j))) g := (rfl)
theorem dGt_ii (i j : Int) (g : Gs) : dGt (.int i) (.int j) g = .ok (.bl (decide (j < i))) g := (rfl)
theorem dGe_ii (i j : Int) (g : Gs) : dGe (.int i) (.int j) g = .ok (.bl (decide (j ≤ i))) g := (rfl)
theorem dNeg_i (i : Int) (g : Gs) : dNeg (.int i) g = .ok (.int (-i)) g := (rfl)
theorem dEq_ii (i j : Int) (g : Gs) : dEq (.int i) (.int j) g = .ok (.bl (decide (i = j))) g := by
  have h : PyData.eqv (.int i) (.int j) = decide (i = j) := by
    simp only [PyData.eqv]
    rfl
  show (match (if (SeqAt.shaped (.int i) && SeqAt.shaped (.int j)) = true then some (PyData.eqv (.int i) (.int j)) else none) with | some b => Out.ok (D.bl b) g | none => .bad) = _
  rw [if_pos (show (SeqAt.shaped (PyData.int i) && SeqAt.shaped (PyData.int j)) = true from rfl), h]
theorem dInt_i (i : Int) (g : Gs) : dInt [.int i] g = .ok (.int i) g := (rfl)
def eu : Nat → Int → Int → Option Int
  | 0, _, _ => none
  | n + 1, a, b => if b = 0 then some a else eu n b (a % b)
def fibs : Nat → Nat × Nat
  | 0 => (1, 1)
  | n + 1 => ((fibs n).2, (fibs n).1 + (fibs n).2)
theorem gcd_step (a b : Int) : Int.gcd a b = Int.gcd b (a % b) := by
  apply Nat.dvd_antisymm
  · refine Int.dvd_gcd (Int.gcd_dvd_right ..) ?_
    rw [Int.emod_def]
    exact Int.dvd_sub (Int.gcd_dvd_left ..) (Int.dvd_trans (Int.gcd_dvd_right ..) (Int.dvd_mul_right _ _))
  · refine Int.dvd_gcd ?_ (Int.gcd_dvd_left ..)
    have h : a = a % b + b * (a / b) := (Int.emod_add_mul_ediv a b).symm
    have h2 : ((Int.gcd b (a % b) : Nat) : Int) ∣ a % b + b * (a / b) := Int.dvd_add (Int.gcd_dvd_right ..) (Int.dvd_trans (Int.gcd_dvd_left ..) (Int.dvd_mul_right _ _))
    rw [← h] at h2
    exact h2
theorem emod_le' {a b : Int} (h : 0 ≤ a) : a % b ≤ a := by
  by_cases hb : b = 0
  · subst hb; rw [Int.emod_zero]; exact Int.le_refl a
  · by_cases hp : 0 < b
    · have h1 := Int.emod_add_mul_ediv a b
      have h2 : 0 ≤ a / b := Int.ediv_nonneg h (by omega)
      have h3 : 0 ≤ b * (a / b) := Int.mul_nonneg (by omega) h2
      omega
    · have h1 := Int.emod_add_mul_ediv a b
      have h2 : a / b ≤ 0 := Int.ediv_nonpos_of_nonneg_of_nonpos h (by omega)
      have h3 : 0 ≤ b * (a / b) := Int.mul_nonneg_of_nonpos_of_nonpos (by omega) h2
      omega
theorem gcd_zero {a : Int} (ha : 0 ≤ a) : (Int.gcd a 0 : Int) = a := by rw [Int.gcd_zero_right, Int.natAbs_of_nonneg ha]
theorem eu_zero {n : Nat} {a : Int} (ha : 0 ≤ a) : eu (n + 1) a 0 = some (Int.gcd a 0 : Int) := by
  show some a = _
  rw [gcd_zero ha]
theorem eu_step {n : Nat} {a b : Int} (hb : b ≠ 0) : eu (n + 1) a b = eu n b (a % b) := by
  show (if b = 0 then some a else eu n b (a % b)) = _
  rw [if_neg hb]
theorem eu_gcd2 : ∀ (n : Nat), (∀ (a b : Int), 0 ≤ a → 0 ≤ b → b < ((fibs n).1 : Int) → eu (n + 1) a b = some (Int.gcd a b : Int)) ∧ ∀ (a b : Int), 0 ≤ a → 0 ≤ b → b < ((fibs n).2 : Int) → eu (n + 2) a b = some (Int.gcd a b : Int)
  | 0 => by
    refine ⟨fun a b ha hb h => ?_, fun a b ha hb h => ?_⟩
    · have e : b = 0 := by have : (fibs 0).1 = 1 := rfl; omega
      subst e
      exact eu_zero ha
    · have e : b = 0 := by have : (fibs 0).2 = 1 := rfl; omega
      subst e
      exact eu_zero ha
  | n + 1 => by
    obtain ⟨p, q⟩ := eu_gcd2 n
    refine ⟨fun a b ha hb h => q a b ha hb h, fun a b ha hb h => ?_⟩
    by_cases e : b = 0
    · subst e; exact eu_zero ha
    · have hb2 : 0 < b := by omega
      have r0 := Int.emod_nonneg a e
      have r1 := Int.emod_lt_of_pos a hb2
      rw [eu_step e, gcd_step a b]
      by_cases hr : a % b < ((fibs n).2 : Int)
      · exact q b (a % b) hb r0 hr
      · have hpos : 0 < (fibs n).2 := by
          clear p q hr h
          induction n with
          | zero => decide
          | succ n ih => show 0 < (fibs n).1 + (fibs n).2; omega
        have e2 : a % b ≠ 0 := by omega
        rw [eu_step e2, gcd_step b (a % b)]
        refine p _ _ r0 (Int.emod_nonneg _ e2) ?_
        have h3 : ((fibs (n + 1)).2 : Int) = ((fibs n).1 : Int) + ((fibs n).2 : Int) := by
          show (((fibs n).1 + (fibs n).2 : Nat) : Int) = _
          omega
        rw [h3] at h
        have h4 : b % (a % b) ≤ b - a % b := by
          have h5 : (b - a % b) % (a % b) = b % (a % b) := Int.sub_emod_right ..
          rw [← h5]
          have h6 : 0 ≤ b - a % b := by omega
          exact emod_le' h6
        omega
/-- what 400 turns do for -/
def line83 : Int := 10 ^ 83
theorem fib400 : (10 : Nat) ^ 83 ≤ (fibs 399).1 := by decide +kernel
theorem eu400 {a b : Int} (ha : 0 ≤ a) (hb : 0 ≤ b) (h : b < line83) : eu 400 a b = some (Int.gcd a b : Int) := by
  refine (eu_gcd2 399).1 a b ha hb ?_
  have h2 : ((10 ^ 83 : Nat) : Int) ≤ ((fibs 399).1 : Int) := Int.ofNat_le.mpr fib400
  have h3 : line83 = ((10 ^ 83 : Nat) : Int) := by decide
  omega
end DL
set_option maxRecDepth 100000
set_option maxHeartbeats 4000000
namespace LB
open PySem PySem.Spec PyProof.Rows L2 DL
abbrev shB : FS := (sSeq (sIf (fBool (f2 dEq (fVar 1) (fC (.int 0)))) (sRet (fVar 0)) sSkip) (sPar 0 1 (fCons (fVar 1) (fCons (f2 dMod (fCall dInt (fCons (fVar 0) fNil)) (fVar 1)) fNil))))
theorem shared_loop : ∀ (l : List D) (a b r : Int) (x : Option D) (g : Gs), 0 ≤ b → eu l.length a b = some r → forD (gNam 2) shB l [some (.int a), some (.int b), x] g = .rt (.int r) g := by
  intro l
  induction l with
  | nil => intro a b r x g hb h; cases h
  | cons d l ih =>
    intro a b r x g hb h
    rw [List.length_cons] at h
    by_cases e : b = 0
    · subst e
      have h : some a = some r := h
      cases h
      simp only [forD, shB, ap_seq, ap_skip, ap_bad, ap_break, ap_cont, ap_if, ap_set, ap_par, ap_par3, ap_ret, ap_retN, ap_expr, ap_asg, ap_for, ap_var, ap_C, ap_f2, ap_f1, ap_nil, ap_cons, ap_tup, ap_lst, ap_cellL, ap_call, ap_fif, ap_bool, ap_tru, ap_and, ap_or, ap_not, ap_andV, ap_orV, ap_notV, ap_chain, ap_part, ap_nopart, ap_slice, ap_disp, ap_pnil, ap_pcons, ap_iter, ap_iterA, ap_lc, ap_gnam, ap_gtup, ap_glst, ap_gsnil, ap_gscons, ap_run, ap_yes, List.length_cons, List.length_nil, List.map_cons, List.map_nil, List.replicate_succ, List.replicate_zero, List.cons_append, List.nil_append, List.getElem?_cons_zero, List.getElem?_cons_succ, List.getElem?_nil, List.set_cons_zero, List.set_cons_succ, if_true, if_false, reduceIte, Nat.reduceAdd, Nat.reduceSub, Bool.false_eq_true, dEq_ii, decide_true]
    · have hb2 : 0 < b := by omega
      rw [eu_step e] at h
      have h2 := ih b (a % b) r (some d) g (Int.emod_nonneg _ e) h
      simp only [forD, shB, ap_seq, ap_skip, ap_bad, ap_break, ap_cont, ap_if, ap_set, ap_par, ap_par3, ap_ret, ap_retN, ap_expr, ap_asg, ap_for, ap_var, ap_C, ap_f2, ap_f1, ap_nil, ap_cons, ap_tup, ap_lst, ap_cellL, ap_call, ap_fif, ap_bool, ap_tru, ap_and, ap_or, ap_not, ap_andV, ap_orV, ap_notV, ap_chain, ap_part, ap_nopart, ap_slice, ap_disp, ap_pnil, ap_pcons, ap_iter, ap_iterA, ap_lc, ap_gnam, ap_gtup, ap_glst, ap_gsnil, ap_gscons, ap_run, ap_yes, List.length_cons, List.length_nil, List.map_cons, List.map_nil, List.replicate_succ, List.replicate_zero, List.cons_append, List.nil_append, List.getElem?_cons_zero, List.getElem?_cons_succ, List.getElem?_nil, List.set_cons_zero, List.set_cons_succ, if_true, if_false, reduceIte, Nat.reduceAdd, Nat.reduceSub, Bool.false_eq_true, dEq_ii, dInt_i, dMod_ii hb2, e, decide_false] at h2 ⊢
      exact h2
theorem shared_eq {a b : Int} (ha : 0 ≤ a) (hb : 0 ≤ b) (h : b < line83) (g : Gs) : phi__law_shared [.int a, .int b] g = .ok (.int (Int.gcd a b)) g := by
  have h2 := shared_loop (rangeD 0 400) a b (Int.gcd a b) none g hb (by
    rw [show (rangeD 0 400).length = 400 by unfold rangeD; rw [List.length_map, List.length_range]]
    exact eu400 ha hb h)
  unfold phi__law_shared
  simp only [b__law_shared, ap_seq, ap_skip, ap_bad, ap_break, ap_cont, ap_if, ap_set, ap_par, ap_par3, ap_ret, ap_retN, ap_expr, ap_asg, ap_for, ap_var, ap_C, ap_f2, ap_f1, ap_nil, ap_cons, ap_tup, ap_lst, ap_cellL, ap_call, ap_fif, ap_bool, ap_tru, ap_and, ap_or, ap_not, ap_andV, ap_orV, ap_notV, ap_chain, ap_part, ap_nopart, ap_slice, ap_disp, ap_pnil, ap_pcons, ap_iter, ap_iterA, ap_lc, ap_gnam, ap_gtup, ap_glst, ap_gsnil, ap_gscons, ap_run, ap_yes, List.length_cons, List.length_nil, List.map_cons, List.map_nil, List.replicate_succ, List.replicate_zero, List.cons_append, List.nil_append, List.getElem?_cons_zero, List.getElem?_cons_succ, List.getElem?_nil, List.set_cons_zero, List.set_cons_succ, if_true, if_false, reduceIte, Nat.reduceAdd, Nat.reduceSub, Bool.false_eq_true, dRg1, show okRg 400 = true from rfl, show (400 : Int).toNat = 400 from rfl, h2]
/-- a / b modulo 1, in lowest terms -/
def pt (a b : Int) : Int × Int := ((a % b) / (Int.gcd b (a % b) : Int), b / (Int.gcd b (a % b) : Int))
/-- a pair as data -/
abbrev pD (p : Int × Int) : D := .tup [.int p.1, .int p.2]
theorem gcd_pos {a b : Int} (h : 0 < a) : 0 < (Int.gcd a b : Int) := by
  have : Int.gcd a b ≠ 0 := fun z => by have := (Int.gcd_eq_zero_iff.mp z).1; omega
  omega
theorem gcd_le {a b : Int} (h : 0 < a) : (Int.gcd a b : Int) ≤ a := Int.le_of_dvd h (Int.gcd_dvd_left ..)
theorem sm_line {b : Int} (h0 : 0 ≤ b) (h : b < line83) : Sm b := by
  have : line83 < 10 ^ 200 := by decide
  exact sm_of (by omega) (by omega)
theorem okSz2 : okSz 2 = true := by decide
theorem part_eq {a b : Int} (hb : 0 < b) (h : b < line83) (g : Gs) : phi__law_part [.int a, .int b] g = .ok (pD (pt a b)) g := by
  have r0 := Int.emod_nonneg a (show b ≠ 0 by omega)
  have r1 := Int.emod_lt_of_pos a hb
  have g0 := gcd_pos (b := a % b) hb
  have g1 := gcd_le (b := a % b) hb
  unfold phi__law_part
  simp only [b__law_part, ap_seq, ap_skip, ap_bad, ap_break, ap_cont, ap_if, ap_set, ap_par, ap_par3, ap_ret, ap_retN, ap_expr, ap_asg, ap_for, ap_var, ap_C, ap_f2, ap_f1, ap_nil, ap_cons, ap_tup, ap_lst, ap_cellL, ap_call, ap_fif, ap_bool, ap_tru, ap_and, ap_or, ap_not, ap_andV, ap_orV, ap_notV, ap_chain, ap_part, ap_nopart, ap_slice, ap_disp, ap_pnil, ap_pcons, ap_iter, ap_iterA, ap_lc, ap_gnam, ap_gtup, ap_glst, ap_gsnil, ap_gscons, ap_run, ap_yes, List.length_cons, List.length_nil, List.map_cons, List.map_nil, List.replicate_succ, List.replicate_zero, List.cons_append, List.nil_append, List.getElem?_cons_zero, List.getElem?_cons_succ, List.getElem?_nil, List.set_cons_zero, List.set_cons_succ, if_true, if_false, reduceIte, Nat.reduceAdd, Nat.reduceSub, Bool.false_eq_true, dInt_i, dMod_ii hb, shared_eq (show 0 ≤ b by omega) r0 (show a % b < line83 by omega), dFdiv_ii g0 (sm_line (by omega) (by omega)), dTup, okSz2, pt]
abbrev coT : FT := (fBool (f2 dGt (fVar 1) (fC (.int 0))))
abbrev coB : FS := (sPar 0 1 (fCons (fVar 1) (fCons (f2 dMod (fCall dInt (fCons (fVar 0) fNil)) (fVar 1)) fNil)))
theorem common_loop : ∀ (n : Nat) (a b : Int) (g : Gs), 0 ≤ a → 0 ≤ b → b < (n : Int) → whileN coT coB n [some (.int a), some (.int b)] g = .nx [some (.int (Int.gcd a b)), some (.int 0)] g := by
  intro n
  induction n with
  | zero => intro a b g ha hb h; omega
  | succ n ih =>
    intro a b g ha hb h
    by_cases e : b = 0
    · subst e
      rw [gcd_zero ha]
      simp only [whileN, coT, ap_seq, ap_skip, ap_bad, ap_break, ap_cont, ap_if, ap_set, ap_par, ap_par3, ap_ret, ap_retN, ap_expr, ap_asg, ap_for, ap_var, ap_C, ap_f2, ap_f1, ap_nil, ap_cons, ap_tup, ap_lst, ap_cellL, ap_call, ap_fif, ap_bool, ap_tru, ap_and, ap_or, ap_not, ap_andV, ap_orV, ap_notV, ap_chain, ap_part, ap_nopart, ap_slice, ap_disp, ap_pnil, ap_pcons, ap_iter, ap_iterA, ap_lc, ap_gnam, ap_gtup, ap_glst, ap_gsnil, ap_gscons, ap_run, ap_yes, List.length_cons, List.length_nil, List.map_cons, List.map_nil, List.replicate_succ, List.replicate_zero, List.cons_append, List.nil_append, List.getElem?_cons_zero, List.getElem?_cons_succ, List.getElem?_nil, List.set_cons_zero, List.set_cons_succ, if_true, if_false, reduceIte, Nat.reduceAdd, Nat.reduceSub, Bool.false_eq_true, dGt_ii, show decide ((0 : Int) < 0) = false from rfl]
    · have hb2 : 0 < b := by omega
      have r0 := Int.emod_nonneg a e
      have r1 := Int.emod_lt_of_pos a hb2
      have h2 := ih b (a % b) g hb r0 (by omega)
      rw [gcd_step a b]
      simp only [whileN, coT, coB, ap_seq, ap_skip, ap_bad, ap_break, ap_cont, ap_if, ap_set, ap_par, ap_par3, ap_ret, ap_retN, ap_expr, ap_asg, ap_for, ap_var, ap_C, ap_f2, ap_f1, ap_nil, ap_cons, ap_tup, ap_lst, ap_cellL, ap_call, ap_fif, ap_bool, ap_tru, ap_and, ap_or, ap_not, ap_andV, ap_orV, ap_notV, ap_chain, ap_part, ap_nopart, ap_slice, ap_disp, ap_pnil, ap_pcons, ap_iter, ap_iterA, ap_lc, ap_gnam, ap_gtup, ap_glst, ap_gsnil, ap_gscons, ap_run, ap_yes, List.length_cons, List.length_nil, List.map_cons, List.map_nil, List.replicate_succ, List.replicate_zero, List.cons_append, List.nil_append, List.getElem?_cons_zero, List.getElem?_cons_succ, List.getElem?_nil, List.set_cons_zero, List.set_cons_succ, if_true, if_false, reduceIte, Nat.reduceAdd, Nat.reduceSub, Bool.false_eq_true, dGt_ii, dInt_i, dMod_ii hb2, decide_eq_true hb2] at h2 ⊢
      exact h2
theorem common_eq {a b : Int} (ha : 0 ≤ a) (hb : 0 ≤ b) (h : Sm b) (g : Gs) : phi_common [.int a, .int b] g = .ok (.int (Int.gcd a b)) g := by
  have h2 := common_loop FUEL a b g ha hb (by unfold Sm at h; unfold FUEL; omega)
  unfold phi_common
  simp only [b_common, ap_seq, ap_skip, ap_bad, ap_break, ap_cont, ap_if, ap_set, ap_par, ap_par3, ap_ret, ap_retN, ap_expr, ap_asg, ap_for, ap_var, ap_C, ap_f2, ap_f1, ap_nil, ap_cons, ap_tup, ap_lst, ap_cellL, ap_call, ap_fif, ap_bool, ap_tru, ap_and, ap_or, ap_not, ap_andV, ap_orV, ap_notV, ap_chain, ap_part, ap_nopart, ap_slice, ap_disp, ap_pnil, ap_pcons, ap_iter, ap_iterA, ap_lc, ap_gnam, ap_gtup, ap_glst, ap_gsnil, ap_gscons, ap_run, ap_yes, List.length_cons, List.length_nil, List.map_cons, List.map_nil, List.replicate_succ, List.replicate_zero, List.cons_append, List.nil_append, List.getElem?_cons_zero, List.getElem?_cons_succ, List.getElem?_nil, List.set_cons_zero, List.set_cons_succ, if_true, if_false, reduceIte, Nat.reduceAdd, Nat.reduceSub, Bool.false_eq_true, sWhile, h2]
theorem reduced_eq {a b : Int} (hb : 0 < b) (h : Sm b) (g : Gs) : phi_reduced [.int a, .int b] g = .ok (pD (pt a b)) g := by
  have r0 := Int.emod_nonneg a (show b ≠ 0 by omega)
  have r1 := Int.emod_lt_of_pos a hb
  have g0 := gcd_pos (b := a % b) hb
  have g1 := gcd_le (b := a % b) hb
  have s1 : Sm (a % b) := by unfold Sm at h ⊢; omega
  have s2 : Sm (Int.gcd b (a % b)) := by unfold Sm at h ⊢; omega
  unfold phi_reduced
  simp only [b_reduced, ap_seq, ap_skip, ap_bad, ap_break, ap_cont, ap_if, ap_set, ap_par, ap_par3, ap_ret, ap_retN, ap_expr, ap_asg, ap_for, ap_var, ap_C, ap_f2, ap_f1, ap_nil, ap_cons, ap_tup, ap_lst, ap_cellL, ap_call, ap_fif, ap_bool, ap_tru, ap_and, ap_or, ap_not, ap_andV, ap_orV, ap_notV, ap_chain, ap_part, ap_nopart, ap_slice, ap_disp, ap_pnil, ap_pcons, ap_iter, ap_iterA, ap_lc, ap_gnam, ap_gtup, ap_glst, ap_gsnil, ap_gscons, ap_run, ap_yes, List.length_cons, List.length_nil, List.map_cons, List.map_nil, List.replicate_succ, List.replicate_zero, List.cons_append, List.nil_append, List.getElem?_cons_zero, List.getElem?_cons_succ, List.getElem?_nil, List.set_cons_zero, List.set_cons_succ, if_true, if_false, reduceIte, Nat.reduceAdd, Nat.reduceSub, Bool.false_eq_true, dInt_i, dMod_ii hb, common_eq (show 0 ≤ b by omega) r0 s1, dFdiv_ii g0 s2, dTup, okSz2, pt]
end LB
set_option maxRecDepth 100000
set_option maxHeartbeats 4000000
namespace LB
open PySem PySem.Spec PyProof.Rows L2 DL
def Cn (p : Int × Int) : Prop := 0 ≤ p.1 ∧ p.1 < p.2 ∧ Int.gcd p.2 p.1 = 1
def EqZ (x y : Rat) : Prop := ∃ k : Int, x = y + (k : Rat)
def vl (p : Int × Int) : Rat := (p.1 : Rat) / (p.2 : Rat)
theorem EqZ.refl (x : Rat) : EqZ x x := ⟨0, by grind⟩
theorem EqZ.symm {x y : Rat} (h : EqZ x y) : EqZ y x := by
  obtain ⟨k, h⟩ := h
  exact ⟨-k, by rw [Rat.intCast_neg]; grind⟩
theorem EqZ.trans {x y z : Rat} (h : EqZ x y) (h2 : EqZ y z) : EqZ x z := by
  obtain ⟨k, h⟩ := h
  obtain ⟨l, h2⟩ := h2
  exact ⟨k + l, by rw [Rat.intCast_add]; grind⟩
theorem EqZ.add {x y u v : Rat} (h : EqZ x y) (h2 : EqZ u v) : EqZ (x + u) (y + v) := by
  obtain ⟨k, h⟩ := h
  obtain ⟨l, h2⟩ := h2
  exact ⟨k + l, by rw [Rat.intCast_add]; grind⟩
theorem EqZ.neg {x y : Rat} (h : EqZ x y) : EqZ (-x) (-y) := by
  obtain ⟨k, h⟩ := h
  exact ⟨-k, by rw [Rat.intCast_neg]; grind⟩
theorem EqZ.sub {x y u v : Rat} (h : EqZ x y) (h2 : EqZ u v) : EqZ (x - u) (y - v) := by
  obtain ⟨k, h⟩ := h
  obtain ⟨l, h2⟩ := h2
  exact ⟨k - l, by rw [Rat.intCast_sub]; grind⟩
theorem EqZ.mul {x y : Rat} (h : EqZ x y) (n : Int) : EqZ ((n : Rat) * x) ((n : Rat) * y) := by
  obtain ⟨k, h⟩ := h
  exact ⟨n * k, by rw [Rat.intCast_mul]; grind⟩
theorem EqZ.of_eq {x y : Rat} (h : x = y) : EqZ x y := by rw [h]; exact .refl y
theorem ne0 {b : Int} (h : b ≠ 0) : (b : Rat) ≠ 0 := fun z => h (by exact_mod_cast z)
theorem rat_of {a b : Int} (h : a = b) : (a : Rat) = (b : Rat) := by rw [h]
theorem ediv_cast {a b : Int} (hb : b ≠ 0) (h : b ∣ a) : ((a / b : Int) : Rat) = (a : Rat) / (b : Rat) := by
  obtain ⟨c, rfl⟩ := h
  rw [Int.mul_ediv_cancel_left _ hb, Rat.intCast_mul]
  have := ne0 hb
  grind
theorem pt_val {a b : Int} (hb : 0 < b) : EqZ (vl (pt a b)) ((a : Rat) / (b : Rat)) := by
  have hb0 := ne0 (show b ≠ 0 by omega)
  have g0 := gcd_pos (b := a % b) hb
  have hg := ne0 (show (Int.gcd b (a % b) : Int) ≠ 0 by omega)
  have d1 : (Int.gcd b (a % b) : Int) ∣ a % b := Int.gcd_dvd_right ..
  have d2 : (Int.gcd b (a % b) : Int) ∣ b := Int.gcd_dvd_left ..
  unfold vl pt
  rw [ediv_cast (by omega) d1, ediv_cast (by omega) d2]
  have h := Int.emod_add_mul_ediv a b
  have h2 : (a : Rat) = ((a % b : Int) : Rat) + (b : Rat) * ((a / b : Int) : Rat) := by
    rw [← Rat.intCast_mul, ← Rat.intCast_add, h]
  refine ⟨-(a / b), ?_⟩
  rw [Rat.intCast_neg]
  grind
theorem pt_cn {a b : Int} (hb : 0 < b) : Cn (pt a b) := by
  have g0 := gcd_pos (b := a % b) hb
  have r0 := Int.emod_nonneg a (show b ≠ 0 by omega)
  have r1 := Int.emod_lt_of_pos a hb
  have d1 : (Int.gcd b (a % b) : Int) ∣ a % b := Int.gcd_dvd_right ..
  have d2 : (Int.gcd b (a % b) : Int) ∣ b := Int.gcd_dvd_left ..
  refine ⟨Int.ediv_nonneg r0 (by omega), ?_, ?_⟩
  · obtain ⟨u, hu⟩ := d1
    obtain ⟨v, hv⟩ := d2
    have hu2 : a % b / (Int.gcd b (a % b) : Int) = u := Int.ediv_eq_of_eq_mul_right (by omega) hu
    have hv2 : b / (Int.gcd b (a % b) : Int) = v := Int.ediv_eq_of_eq_mul_right (by omega) hv
    show a % b / (Int.gcd b (a % b) : Int) < b / (Int.gcd b (a % b) : Int)
    rw [hu2, hv2]
    refine Int.lt_of_mul_lt_mul_left (a := (Int.gcd b (a % b) : Int)) ?_ (by omega)
    rw [← hu, ← hv]
    exact r1
  · exact Int.gcd_ediv_gcd_ediv_gcd (by omega)
theorem co_dvd {q p m : Int} (h : Int.gcd q p = 1) (d : q ∣ p * m) : q ∣ m := by
  have h1 : q.natAbs ∣ p.natAbs * m.natAbs := by
    rw [← Int.natAbs_mul]
    exact Int.natAbs_dvd_natAbs.mpr d
  exact Int.natAbs_dvd_natAbs.mp (Nat.Coprime.dvd_of_dvd_mul_left (show Nat.Coprime q.natAbs p.natAbs from h) h1)
theorem cross {p q p' q' : Int} {k : Int} (hq : 0 < q) (hq' : 0 < q') (h : (p : Rat) / (q : Rat) = (p' : Rat) / (q' : Rat) + (k : Rat)) : p * q' = p' * q + k * q * q' := by
  have h1 := ne0 (show q ≠ 0 by omega)
  have h2 := ne0 (show q' ≠ 0 by omega)
  have h3 : (p : Rat) * (q' : Rat) = (p' : Rat) * (q : Rat) + (k : Rat) * (q : Rat) * (q' : Rat) := by grind
  rw [← Rat.intCast_mul, ← Rat.intCast_mul, ← Rat.intCast_mul, ← Rat.intCast_mul, ← Rat.intCast_add] at h3
  exact_mod_cast h3
theorem cn_uniq {p q : Int × Int} (hp : Cn p) (hq : Cn q) (h : EqZ (vl p) (vl q)) : p = q := by
  obtain ⟨a, b⟩ := p
  obtain ⟨c, d⟩ := q
  obtain ⟨a0, a1, a2⟩ := hp
  obtain ⟨c0, c1, c2⟩ := hq
  obtain ⟨k, h⟩ := h
  have a0 : 0 ≤ a := a0
  have a1 : a < b := a1
  have c0 : 0 ≤ c := c0
  have c1 : c < d := c1
  have e := cross (show 0 < b by omega) (show 0 < d by omega) h
  have d1 : b ∣ d := by
    refine co_dvd a2 ⟨c + k * d, ?_⟩
    rw [show a * d = c * b + k * b * d from e]; grind
  have d2 : d ∣ b := by
    refine co_dvd c2 ⟨a - k * b, ?_⟩
    grind
  have e2 : b = d := Int.le_antisymm (Int.le_of_dvd (by omega) d1) (Int.le_of_dvd (by omega) d2)
  subst e2
  have e3 : a = c + k * b := by
    have h5 : b * a = b * (c + k * b) := by grind
    exact Int.eq_of_mul_eq_mul_left (by omega) h5
  have hk : k = 0 := by
    by_cases hk : k = 0
    · exact hk
    · exfalso
      by_cases hp : 0 < k
      · have : b ≤ k * b := by
          have := Int.mul_le_mul_of_nonneg_right (show (1 : Int) ≤ k by omega) (show (0 : Int) ≤ b by omega)
          omega
        omega
      · have : k * b ≤ -b := by
          have := Int.mul_le_mul_of_nonneg_right (show k ≤ (-1 : Int) by omega) (show (0 : Int) ≤ b by omega)
          omega
        omega
  subst hk
  have : a = c := by omega
  subst this
  rfl
theorem pt_iff {a b c d : Int} (hb : 0 < b) (hd : 0 < d) : pt a b = pt c d ↔ EqZ ((a : Rat) / (b : Rat)) ((c : Rat) / (d : Rat)) := by
  refine ⟨fun h => ?_, fun h => ?_⟩
  · have h1 := pt_val (a := a) hb
    rw [h] at h1
    exact h1.symm.trans (pt_val hd)
  · exact cn_uniq (pt_cn hb) (pt_cn hd) ((pt_val hb).trans (h.trans (pt_val hd).symm))
theorem pt_self {p : Int × Int} (h : Cn p) : pt p.1 p.2 = p := by
  have hb : 0 < p.2 := by have := h.1; have := h.2.1; omega
  exact cn_uniq (pt_cn hb) h (pt_val hb)
theorem Cn.pos {p : Int × Int} (h : Cn p) : 0 < p.2 := by have := h.1; have := h.2.1; omega
theorem pt_eq_iff {a b : Int} {p : Int × Int} (hb : 0 < b) (hp : Cn p) : pt a b = p ↔ EqZ ((a : Rat) / (b : Rat)) (vl p) := by
  have h := pt_iff (a := a) (c := p.1) hb hp.pos
  rw [pt_self hp] at h
  exact h
/-- the bottom of a fraction divides what makes it whole -/
theorem pt_dvd {a b n : Int} (hb : 0 < b) (h : ∃ k : Int, (n : Rat) * ((a : Rat) / (b : Rat)) = (k : Rat)) : (pt a b).2 ∣ n := by
  obtain ⟨k, h⟩ := h
  obtain ⟨l, h2⟩ := pt_val (a := a) hb
  have c := pt_cn (a := a) hb
  have q0 := ne0 (show (pt a b).2 ≠ 0 by have := c.pos; omega)
  have h3 : (n : Rat) * ((pt a b).1 : Rat) = ((k : Rat) + (n : Rat) * (l : Rat)) * ((pt a b).2 : Rat) := by
    unfold vl at h2
    grind
  rw [← Rat.intCast_mul, ← Rat.intCast_mul, ← Rat.intCast_add, ← Rat.intCast_mul] at h3
  have h4 : n * (pt a b).1 = (k + n * l) * (pt a b).2 := by exact_mod_cast h3
  refine co_dvd c.2.2 ⟨k + n * l, ?_⟩
  rw [Int.mul_comm, h4, Int.mul_comm]
end LB
set_option maxRecDepth 100000
set_option maxHeartbeats 4000000
namespace LB
open PySem PySem.Spec PyProof.Rows L2 DL
inductive Sd where
  | i | o | v
deriving DecidableEq
def Sd.s : Sd → Str
  | .i => "in"
  | .o => "out"
  | .v => "over"
structure St5 where
  sd : Sd
  R : Int
  w : Int
  a : Int
  t : Int
deriving DecidableEq
abbrev stD (s : St5) : D := .tup [.str s.sd.s, .int s.R, .int s.w, .int s.a, .int s.t]
def L30 : Int := 10 ^ 30
structure Vd (s : St5) : Prop where
  r1 : 1 ≤ s.R
  w1 : 1 ≤ s.w
  a0 : 0 ≤ s.a
  t0 : 0 ≤ s.t
  rB : s.R ≤ L30
  wB : s.w ≤ L30
  aB : s.a ≤ L30
  tB : s.t ≤ L30
  fi : s.sd = .i → s.w < s.R
  fv : s.sd = .v → s.R < s.w
def St5.mid (s : St5) : Int := match s.sd with
  | .i => s.R - s.w
  | .o => s.R + s.w
  | .v => s.w - s.R
def St5.g (s : St5) : Int := Int.gcd s.R s.w
def St5.sl (s : St5) : Int := match s.sd with
  | .o => (s.R + s.w) / s.g
  | _ => (s.w - s.R) / s.g
def St5.ph (s : St5) : Int × Int := pt s.t s.R
def St5.ac (s : St5) : Int × Int := pt (2 * s.t + s.R) (2 * s.R)
def St5.p1 (s : St5) : Int × Int := if s.sd = .v then s.ac else s.ph
def St5.p2 (s : St5) : Int × Int := if s.sd = .o then s.ac else s.ph
structure Ar where
  z : Int
  v : Int
  p : Int × Int
deriving DecidableEq
abbrev arD (a : Ar) : D := .tup [.int a.z, .int a.v, pD a.p]
def St5.ars (s : St5) : List Ar := if s.a = 0 then [⟨s.mid, 1, s.p1⟩] else [⟨s.mid, s.w / s.g, s.p1⟩, ⟨s.a, s.sl, s.p2⟩]
theorem disp3 (x y z : D) (g : Gs) : dDisp [(.str "in", x), (.str "out", y), (.str "over", z)] g = .ok (.dik [(.inr "in", x), (.inr "out", y), (.inr "over", z)]) g := (rfl)
def Sd.pick {α : Type} (sd : Sd) (x y z : α) : α := match sd with
  | .i => x
  | .o => y
  | .v => z
theorem dik_sd (sd : Sd) (x y z : D) (g : Gs) : dIx (.dik [(.inr "in", x), (.inr "out", y), (.inr "over", z)]) (.str sd.s) g = .ok (sd.pick x y z) g := by
  cases sd <;> rfl
theorem dEq_ss {a b : Str} (ha : PyData.strOk a = true) (hb : PyData.strOk b = true) (g : Gs) : dEq (.str a) (.str b) g = .ok (.bl (decide (a = b))) g := by
  have h : PyData.eqv (.str a) (.str b) = decide (a = b) := by
    simp only [PyData.eqv]
    rfl
  show (match (if (SeqAt.shaped (.str a) && SeqAt.shaped (.str b)) = true then some (PyData.eqv (.str a) (.str b)) else none) with | some b => Out.ok (D.bl b) g | none => .bad) = _
  rw [if_pos (by simp [SeqAt.shaped, PyData.canLay0, PyData.depth, ha, hb]), h]
theorem sd_ok (sd : Sd) : PyData.strOk sd.s = true := by cases sd <;> decide +kernel
theorem sd_in (sd : Sd) : decide (sd.s = "in") = decide (sd = .i) := by cases sd <;> decide +kernel
theorem sd_out (sd : Sd) : decide (sd.s = "out") = decide (sd = .o) := by cases sd <;> decide +kernel
theorem sd_over (sd : Sd) : decide (sd.s = "over") = decide (sd = .v) := by cases sd <;> decide +kernel
theorem dEq_sin (sd : Sd) (g : Gs) : dEq (.str sd.s) (.str "in") g = .ok (.bl (decide (sd = .i))) g := by rw [dEq_ss (sd_ok sd) (by decide +kernel), sd_in]
theorem dEq_sout (sd : Sd) (g : Gs) : dEq (.str sd.s) (.str "out") g = .ok (.bl (decide (sd = .o))) g := by rw [dEq_ss (sd_ok sd) (by decide +kernel), sd_out]
theorem dEq_sover (sd : Sd) (g : Gs) : dEq (.str sd.s) (.str "over") g = .ok (.bl (decide (sd = .v))) g := by rw [dEq_ss (sd_ok sd) (by decide +kernel), sd_over]
theorem ixt {ds : List D} {k : Int} {d : D} (h : atI ds k = some d) (g : Gs) : dIx (.tup ds) (.int k) g = .ok d g := by
  show (match atI ds k with | some d => Out.ok d g | none => .bad) = _
  rw [h]
theorem ix0 (a : D) (l : List D) (g : Gs) : dIx (.tup (a :: l)) (.int 0) g = .ok a g := ixt (atI_nat (j := 0) rfl) g
theorem ix1 (a b : D) (l : List D) (g : Gs) : dIx (.tup (a :: b :: l)) (.int 1) g = .ok b g := ixt (atI_nat (j := 1) rfl) g
theorem ix2 (a b c : D) (l : List D) (g : Gs) : dIx (.tup (a :: b :: c :: l)) (.int 2) g = .ok c g := ixt (atI_nat (j := 2) rfl) g
theorem okSz1 : okSz 1 = true := by decide
theorem okSz3 : okSz 3 = true := by decide
theorem okSz5 : okSz 5 = true := by decide
theorem dTup_ok {l : List D} (h : okSz l.length = true) (g : Gs) : dTup l g = .ok (.tup l) g := by unfold dTup; rw [if_pos h]
theorem dLst_ok {l : List D} (h : okSz l.length = true) (g : Gs) : dLst l g = .ok (.lst l) g := by unfold dLst; rw [if_pos h]
theorem Vd.g1 {s : St5} (h : Vd s) : 0 < s.g := gcd_pos (by have := h.r1; omega)
theorem Vd.gR {s : St5} (h : Vd s) : s.g ≤ s.R := gcd_le (by have := h.r1; omega)
theorem L30_eq : L30 = 1000000000000000000000000000000 := by decide
theorem sm30 {i : Int} (h1 : -(1000 * L30) ≤ i) (h2 : i ≤ 1000 * L30) : Sm i := by
  rw [L30_eq] at h1 h2
  exact sm_of (by omega) (by omega)
theorem arrows_eq {s : St5} (h : Vd s) (g : Gs) : phi__law_arrows [stD s] g = .ok (.lst (s.ars.map arD)) g := by
  obtain ⟨sd, R, w, a, t⟩ := s
  have r1 := h.r1; have w1 := h.w1; have a0 := h.a0; have t0 := h.t0; have rB := h.rB; have wB := h.wB; have aB := h.aB; have tB := h.tB
  have g1 := h.g1; have gR := h.gR
  simp only [St5.g] at r1 w1 a0 t0 rB wB aB tB g1 gR
  have l30 : 2 * L30 < line83 := by decide
  unfold phi__law_arrows
  by_cases ea : a = 0
  all_goals
    cases sd
    all_goals
      simp only [b__law_arrows, ap_seq, ap_skip, ap_bad, ap_break, ap_cont, ap_if, ap_set, ap_par, ap_par3, ap_ret, ap_retN, ap_expr, ap_asg, ap_for, ap_var, ap_C, ap_f2, ap_f1, ap_nil, ap_cons, ap_tup, ap_lst, ap_cellL, ap_call, ap_fif, ap_bool, ap_tru, ap_and, ap_or, ap_not, ap_andV, ap_orV, ap_notV, ap_chain, ap_part, ap_nopart, ap_slice, ap_disp, ap_pnil, ap_pcons, ap_iter, ap_iterA, ap_lc, ap_gnam, ap_gtup, ap_glst, ap_gsnil, ap_gscons, ap_run, ap_yes, List.length_cons, List.length_nil, List.map_cons, List.map_nil, List.replicate_succ, List.replicate_zero, List.cons_append, List.nil_append, List.getElem?_cons_zero, List.getElem?_cons_succ, List.getElem?_nil, List.set_cons_zero, List.set_cons_succ, if_true, if_false, reduceIte, Nat.reduceAdd, Nat.reduceSub, Bool.false_eq_true, shared_eq (show 0 ≤ R by omega) (show 0 ≤ w by omega) (show w < line83 by omega), dSub_ii, dAdd_ii, disp3, dik_sd, Sd.pick, part_eq (show 0 < R by omega) (show R < line83 by omega),
        dMul_ii (okMul_sm (sm30 (i := 2) (by decide) (by decide)) (sm30 (i := t) (by omega) (by omega))), dMul_ii (okMul_sm (sm30 (i := 2) (by decide) (by decide)) (sm30 (i := R) (by omega) (by omega))),
        part_eq (show 0 < 2 * R by omega) (show 2 * R < line83 by omega), dFdiv_ii g1 (sm30 (i := (Int.gcd R w : Int)) (by omega) (by omega)), dEq_sover, dEq_sout, dEq_ii, ix2, dTup_ok, dLst_ok, okSz1, okSz2, okSz3, ea, decide_true, decide_false, reduceCtorEq, St5.ars, St5.mid, St5.p1, St5.p2, St5.sl, St5.g, St5.ph, St5.ac]
theorem Cn.b2 {p : Int × Int} (h : Cn p) : p.1 ≤ p.2 ∧ 0 ≤ p.1 := ⟨by have := h.2.1; omega, h.1⟩
theorem pt_le {a b : Int} (hb : 0 < b) : (pt a b).2 ≤ b := by
  have g0 := gcd_pos (b := a % b) hb
  show b / (Int.gcd b (a % b) : Int) ≤ b
  exact Int.ediv_le_self _ (by omega)
theorem half_eq {t R : Int} (hR : 0 < R) : pt ((pt t R).1 * 2 + 1 * (pt t R).2) ((pt t R).2 * 2) = pt (2 * t + R) (2 * R) := by
  have c := pt_cn (a := t) hR
  have hp := c.pos
  have h0 := ne0 (show R ≠ 0 by omega)
  have h1 := ne0 (show (pt t R).2 ≠ 0 by omega)
  rw [pt_iff (by omega) (by omega)]
  obtain ⟨k, h⟩ := pt_val (a := t) hR
  refine ⟨k, ?_⟩
  unfold vl at h
  rw [Rat.intCast_add, Rat.intCast_add, Rat.intCast_mul, Rat.intCast_mul, Rat.intCast_mul, Rat.intCast_mul, Rat.intCast_mul]
  have e2 : ((2 : Int) : Rat) = 2 := (rfl)
  have e1 : ((1 : Int) : Rat) = 1 := (rfl)
  rw [e2, e1]
  generalize ((pt t R).1 : Rat) = u at *
  generalize ((pt t R).2 : Rat) = v at *
  generalize (t : Rat) = x at *
  generalize (R : Rat) = y at *
  grind
theorem sm_mul {a b : Int} (ha : a.natAbs < 10 ^ 99) (hb : b.natAbs < 10 ^ 99) : Sm (a * b) := by
  unfold Sm
  rw [Int.natAbs_mul]
  have h := Nat.mul_lt_mul'' ha hb
  have h2 : 10 ^ 99 * 10 ^ 99 ≤ 10 ^ 200 := by decide
  omega
def Md (i : Int) : Prop := i.natAbs < 10 ^ 99
theorem Md.sm {i : Int} (h : Md i) : Sm i := by unfold Md at h; unfold Sm; omega
theorem Md.mul {a b : Int} (ha : Md a) (hb : Md b) : Sm (a * b) := sm_mul ha hb
theorem md_of {i : Int} (h1 : -(10 ^ 99) < i) (h2 : i < 10 ^ 99) : Md i := by unfold Md; omega
theorem summed_eq {a b c d : Int} (hb : 0 < b) (hd : 0 < d) (ma : Md a) (mb : Md b) (mc : Md c) (md : Md d) (g : Gs) : phi_summed [pD (a, b), pD (c, d)] g = .ok (pD (pt (a * d + c * b) (b * d))) g := by
  have h := Int.mul_pos hb hd
  unfold phi_summed
  simp only [b_summed, ap_seq, ap_skip, ap_bad, ap_break, ap_cont, ap_if, ap_set, ap_par, ap_par3, ap_ret, ap_retN, ap_expr, ap_asg, ap_for, ap_var, ap_C, ap_f2, ap_f1, ap_nil, ap_cons, ap_tup, ap_lst, ap_cellL, ap_call, ap_fif, ap_bool, ap_tru, ap_and, ap_or, ap_not, ap_andV, ap_orV, ap_notV, ap_chain, ap_part, ap_nopart, ap_slice, ap_disp, ap_pnil, ap_pcons, ap_iter, ap_iterA, ap_lc, ap_gnam, ap_gtup, ap_glst, ap_gsnil, ap_gscons, ap_run, ap_yes, List.length_cons, List.length_nil, List.map_cons, List.map_nil, List.replicate_succ, List.replicate_zero, List.cons_append, List.nil_append, List.getElem?_cons_zero, List.getElem?_cons_succ, List.getElem?_nil, List.set_cons_zero, List.set_cons_succ, if_true, if_false, reduceIte, Nat.reduceAdd, Nat.reduceSub, Bool.false_eq_true, ix0, ix1, dMul_ii (okMul_sm ma.sm md.sm), dMul_ii (okMul_sm mc.sm mb.sm), dMul_ii (okMul_sm mb.sm md.sm), dAdd_ii, reduced_eq h (mb.mul md)]
theorem scaled_eq {n a b : Int} (hb : 0 < b) (mn : Md n) (ma : Md a) (mb : Md b) (g : Gs) : phi_scaled [.int n, pD (a, b)] g = .ok (pD (pt (n * a) b)) g := by
  unfold phi_scaled
  simp only [b_scaled, ap_seq, ap_skip, ap_bad, ap_break, ap_cont, ap_if, ap_set, ap_par, ap_par3, ap_ret, ap_retN, ap_expr, ap_asg, ap_for, ap_var, ap_C, ap_f2, ap_f1, ap_nil, ap_cons, ap_tup, ap_lst, ap_cellL, ap_call, ap_fif, ap_bool, ap_tru, ap_and, ap_or, ap_not, ap_andV, ap_orV, ap_notV, ap_chain, ap_part, ap_nopart, ap_slice, ap_disp, ap_pnil, ap_pcons, ap_iter, ap_iterA, ap_lc, ap_gnam, ap_gtup, ap_glst, ap_gsnil, ap_gscons, ap_run, ap_yes, List.length_cons, List.length_nil, List.map_cons, List.map_nil, List.replicate_succ, List.replicate_zero, List.cons_append, List.nil_append, List.getElem?_cons_zero, List.getElem?_cons_succ, List.getElem?_nil, List.set_cons_zero, List.set_cons_succ, if_true, if_false, reduceIte, Nat.reduceAdd, Nat.reduceSub, Bool.false_eq_true, ix0, ix1, dMul_ii (okMul_sm mn.sm ma.sm), reduced_eq hb mb.sm]
theorem md30 {i : Int} (h1 : -(1000 * L30) ≤ i) (h2 : i ≤ 1000 * L30) : Md i := by
  rw [L30_eq] at h1 h2
  exact md_of (by omega) (by omega)
end LB
set_option maxRecDepth 100000
set_option maxHeartbeats 4000000
namespace LB
open PySem PySem.Spec PyProof.Rows L2 DL
theorem terms_eq {s : St5} (h : Vd s) (g : Gs) : phi_terms_of [stD s] g = .ok (.tup (s.ars.map arD)) g := by
  obtain ⟨sd, R, w, a, t⟩ := s
  have r1 := h.r1; have w1 := h.w1; have a0 := h.a0; have t0 := h.t0; have rB := h.rB; have wB := h.wB; have aB := h.aB; have tB := h.tB
  have g1 := h.g1; have gR := h.gR
  simp only [St5.g] at r1 w1 a0 t0 rB wB aB tB g1 gR
  have c := pt_cn (a := t) (show 0 < R by omega)
  have cp := c.pos
  have cl := pt_le (a := t) (show 0 < R by omega)
  have cb := c.b2
  have hs := summed_eq (a := (pt t R).1) (b := (pt t R).2) (c := 1) (d := 2) cp (by decide) (md30 (by omega) (by omega)) (md30 (by omega) (by omega)) (md30 (by decide) (by decide)) (md30 (by decide) (by decide))
  rw [half_eq (t := t) (show 0 < R by omega)] at hs
  have hc := common_eq (show 0 ≤ R by omega) (show 0 ≤ w by omega) (sm30 (i := w) (by omega) (by omega))
  have hd := fun (i : Int) => dFdiv_ii (i := i) g1 (sm30 (i := (Int.gcd R w : Int)) (by omega) (by omega))
  have hr := reduced_eq (a := t) (show 0 < R by omega) (sm30 (i := R) (by omega) (by omega))
  unfold phi_terms_of
  by_cases ea : a = 0
  · subst ea
    cases sd
    all_goals
      simp only [b_terms_of, ap_seq, ap_skip, ap_bad, ap_break, ap_cont, ap_if, ap_set, ap_par, ap_par3, ap_ret, ap_retN, ap_expr, ap_asg, ap_for, ap_var, ap_C, ap_f2, ap_f1, ap_nil, ap_cons, ap_tup, ap_lst, ap_cellL, ap_call, ap_fif, ap_bool, ap_tru, ap_and, ap_or, ap_not, ap_andV, ap_orV, ap_notV, ap_chain, ap_part, ap_nopart, ap_slice, ap_disp, ap_pnil, ap_pcons, ap_iter, ap_iterA, ap_lc, ap_gnam, ap_gtup, ap_glst, ap_gsnil, ap_gscons, ap_run, ap_yes, List.length_cons, List.length_nil, List.map_cons, List.map_nil, List.replicate_succ, List.replicate_zero, List.cons_append, List.nil_append, List.getElem?_cons_zero, List.getElem?_cons_succ, List.getElem?_nil, List.set_cons_zero, List.set_cons_succ, if_true, if_false, reduceIte, Nat.reduceAdd, Nat.reduceSub, Bool.false_eq_true, hc, hd, hr, hs, dSub_ii, dAdd_ii, dEq_sin, dEq_sout, dGt_ii, ix0, ix2, dTup_ok, okSz1, okSz2, okSz3, decide_true, decide_false, reduceCtorEq, St5.ars, St5.mid, St5.p1, St5.p2, St5.sl, St5.g, St5.ph, St5.ac,
        show decide ((0 : Int) < 0) = false from rfl]
  · have ea2 := decide_eq_true (show 0 < a by omega)
    cases sd
    all_goals
      simp only [b_terms_of, ap_seq, ap_skip, ap_bad, ap_break, ap_cont, ap_if, ap_set, ap_par, ap_par3, ap_ret, ap_retN, ap_expr, ap_asg, ap_for, ap_var, ap_C, ap_f2, ap_f1, ap_nil, ap_cons, ap_tup, ap_lst, ap_cellL, ap_call, ap_fif, ap_bool, ap_tru, ap_and, ap_or, ap_not, ap_andV, ap_orV, ap_notV, ap_chain, ap_part, ap_nopart, ap_slice, ap_disp, ap_pnil, ap_pcons, ap_iter, ap_iterA, ap_lc, ap_gnam, ap_gtup, ap_glst, ap_gsnil, ap_gscons, ap_run, ap_yes, List.length_cons, List.length_nil, List.map_cons, List.map_nil, List.replicate_succ, List.replicate_zero, List.cons_append, List.nil_append, List.getElem?_cons_zero, List.getElem?_cons_succ, List.getElem?_nil, List.set_cons_zero, List.set_cons_succ, if_true, if_false, reduceIte, Nat.reduceAdd, Nat.reduceSub, Bool.false_eq_true, hc, hd, hr, hs, dSub_ii, dAdd_ii, dEq_sin, dEq_sout, dGt_ii, ix0, ix2, dTup_ok, okSz1, okSz2, okSz3, decide_true, decide_false, reduceCtorEq, St5.ars, St5.mid, St5.p1, St5.p2, St5.sl, St5.g, St5.ph, St5.ac, ea, ea2]
end LB
set_option maxRecDepth 100000
set_option maxHeartbeats 4000000
namespace LB
open PySem PySem.Spec PyProof.Rows L2 DL
theorem dEq_of {x y : D} {p q : PyData} (h1 : pd x = some p) (h2 : pd y = some q) (s1 : SeqAt.shaped p = true) (s2 : SeqAt.shaped q = true) (g : Gs) : dEq x y g = .ok (.bl (PyData.eqv p q)) g := by
  unfold dEq dEqB
  rw [h1, h2]
  dsimp only
  rw [s1, s2]
  rfl
theorem dNe_of {x y : D} {p q : PyData} (h1 : pd x = some p) (h2 : pd y = some q) (s1 : SeqAt.shaped p = true) (s2 : SeqAt.shaped q = true) (g : Gs) : dNe x y g = .ok (.bl (!PyData.eqv p q)) g := by
  unfold dNe dEqB
  rw [h1, h2]
  dsimp only
  rw [s1, s2]
  rfl
theorem shp_int (i : Int) : SeqAt.shaped (.int i) = true := by simp [SeqAt.shaped, PyData.canLay0, PyData.depth]
theorem shp_pair (a b : Int) : SeqAt.shaped (.tuple [.int a, .int b]) = true := by simp [SeqAt.shaped, PyData.canLay0, PyData.canLayAll0, PyData.depth, PyData.depthAll]
theorem dNe_ii (i j : Int) (g : Gs) : dNe (.int i) (.int j) g = .ok (.bl (!decide (i = j))) g := by
  rw [dNe_of (p := .int i) (q := .int j) rfl rfl (shp_int i) (shp_int j)]
  rfl
theorem eqv_pp (p q : Int × Int) : PyData.eqv (.tuple [.int p.1, .int p.2]) (.tuple [.int q.1, .int q.2]) = decide (p = q) := by
  simp only [PyData.eqv, PyData.eqvAll, Bool.and_true]
  obtain ⟨a, b⟩ := p
  obtain ⟨c, d⟩ := q
  rw [Bool.eq_iff_iff]
  simp
theorem dEq_pp (p q : Int × Int) (g : Gs) : dEq (pD p) (pD q) g = .ok (.bl (decide (p = q))) g := by
  rw [dEq_of (x := pD p) (y := pD q) (p := .tuple [.int p.1, .int p.2]) (q := .tuple [.int q.1, .int q.2]) rfl rfl (shp_pair ..) (shp_pair ..), eqv_pp]
theorem dNe_pp (p q : Int × Int) (g : Gs) : dNe (pD p) (pD q) g = .ok (.bl (!decide (p = q))) g := by
  rw [dNe_of (x := pD p) (y := pD q) (p := .tuple [.int p.1, .int p.2]) (q := .tuple [.int q.1, .int q.2]) rfl rfl (shp_pair ..) (shp_pair ..), eqv_pp]
theorem isi_tt (l : List D) (g : Gs) : dIsi [.tup l, .ty "tuple"] g = .ok (.bl true) g := (rfl)
theorem isi_bb (b : Bool) (g : Gs) : dIsi [.bl b, .ty "bool"] g = .ok (.bl true) g := (rfl)
theorem isi_ii (i : Int) (g : Gs) : dIsi [.int i, .ty "int"] g = .ok (.bl true) g := (rfl)
theorem isi_ib (i : Int) (g : Gs) : dIsi [.int i, .ty "bool"] g = .ok (.bl false) g := (rfl)
theorem isi_ss (i : Str) (g : Gs) : dIsi [.str i, .ty "str"] g = .ok (.bl true) g := (rfl)
theorem len_t (l : List D) (g : Gs) : dLen [.tup l] g = .ok (.int l.length) g := (rfl)
theorem len_l (l : List D) (g : Gs) : dLen [.lst l] g = .ok (.int l.length) g := (rfl)
theorem tru_b (b : Bool) (g : Gs) : dTru (.bl b) g = .ok b g := (rfl)
theorem sl2 (a b c : D) (g : Gs) : dSlice (.tup [a, b, c]) none (some 2) g = .ok (.tup [a, b]) g := (rfl)
theorem iterB_t (l : List D) (g : Gs) : dIterB (.tup l) g = .ok l g := (rfl)
theorem iterB_l (l : List D) (g : Gs) : dIterB (.lst l) g = .ok l g := (rfl)
theorem lc_nil (pt : Pt) (ft : FT) (fe : FE) (ρ : DL.Env) (acc : List D) (g : Gs) : lcD pt ft fe ρ [] acc g = .ok acc g := (rfl)
theorem lc_cons (pt : Pt) (ft : FT) (fe : FE) (ρ : DL.Env) (d : D) (ds acc : List D) (g : Gs) : lcD pt ft fe ρ (d :: ds) acc g = match ptSet pt d ρ with
    | none => .bad
    | some ρ1 => match ft ρ1 g with
      | .ok true g1 => (match fe ρ1 g1 with
        | .ok y g2 => if acc.length < sizeLine then lcD pt ft fe ρ ds (acc ++ [y]) g2 else .bad
        | _ => .bad)
      | .ok false g1 => lcD pt ft fe ρ ds acc g1
      | _ => .bad := by
  first
  | (rw [lcD]; done)
  | (rw [lcD]
     cases ptSet pt d ρ with
     | none => rfl
     | some ρ1 =>
       dsimp only
       cases ft ρ1 g with
       | ok b g1 => cases b with
         | true => dsimp only; cases fe ρ1 g1 <;> rfl
         | false => rfl
       | exc x g1 => rfl
       | bad => rfl)
theorem pts_one (i : Nat) (d : D) (ρ : DL.Env) : ptSet (.one i) d ρ = some (ρ.set i (some d)) := (rfl)
theorem pts_tup (is : List Nat) (ds : List D) (ρ : DL.Env) : ptSet (.tup is) (.tup ds) ρ = if ds.length = is.length then some (setsD ρ is ds) else none := (rfl)
theorem sets_nil (ρ : DL.Env) : setsD ρ [] [] = ρ := (rfl)
theorem sets_cons (ρ : DL.Env) (i : Nat) (is : List Nat) (d : D) (ds : List D) : setsD ρ (i :: is) (d :: ds) = setsD (ρ.set i (some d)) is ds := (rfl)
theorem wipe_nil (ρ : DL.Env) : wipeD ρ [] = ρ := (rfl)
theorem wipe_cons (ρ : DL.Env) (i : Nat) (is : List Nat) : wipeD ρ (i :: is) = (wipeD ρ is).set i none := (rfl)
theorem ptIx_one (i : Nat) : ptIx (.one i) = [i] := (rfl)
theorem ptIx_tup (is : List Nat) : ptIx (.tup is) = is := (rfl)
theorem szl0 : (0 < sizeLine) = True := by simp [sizeLine]
theorem szl1 : (1 < sizeLine) = True := by simp [sizeLine]
theorem szl2 : (2 < sizeLine) = True := by simp [sizeLine]
def isP (p : Int × Int) : Bool := decide (0 ≤ p.1) && (decide (p.1 < p.2) && decide (pt p.1 p.2 = p))
theorem dNe_nil (g : Gs) : dNe (.lst []) (.lst []) g = .ok (.bl false) g := by
  rw [dNe_of (x := .lst []) (y := .lst []) (p := .list []) (q := .list []) rfl rfl (by simp [SeqAt.shaped, PyData.canLay0, PyData.canLayAll0, PyData.depth, PyData.depthAll]) (by simp [SeqAt.shaped, PyData.canLay0, PyData.canLayAll0, PyData.depth, PyData.depthAll])]
  simp [PyData.eqv, PyData.eqvAll]
theorem okSz0 : okSz 0 = true := by decide
theorem law_is_part_eq (p : Int × Int) (h : p.2 < line83) (g : Gs) : phi__law_is_part [pD p] g = .ok (.bl (isP p)) g := by
  obtain ⟨a, b⟩ := p
  unfold phi__law_is_part isP
  by_cases h1 : 0 ≤ a
  · by_cases h2 : a < b
    · simp only [b__law_is_part, ap_seq, ap_skip, ap_bad, ap_break, ap_cont, ap_if, ap_set, ap_par, ap_par3, ap_ret, ap_retN, ap_expr, ap_asg, ap_for, ap_var, ap_C, ap_f2, ap_f1, ap_nil, ap_cons, ap_tup, ap_lst, ap_cellL, ap_call, ap_fif, ap_bool, ap_tru, ap_and, ap_or, ap_not, ap_andV, ap_orV, ap_notV, ap_chain, ap_part, ap_nopart, ap_slice, ap_disp, ap_pnil, ap_pcons, ap_iter, ap_iterA, ap_lc, ap_gnam, ap_gtup, ap_glst, ap_gsnil, ap_gscons, ap_run, ap_yes, List.length_cons, List.length_nil, List.map_cons, List.map_nil, List.replicate_succ, List.replicate_zero, List.cons_append, List.nil_append, List.getElem?_cons_zero, List.getElem?_cons_succ, List.getElem?_nil, List.set_cons_zero, List.set_cons_succ, if_true, if_false, reduceIte, Nat.reduceAdd, Nat.reduceSub, Bool.false_eq_true, isi_tt, isi_ii, isi_ib, len_t, tru_b, dNe_ii, iterB_t, lc_cons, lc_nil, pts_one, wipe_nil, wipe_cons, ptIx_one, dNe_nil, dLst_ok, okSz0, ix0, ix1, dLe_ii, dLt_ii, part_eq (show 0 < b by omega) h, dEq_pp,
        show ((2 : Nat) : Int) = 2 from rfl, decide_true, decide_false, Bool.not_true, Bool.not_false, decide_eq_true h1, decide_eq_true h2, Bool.true_and]
    · simp only [b__law_is_part, ap_seq, ap_skip, ap_bad, ap_break, ap_cont, ap_if, ap_set, ap_par, ap_par3, ap_ret, ap_retN, ap_expr, ap_asg, ap_for, ap_var, ap_C, ap_f2, ap_f1, ap_nil, ap_cons, ap_tup, ap_lst, ap_cellL, ap_call, ap_fif, ap_bool, ap_tru, ap_and, ap_or, ap_not, ap_andV, ap_orV, ap_notV, ap_chain, ap_part, ap_nopart, ap_slice, ap_disp, ap_pnil, ap_pcons, ap_iter, ap_iterA, ap_lc, ap_gnam, ap_gtup, ap_glst, ap_gsnil, ap_gscons, ap_run, ap_yes, List.length_cons, List.length_nil, List.map_cons, List.map_nil, List.replicate_succ, List.replicate_zero, List.cons_append, List.nil_append, List.getElem?_cons_zero, List.getElem?_cons_succ, List.getElem?_nil, List.set_cons_zero, List.set_cons_succ, if_true, if_false, reduceIte, Nat.reduceAdd, Nat.reduceSub, Bool.false_eq_true, isi_tt, isi_ii, isi_ib, len_t, tru_b, dNe_ii, iterB_t, lc_cons, lc_nil, pts_one, wipe_nil, wipe_cons, ptIx_one, dNe_nil, dLst_ok, okSz0, ix0, ix1, dLe_ii, dLt_ii,
        show ((2 : Nat) : Int) = 2 from rfl, decide_true, decide_false, Bool.not_true, Bool.not_false, decide_eq_true h1, decide_eq_false h2, Bool.true_and, Bool.false_and]
  · simp only [b__law_is_part, ap_seq, ap_skip, ap_bad, ap_break, ap_cont, ap_if, ap_set, ap_par, ap_par3, ap_ret, ap_retN, ap_expr, ap_asg, ap_for, ap_var, ap_C, ap_f2, ap_f1, ap_nil, ap_cons, ap_tup, ap_lst, ap_cellL, ap_call, ap_fif, ap_bool, ap_tru, ap_and, ap_or, ap_not, ap_andV, ap_orV, ap_notV, ap_chain, ap_part, ap_nopart, ap_slice, ap_disp, ap_pnil, ap_pcons, ap_iter, ap_iterA, ap_lc, ap_gnam, ap_gtup, ap_glst, ap_gsnil, ap_gscons, ap_run, ap_yes, List.length_cons, List.length_nil, List.map_cons, List.map_nil, List.replicate_succ, List.replicate_zero, List.cons_append, List.nil_append, List.getElem?_cons_zero, List.getElem?_cons_succ, List.getElem?_nil, List.set_cons_zero, List.set_cons_succ, if_true, if_false, reduceIte, Nat.reduceAdd, Nat.reduceSub, Bool.false_eq_true, isi_tt, isi_ii, isi_ib, len_t, tru_b, dNe_ii, iterB_t, lc_cons, lc_nil, pts_one, wipe_nil, wipe_cons, ptIx_one, dNe_nil, dLst_ok, okSz0, ix0, ix1, dLe_ii, dLt_ii,
        show ((2 : Nat) : Int) = 2 from rfl, decide_true, decide_false, Bool.not_true, Bool.not_false, decide_eq_false h1, Bool.true_and, Bool.false_and]
theorem between_eq (v least most : Int) (g : Gs) : phi_is_between [.int v, .int least, .int most] g = .ok (.bl (decide (least ≤ v) && decide (v ≤ most))) g := by
  unfold phi_is_between
  by_cases h : v < least
  · simp only [b_is_between, ap_seq, ap_skip, ap_bad, ap_break, ap_cont, ap_if, ap_set, ap_par, ap_par3, ap_ret, ap_retN, ap_expr, ap_asg, ap_for, ap_var, ap_C, ap_f2, ap_f1, ap_nil, ap_cons, ap_tup, ap_lst, ap_cellL, ap_call, ap_fif, ap_bool, ap_tru, ap_and, ap_or, ap_not, ap_andV, ap_orV, ap_notV, ap_chain, ap_part, ap_nopart, ap_slice, ap_disp, ap_pnil, ap_pcons, ap_iter, ap_iterA, ap_lc, ap_gnam, ap_gtup, ap_glst, ap_gsnil, ap_gscons, ap_run, ap_yes, List.length_cons, List.length_nil, List.map_cons, List.map_nil, List.replicate_succ, List.replicate_zero, List.cons_append, List.nil_append, List.getElem?_cons_zero, List.getElem?_cons_succ, List.getElem?_nil, List.set_cons_zero, List.set_cons_succ, if_true, if_false, reduceIte, Nat.reduceAdd, Nat.reduceSub, Bool.false_eq_true, isi_ii, isi_ib, tru_b, dLt_ii, decide_eq_true h, Bool.not_true, Bool.not_false, decide_eq_false (show ¬ least ≤ v by omega), Bool.false_and]
  · simp only [b_is_between, ap_seq, ap_skip, ap_bad, ap_break, ap_cont, ap_if, ap_set, ap_par, ap_par3, ap_ret, ap_retN, ap_expr, ap_asg, ap_for, ap_var, ap_C, ap_f2, ap_f1, ap_nil, ap_cons, ap_tup, ap_lst, ap_cellL, ap_call, ap_fif, ap_bool, ap_tru, ap_and, ap_or, ap_not, ap_andV, ap_orV, ap_notV, ap_chain, ap_part, ap_nopart, ap_slice, ap_disp, ap_pnil, ap_pcons, ap_iter, ap_iterA, ap_lc, ap_gnam, ap_gtup, ap_glst, ap_gsnil, ap_gscons, ap_run, ap_yes, List.length_cons, List.length_nil, List.map_cons, List.map_nil, List.replicate_succ, List.replicate_zero, List.cons_append, List.nil_append, List.getElem?_cons_zero, List.getElem?_cons_succ, List.getElem?_nil, List.set_cons_zero, List.set_cons_succ, if_true, if_false, reduceIte, Nat.reduceAdd, Nat.reduceSub, Bool.false_eq_true, isi_ii, isi_ib, tru_b, dLt_ii, dLe_ii, decide_eq_false h, Bool.not_true, Bool.not_false, decide_eq_true (show least ≤ v by omega), Bool.true_and, show ∀ (i : Int) (g : Gs), dIs (.int i) .non g = .ok (.bl false) g from fun _ _ => rfl]
theorem between_none (v least : Int) (g : Gs) : phi_is_between [.int v, .int least, .non] g = .ok (.bl (decide (least ≤ v))) g := by
  unfold phi_is_between
  by_cases h : v < least
  · simp only [b_is_between, ap_seq, ap_skip, ap_bad, ap_break, ap_cont, ap_if, ap_set, ap_par, ap_par3, ap_ret, ap_retN, ap_expr, ap_asg, ap_for, ap_var, ap_C, ap_f2, ap_f1, ap_nil, ap_cons, ap_tup, ap_lst, ap_cellL, ap_call, ap_fif, ap_bool, ap_tru, ap_and, ap_or, ap_not, ap_andV, ap_orV, ap_notV, ap_chain, ap_part, ap_nopart, ap_slice, ap_disp, ap_pnil, ap_pcons, ap_iter, ap_iterA, ap_lc, ap_gnam, ap_gtup, ap_glst, ap_gsnil, ap_gscons, ap_run, ap_yes, List.length_cons, List.length_nil, List.map_cons, List.map_nil, List.replicate_succ, List.replicate_zero, List.cons_append, List.nil_append, List.getElem?_cons_zero, List.getElem?_cons_succ, List.getElem?_nil, List.set_cons_zero, List.set_cons_succ, if_true, if_false, reduceIte, Nat.reduceAdd, Nat.reduceSub, Bool.false_eq_true, isi_ii, isi_ib, tru_b, dLt_ii, decide_eq_true h, Bool.not_true, Bool.not_false, decide_eq_false (show ¬ least ≤ v by omega), Bool.false_and]
  · simp only [b_is_between, ap_seq, ap_skip, ap_bad, ap_break, ap_cont, ap_if, ap_set, ap_par, ap_par3, ap_ret, ap_retN, ap_expr, ap_asg, ap_for, ap_var, ap_C, ap_f2, ap_f1, ap_nil, ap_cons, ap_tup, ap_lst, ap_cellL, ap_call, ap_fif, ap_bool, ap_tru, ap_and, ap_or, ap_not, ap_andV, ap_orV, ap_notV, ap_chain, ap_part, ap_nopart, ap_slice, ap_disp, ap_pnil, ap_pcons, ap_iter, ap_iterA, ap_lc, ap_gnam, ap_gtup, ap_glst, ap_gsnil, ap_gscons, ap_run, ap_yes, List.length_cons, List.length_nil, List.map_cons, List.map_nil, List.replicate_succ, List.replicate_zero, List.cons_append, List.nil_append, List.getElem?_cons_zero, List.getElem?_cons_succ, List.getElem?_nil, List.set_cons_zero, List.set_cons_succ, if_true, if_false, reduceIte, Nat.reduceAdd, Nat.reduceSub, Bool.false_eq_true, isi_ii, isi_ib, tru_b, dLt_ii, dLe_ii, decide_eq_false h, Bool.not_true, Bool.not_false, decide_eq_true (show least ≤ v by omega), Bool.true_and, show ∀ (g : Gs), dIs .non .non g = .ok (.bl true) g from fun _ => rfl]
theorem is_part_eq (p : Int × Int) (h : Sm p.2) (g : Gs) : phi_is_part [pD p] g = .ok (.bl (isP p)) g := by
  obtain ⟨a, b⟩ := p
  have h : Sm b := h
  unfold phi_is_part isP
  by_cases h1 : 1 ≤ b
  · by_cases h2 : 0 ≤ a ∧ a < b
    · simp only [b_is_part, ap_seq, ap_skip, ap_bad, ap_break, ap_cont, ap_if, ap_set, ap_par, ap_par3, ap_ret, ap_retN, ap_expr, ap_asg, ap_for, ap_var, ap_C, ap_f2, ap_f1, ap_nil, ap_cons, ap_tup, ap_lst, ap_cellL, ap_call, ap_fif, ap_bool, ap_tru, ap_and, ap_or, ap_not, ap_andV, ap_orV, ap_notV, ap_chain, ap_part, ap_nopart, ap_slice, ap_disp, ap_pnil, ap_pcons, ap_iter, ap_iterA, ap_lc, ap_gnam, ap_gtup, ap_glst, ap_gsnil, ap_gscons, ap_run, ap_yes, List.length_cons, List.length_nil, List.map_cons, List.map_nil, List.replicate_succ, List.replicate_zero, List.cons_append, List.nil_append, List.getElem?_cons_zero, List.getElem?_cons_succ, List.getElem?_nil, List.set_cons_zero, List.set_cons_succ, if_true, if_false, reduceIte, Nat.reduceAdd, Nat.reduceSub, Bool.false_eq_true, isi_tt, len_t, tru_b, dNe_ii, ix0, ix1, dSub_ii, between_eq, between_none, reduced_eq (show 0 < b by omega) h, dEq_pp, show ((2 : Nat) : Int) = 2 from rfl, decide_true, decide_false, Bool.not_true, Bool.not_false,
        decide_eq_true h1, decide_eq_true h2.1, decide_eq_true h2.2, decide_eq_true (show a ≤ b - 1 by omega), Bool.true_and, Bool.and_self]
    · have e : (decide (0 ≤ a) && decide (a ≤ b - 1)) = false := by
        rw [Bool.and_eq_false_iff]
        by_cases h3 : 0 ≤ a
        · exact .inr (decide_eq_false (by omega))
        · exact .inl (decide_eq_false h3)
      have e2 : (decide (0 ≤ a) && (decide (a < b) && decide (pt a b = (a, b)))) = false := by
        rw [Bool.and_eq_false_iff, Bool.and_eq_false_iff]
        by_cases h3 : 0 ≤ a
        · exact .inr (.inl (decide_eq_false (by omega)))
        · exact .inl (decide_eq_false h3)
      simp only [b_is_part, ap_seq, ap_skip, ap_bad, ap_break, ap_cont, ap_if, ap_set, ap_par, ap_par3, ap_ret, ap_retN, ap_expr, ap_asg, ap_for, ap_var, ap_C, ap_f2, ap_f1, ap_nil, ap_cons, ap_tup, ap_lst, ap_cellL, ap_call, ap_fif, ap_bool, ap_tru, ap_and, ap_or, ap_not, ap_andV, ap_orV, ap_notV, ap_chain, ap_part, ap_nopart, ap_slice, ap_disp, ap_pnil, ap_pcons, ap_iter, ap_iterA, ap_lc, ap_gnam, ap_gtup, ap_glst, ap_gsnil, ap_gscons, ap_run, ap_yes, List.length_cons, List.length_nil, List.map_cons, List.map_nil, List.replicate_succ, List.replicate_zero, List.cons_append, List.nil_append, List.getElem?_cons_zero, List.getElem?_cons_succ, List.getElem?_nil, List.set_cons_zero, List.set_cons_succ, if_true, if_false, reduceIte, Nat.reduceAdd, Nat.reduceSub, Bool.false_eq_true, isi_tt, len_t, tru_b, dNe_ii, ix0, ix1, dSub_ii, between_eq, between_none, show ((2 : Nat) : Int) = 2 from rfl, decide_true, decide_false, Bool.not_true, Bool.not_false, decide_eq_true h1, e, e2]
  · have e2 : (decide (0 ≤ a) && (decide (a < b) && decide (pt a b = (a, b)))) = false := by
      rw [Bool.and_eq_false_iff, Bool.and_eq_false_iff]
      by_cases h3 : 0 ≤ a
      · exact .inr (.inl (decide_eq_false (by omega)))
      · exact .inl (decide_eq_false h3)
    simp only [b_is_part, ap_seq, ap_skip, ap_bad, ap_break, ap_cont, ap_if, ap_set, ap_par, ap_par3, ap_ret, ap_retN, ap_expr, ap_asg, ap_for, ap_var, ap_C, ap_f2, ap_f1, ap_nil, ap_cons, ap_tup, ap_lst, ap_cellL, ap_call, ap_fif, ap_bool, ap_tru, ap_and, ap_or, ap_not, ap_andV, ap_orV, ap_notV, ap_chain, ap_part, ap_nopart, ap_slice, ap_disp, ap_pnil, ap_pcons, ap_iter, ap_iterA, ap_lc, ap_gnam, ap_gtup, ap_glst, ap_gsnil, ap_gscons, ap_run, ap_yes, List.length_cons, List.length_nil, List.map_cons, List.map_nil, List.replicate_succ, List.replicate_zero, List.cons_append, List.nil_append, List.getElem?_cons_zero, List.getElem?_cons_succ, List.getElem?_nil, List.set_cons_zero, List.set_cons_succ, if_true, if_false, reduceIte, Nat.reduceAdd, Nat.reduceSub, Bool.false_eq_true, isi_tt, len_t, tru_b, dNe_ii, ix0, ix1, dSub_ii, between_none, show ((2 : Nat) : Int) = 2 from rfl, decide_true, decide_false, Bool.not_true, Bool.not_false, decide_eq_false h1, e2]
end LB
set_option maxRecDepth 100000
set_option maxHeartbeats 4000000
namespace LB
open PySem PySem.Spec PyProof.Rows L2 DL
def L52 : Int := 10 ^ 52
structure PB (p : Int × Int) : Prop where
  a : -L52 ≤ p.1 ∧ p.1 ≤ L52
  b : -L52 ≤ p.2 ∧ p.2 ≤ L52
structure ArOk (a : Ar) : Prop where
  c : Cn a.p
  b : a.p.2 ≤ 2 * L30
  v : -(2 * L30) ≤ a.v ∧ a.v ≤ 2 * L30
def matchB (k : Bool) (p : Int × Int) (a b : Ar) : Bool := decide (a.z = b.z) && (decide (a.v = if k then 0 - b.v else b.v) && decide (pt (b.p.1 * p.2 + a.v * p.1 * b.p.2) (b.p.2 * p.2) = a.p))
def shownB (A B : List Ar) (c k : Bool) (p : Int × Int) : Bool := isP p && (decide (A.length = B.length) && (!(c && decide (A.length = 1)) && ((A.zip (if c then B.reverse else B)).all fun q => matchB k p q.1 q.2)))
theorem sm_mul2 {a b : Int} {m n : Nat} (ha : a.natAbs ≤ m) (hb : b.natAbs ≤ n) (h : m * n < 10 ^ 200) : Sm (a * b) := by
  unfold Sm
  rw [Int.natAbs_mul]
  exact Nat.lt_of_le_of_lt (Nat.mul_le_mul ha hb) h
abbrev shBody : FS := (sSeq (sAsg (f2 dIx (fVar 3) (fVar 7)) (DL.gTup 3 (gsCons (gNam 8) (gsCons (gNam 9) (gsCons (gNam 10) gsNil)))))
  (sSeq (sAsg (f2 dIx (fVar 4) (fVar 7)) (DL.gTup 3 (gsCons (gNam 11) (gsCons (gNam 12) (gsCons (gNam 13) gsNil)))))
  (sSeq (sIf (fOr (fBool (f2 dNe (fVar 8) (fVar 11))) (fBool (f2 dNe (fVar 9) (fIf (fTru (f2 dIx (fVar 2) (fC (.int 1)))) (f2 dSub (fC (.int 0)) (fVar 12)) (fVar 12))))) (sRet (fC (.bl false))) sSkip)
  (sIf (fBool (f2 dNe (fCall phi__law_part (fCons (f2 dAdd (f2 dMul (f2 dIx (fVar 13) (fC (.int 0))) (fVar 6)) (f2 dMul (f2 dMul (fVar 9) (fVar 5)) (f2 dIx (fVar 13) (fC (.int 1))))) (fCons (f2 dMul (f2 dIx (fVar 13) (fC (.int 1))) (fVar 6)) fNil))) (fVar 10))) (sRet (fC (.bl false))) sSkip))))
theorem ixl {ds : List D} {k : Int} {d : D} (h : atI ds k = some d) (g : Gs) : dIx (.lst ds) (.int k) g = .ok d g := by
  show (match atI ds k with | some d => Out.ok d g | none => .bad) = _
  rw [h]
theorem l52_eq : L52 = 10000000000000000000000000000000000000000000000000000 := by decide
theorem body_eq {x0 x1 y8 y9 y10 y11 y12 y13 : Option D} {LA LB : List D} {c k : Bool} {p : Int × Int} {i : Int} {a b : Ar} (ha : atI LA i = some (arD a)) (hb : atI LB i = some (arD b)) (oa : ArOk a) (ob : ArOk b) (hp : PB p) (h2 : 0 < p.2) (g : Gs) :
    shBody [x0, x1, some (.tup [.bl c, .bl k, pD p]), some (.lst LA), some (.lst LB), some (.int p.1), some (.int p.2), some (.int i), y8, y9, y10, y11, y12, y13] g =
      if matchB k p a b = true then .nx [x0, x1, some (.tup [.bl c, .bl k, pD p]), some (.lst LA), some (.lst LB), some (.int p.1), some (.int p.2), some (.int i), some (.int a.z), some (.int a.v), some (pD a.p), some (.int b.z), some (.int b.v), some (pD b.p)] g else .rt (.bl false) g := by
  obtain ⟨az, av, ap⟩ := a
  obtain ⟨bz, bv, b1, b2⟩ := b
  obtain ⟨p1, p2⟩ := p
  have bc : 0 ≤ b1 ∧ b1 < b2 := ⟨ob.c.1, ob.c.2.1⟩
  have bb : b2 ≤ 2 * L30 := ob.b
  have va : -(2 * L30) ≤ av ∧ av ≤ 2 * L30 := oa.v
  have pa : -L52 ≤ p1 ∧ p1 ≤ L52 := hp.a
  have pb : -L52 ≤ p2 ∧ p2 ≤ L52 := hp.b
  have h2 : 0 < p2 := h2
  rw [L30_eq] at bb va
  rw [l52_eq] at pa pb
  have nb1 : b1.natAbs ≤ 2 * 10 ^ 30 := by omega
  have nb2 : b2.natAbs ≤ 2 * 10 ^ 30 := by omega
  have nv : av.natAbs ≤ 2 * 10 ^ 30 := by omega
  have n1 : p1.natAbs ≤ 10 ^ 52 := by omega
  have n2 : p2.natAbs ≤ 10 ^ 52 := by omega
  have s1 : Sm b1 := by unfold Sm; omega
  have s2 : Sm b2 := by unfold Sm; omega
  have s3 : Sm av := by unfold Sm; omega
  have s4 : Sm p1 := by unfold Sm; omega
  have s5 : Sm p2 := by unfold Sm; omega
  have s6 : Sm (av * p1) := sm_mul2 nv n1 (by decide)
  have hpos : 0 < b2 * p2 := Int.mul_pos (by omega) h2
  have hlt : b2 * p2 < line83 := by
    have h7 : (b2 * p2).natAbs ≤ (2 * 10 ^ 30) * 10 ^ 52 := by
      rw [Int.natAbs_mul]
      exact Nat.mul_le_mul nb2 n2
    have h8 : ((2 * 10 ^ 30 * 10 ^ 52 : Nat) : Int) < line83 := by decide
    omega
  unfold matchB
  by_cases e1 : az = bz
  · by_cases e2 : av = if k then 0 - bv else bv
    · by_cases e3 : pt (b1 * p2 + av * p1 * b2) (b2 * p2) = ap
      · cases k
        all_goals
          simp only [Bool.false_eq_true, if_true, if_false] at e2
          simp only [shBody, ap_seq, ap_skip, ap_bad, ap_break, ap_cont, ap_if, ap_set, ap_par, ap_par3, ap_ret, ap_retN, ap_expr, ap_asg, ap_for, ap_var, ap_C, ap_f2, ap_f1, ap_nil, ap_cons, ap_tup, ap_lst, ap_cellL, ap_call, ap_fif, ap_bool, ap_tru, ap_and, ap_or, ap_not, ap_andV, ap_orV, ap_notV, ap_chain, ap_part, ap_nopart, ap_slice, ap_disp, ap_pnil, ap_pcons, ap_iter, ap_iterA, ap_lc, ap_gnam, ap_gtup, ap_glst, ap_gsnil, ap_gscons, ap_run, ap_yes, List.length_cons, List.length_nil, List.map_cons, List.map_nil, List.replicate_succ, List.replicate_zero, List.cons_append, List.nil_append, List.getElem?_cons_zero, List.getElem?_cons_succ, List.getElem?_nil, List.set_cons_zero, List.set_cons_succ, if_true, if_false, reduceIte, Nat.reduceAdd, Nat.reduceSub, Bool.false_eq_true, ixl ha, ixl hb, dNe_ii, ix0, ix1, tru_b, dSub_ii, dAdd_ii, dMul_ii (okMul_sm s1 s5), dMul_ii (okMul_sm s3 s4), dMul_ii (okMul_sm s6 s2), dMul_ii (okMul_sm s2 s5), part_eq hpos hlt, dNe_pp,
            decide_eq_true e1, decide_eq_true e2, decide_eq_true e3, Bool.not_true, Bool.and_self]
      · cases k
        all_goals
          simp only [Bool.false_eq_true, if_true, if_false] at e2
          simp only [shBody, ap_seq, ap_skip, ap_bad, ap_break, ap_cont, ap_if, ap_set, ap_par, ap_par3, ap_ret, ap_retN, ap_expr, ap_asg, ap_for, ap_var, ap_C, ap_f2, ap_f1, ap_nil, ap_cons, ap_tup, ap_lst, ap_cellL, ap_call, ap_fif, ap_bool, ap_tru, ap_and, ap_or, ap_not, ap_andV, ap_orV, ap_notV, ap_chain, ap_part, ap_nopart, ap_slice, ap_disp, ap_pnil, ap_pcons, ap_iter, ap_iterA, ap_lc, ap_gnam, ap_gtup, ap_glst, ap_gsnil, ap_gscons, ap_run, ap_yes, List.length_cons, List.length_nil, List.map_cons, List.map_nil, List.replicate_succ, List.replicate_zero, List.cons_append, List.nil_append, List.getElem?_cons_zero, List.getElem?_cons_succ, List.getElem?_nil, List.set_cons_zero, List.set_cons_succ, if_true, if_false, reduceIte, Nat.reduceAdd, Nat.reduceSub, Bool.false_eq_true, ixl ha, ixl hb, dNe_ii, ix0, ix1, tru_b, dSub_ii, dAdd_ii, dMul_ii (okMul_sm s1 s5), dMul_ii (okMul_sm s3 s4), dMul_ii (okMul_sm s6 s2), dMul_ii (okMul_sm s2 s5), part_eq hpos hlt, dNe_pp,
            decide_eq_true e1, decide_eq_true e2, decide_eq_false e3, Bool.not_true, Bool.not_false, Bool.and_self, Bool.and_false]
    · cases k
      all_goals
        simp only [Bool.false_eq_true, if_true, if_false] at e2
        simp only [shBody, ap_seq, ap_skip, ap_bad, ap_break, ap_cont, ap_if, ap_set, ap_par, ap_par3, ap_ret, ap_retN, ap_expr, ap_asg, ap_for, ap_var, ap_C, ap_f2, ap_f1, ap_nil, ap_cons, ap_tup, ap_lst, ap_cellL, ap_call, ap_fif, ap_bool, ap_tru, ap_and, ap_or, ap_not, ap_andV, ap_orV, ap_notV, ap_chain, ap_part, ap_nopart, ap_slice, ap_disp, ap_pnil, ap_pcons, ap_iter, ap_iterA, ap_lc, ap_gnam, ap_gtup, ap_glst, ap_gsnil, ap_gscons, ap_run, ap_yes, List.length_cons, List.length_nil, List.map_cons, List.map_nil, List.replicate_succ, List.replicate_zero, List.cons_append, List.nil_append, List.getElem?_cons_zero, List.getElem?_cons_succ, List.getElem?_nil, List.set_cons_zero, List.set_cons_succ, if_true, if_false, reduceIte, Nat.reduceAdd, Nat.reduceSub, Bool.false_eq_true, ixl ha, ixl hb, dNe_ii, ix0, ix1, tru_b, dSub_ii, decide_eq_true e1, decide_eq_false e2, Bool.not_true, Bool.not_false, Bool.and_self, Bool.and_false, Bool.false_and]
  · cases k
    all_goals
      simp only [shBody, ap_seq, ap_skip, ap_bad, ap_break, ap_cont, ap_if, ap_set, ap_par, ap_par3, ap_ret, ap_retN, ap_expr, ap_asg, ap_for, ap_var, ap_C, ap_f2, ap_f1, ap_nil, ap_cons, ap_tup, ap_lst, ap_cellL, ap_call, ap_fif, ap_bool, ap_tru, ap_and, ap_or, ap_not, ap_andV, ap_orV, ap_notV, ap_chain, ap_part, ap_nopart, ap_slice, ap_disp, ap_pnil, ap_pcons, ap_iter, ap_iterA, ap_lc, ap_gnam, ap_gtup, ap_glst, ap_gsnil, ap_gscons, ap_run, ap_yes, List.length_cons, List.length_nil, List.map_cons, List.map_nil, List.replicate_succ, List.replicate_zero, List.cons_append, List.nil_append, List.getElem?_cons_zero, List.getElem?_cons_succ, List.getElem?_nil, List.set_cons_zero, List.set_cons_succ, if_true, if_false, reduceIte, Nat.reduceAdd, Nat.reduceSub, Bool.false_eq_true, ixl ha, ixl hb, dNe_ii, ix0, ix1, tru_b, dSub_ii, decide_eq_false e1, Bool.not_true, Bool.not_false, Bool.and_self, Bool.and_false, Bool.false_and]
end LB
set_option maxRecDepth 100000
set_option maxHeartbeats 4000000
namespace LB
open PySem PySem.Spec PyProof.Rows L2 DL
theorem ediv_bd {x g : Int} (hg : 1 ≤ g) {m : Int} (h1 : -m ≤ x) (h2 : x ≤ m) (hm : 0 ≤ m) : -m ≤ x / g ∧ x / g ≤ m := by
  by_cases hx : 0 ≤ x
  · have a1 := Int.ediv_nonneg hx (show 0 ≤ g by omega)
    have a2 := Int.ediv_le_self g hx
    omega
  · have a1 : x / g ≤ 0 := by
      have := Int.ediv_lt_of_lt_mul (show 0 < g by omega) (show x < 0 * g by omega)
      omega
    have a2 : x ≤ x / g := by
      refine Int.le_ediv_of_mul_le (by omega) ?_
      have := Int.mul_le_mul_of_nonpos_left (show x ≤ 0 by omega) hg
      omega
    omega
theorem ph_ok {s : St5} (h : Vd s) : Cn s.ph ∧ s.ph.2 ≤ 2 * L30 := by
  have r1 := h.r1; have rB := h.rB
  refine ⟨pt_cn (by omega), ?_⟩
  have := pt_le (a := s.t) (show 0 < s.R by omega)
  show (pt s.t s.R).2 ≤ _
  omega
theorem ac_ok {s : St5} (h : Vd s) : Cn s.ac ∧ s.ac.2 ≤ 2 * L30 := by
  have r1 := h.r1; have rB := h.rB
  refine ⟨pt_cn (by omega), ?_⟩
  have := pt_le (a := 2 * s.t + s.R) (show 0 < 2 * s.R by omega)
  show (pt (2 * s.t + s.R) (2 * s.R)).2 ≤ _
  omega
theorem p1_ok {s : St5} (h : Vd s) : Cn s.p1 ∧ s.p1.2 ≤ 2 * L30 := by
  unfold St5.p1
  split
  · exact ac_ok h
  · exact ph_ok h
theorem p2_ok {s : St5} (h : Vd s) : Cn s.p2 ∧ s.p2.2 ≤ 2 * L30 := by
  unfold St5.p2
  split
  · exact ac_ok h
  · exact ph_ok h
theorem L30_pos : 0 < L30 := by decide
theorem a1_ok {s : St5} (h : Vd s) {v : Int} (hv : -(2 * L30) ≤ v ∧ v ≤ 2 * L30) : ArOk ⟨s.mid, v, s.p1⟩ := ⟨(p1_ok h).1, (p1_ok h).2, hv⟩
theorem sl_ok {s : St5} (h : Vd s) : -(2 * L30) ≤ s.sl ∧ s.sl ≤ 2 * L30 := by
  have r1 := h.r1; have rB := h.rB; have w1 := h.w1; have wB := h.wB; have g1 := h.g1
  unfold St5.sl
  split
  · exact ediv_bd (by omega) (by omega) (by omega) (by omega)
  · exact ediv_bd (by omega) (by omega) (by omega) (by omega)
theorem ars_ok {s : St5} (h : Vd s) : ∀ a ∈ s.ars, ArOk a := by
  have r1 := h.r1; have rB := h.rB; have w1 := h.w1; have wB := h.wB; have g1 := h.g1
  have l0 := L30_pos
  have hq : -(2 * L30) ≤ s.w / s.g ∧ s.w / s.g ≤ 2 * L30 := ediv_bd (by omega) (by omega) (by omega) (by omega)
  intro a ha
  unfold St5.ars at ha
  split at ha
  · rw [List.mem_singleton] at ha
    rw [ha]; exact a1_ok h (by omega)
  · rcases List.mem_cons.mp ha with e | ha
    · rw [e]; exact a1_ok h hq
    · rw [List.mem_singleton] at ha
      rw [ha]; exact ⟨(p2_ok h).1, (p2_ok h).2, sl_ok h⟩
theorem ars_len (s : St5) : (∃ a, s.ars = [a]) ∨ ∃ a b, s.ars = [a, b] := by
  unfold St5.ars
  split
  · exact .inl ⟨_, rfl⟩
  · exact .inr ⟨_, _, rfl⟩
theorem atl0 (a : D) (l : List D) : atI (a :: l) 0 = some a := atI_nat (j := 0) rfl
theorem atl1 (a b : D) (l : List D) : atI (a :: b :: l) 1 = some b := atI_nat (j := 1) rfl
theorem rg1 (g : Gs) : dRg1 [.int 1] g = .ok [.int 0] g := (rfl)
theorem rg2 (g : Gs) : dRg1 [.int 2] g = .ok [.int 0, .int 1] g := (rfl)
theorem rev2_l (l : List D) (g : Gs) : dRev2 (.lst l) g = .ok (.lst l.reverse) g := (rfl)
theorem rev2_t (l : List D) (g : Gs) : dRev2 (.tup l) g = .ok (.tup l.reverse) g := (rfl)
theorem pb_line {p : Int × Int} (hp : PB p) : p.2 < line83 := by
  have h := hp.b.2
  have : L52 < line83 := by decide
  omega
theorem isP_pos {p : Int × Int} (h : isP p = true) : 0 ≤ p.1 ∧ p.1 < p.2 ∧ pt p.1 p.2 = p := by
  unfold isP at h
  rw [Bool.and_eq_true, Bool.and_eq_true] at h
  exact ⟨of_decide_eq_true h.1, of_decide_eq_true h.2.1, of_decide_eq_true h.2.2⟩
abbrev shEnv (x0 x1 : Option D) (c k : Bool) (p : Int × Int) (LA LB : List D) (y7 y8 y9 y10 y11 y12 y13 : Option D) : DL.Env := [x0, x1, some (.tup [.bl c, .bl k, pD p]), some (.lst LA), some (.lst LB), some (.int p.1), some (.int p.2), y7, y8, y9, y10, y11, y12, y13]
theorem loop1 {x0 x1 y7 y8 y9 y10 y11 y12 y13 : Option D} {c k : Bool} {p : Int × Int} {a b : Ar} (oa : ArOk a) (ob : ArOk b) (hp : PB p) (h2 : 0 < p.2) (g : Gs) :
    (matchB k p a b = true → ∃ r, forD (gNam 7) shBody [.int 0] (shEnv x0 x1 c k p [arD a] [arD b] y7 y8 y9 y10 y11 y12 y13) g = .nx r g) ∧
    (matchB k p a b = false → forD (gNam 7) shBody [.int 0] (shEnv x0 x1 c k p [arD a] [arD b] y7 y8 y9 y10 y11 y12 y13) g = .rt (.bl false) g) := by
  have body := body_eq (x0 := x0) (x1 := x1) (y8 := y8) (y9 := y9) (y10 := y10) (y11 := y11) (y12 := y12) (y13 := y13) (LA := [arD a]) (LB := [arD b]) (c := c) (k := k) (i := 0) (atl0 _ _) (atl0 _ _) oa ob hp h2 g
  refine ⟨fun h => ?_, fun h => ?_⟩
  · rw [h, if_pos rfl] at body
    apply Exists.intro
    simp only [ap_for_cons, ap_gnam, List.set_cons_succ, List.set_cons_zero, body, ap_for_nil]
    rfl
  · rw [h, if_neg Bool.false_ne_true] at body
    simp only [ap_for_cons, ap_gnam, List.set_cons_succ, List.set_cons_zero, body]
theorem loop2 {x0 x1 y7 y8 y9 y10 y11 y12 y13 : Option D} {c k : Bool} {p : Int × Int} {a b a' b' : Ar} (oa : ArOk a) (ob : ArOk b) (oa' : ArOk a') (ob' : ArOk b') (hp : PB p) (h2 : 0 < p.2) (g : Gs) :
    ((matchB k p a b && matchB k p a' b') = true → ∃ r, forD (gNam 7) shBody [.int 0, .int 1] (shEnv x0 x1 c k p [arD a, arD a'] [arD b, arD b'] y7 y8 y9 y10 y11 y12 y13) g = .nx r g) ∧
    ((matchB k p a b && matchB k p a' b') = false → forD (gNam 7) shBody [.int 0, .int 1] (shEnv x0 x1 c k p [arD a, arD a'] [arD b, arD b'] y7 y8 y9 y10 y11 y12 y13) g = .rt (.bl false) g) := by
  have body := body_eq (x0 := x0) (x1 := x1) (y8 := y8) (y9 := y9) (y10 := y10) (y11 := y11) (y12 := y12) (y13 := y13) (LA := [arD a, arD a']) (LB := [arD b, arD b']) (c := c) (k := k) (i := 0) (atl0 _ _) (atl0 _ _) oa ob hp h2 g
  have body2 := fun y8 y9 y10 y11 y12 y13 => body_eq (x0 := x0) (x1 := x1) (y8 := y8) (y9 := y9) (y10 := y10) (y11 := y11) (y12 := y12) (y13 := y13) (LA := [arD a, arD a']) (LB := [arD b, arD b']) (c := c) (k := k) (i := 1) (atl1 _ _ _) (atl1 _ _ _) oa' ob' hp h2 g
  refine ⟨fun h => ?_, fun h => ?_⟩
  · rw [Bool.and_eq_true] at h
    rw [h.1, if_pos rfl] at body
    rw [h.2] at body2
    simp only [if_true] at body2
    apply Exists.intro
    simp only [ap_for_cons, ap_gnam, List.set_cons_succ, List.set_cons_zero, body, body2, ap_for_nil]
    rfl
  · cases h1 : matchB k p a b with
    | false =>
      rw [h1, if_neg Bool.false_ne_true] at body
      simp only [ap_for_cons, ap_gnam, List.set_cons_succ, List.set_cons_zero, body]
    | true =>
      rw [h1, Bool.true_and] at h
      rw [h1, if_pos rfl] at body
      rw [h] at body2
      simp only [Bool.false_eq_true, if_false] at body2
      simp only [ap_for_cons, ap_gnam, List.set_cons_succ, List.set_cons_zero, body, body2]
theorem shown_len {A B : List Ar} {c k : Bool} {p : Int × Int} (h : A.length ≠ B.length) : shownB A B c k p = false := by
  unfold shownB
  rw [decide_eq_false h, Bool.false_and, Bool.and_false]
theorem is_shown_eq {s n : St5} (hs : Vd s) (hn : Vd n) {c k : Bool} {p : Int × Int} (hp : PB p) (g : Gs) : phi__law_is_shown [stD s, stD n, .tup [.bl c, .bl k, pD p]] g = .ok (.bl (shownB s.ars n.ars c k p)) g := by
  have A := arrows_eq hs g
  have B := arrows_eq hn g
  have okA := ars_ok hs
  have okB := ars_ok hn
  have hl := law_is_part_eq p (pb_line hp) g
  have n3 : ((3 : Nat) : Int) = 3 := rfl
  have n1 : ((1 : Nat) : Int) = 1 := rfl
  have n2 : ((2 : Nat) : Int) = 2 := rfl
  have d12 : decide ((1 : Int) = 2) = false := rfl
  have d21 : decide ((2 : Int) = 1) = false := rfl
  unfold phi__law_is_shown
  by_cases hz : isP p = true
  · have hq := isP_pos hz
    have h2 : 0 < p.2 := by omega
    rcases ars_len s with ⟨a, ea⟩ | ⟨a, a', ea⟩
    · rw [ea] at A okA ⊢
      rcases ars_len n with ⟨b, eb⟩ | ⟨b, b', eb⟩
      · rw [eb] at B okB ⊢
        cases c
        · have lp := loop1 (x0 := some (stD s)) (x1 := some (stD n)) (y7 := none) (y8 := none) (y9 := none) (y10 := none) (y11 := none) (y12 := none) (y13 := none) (c := false) (k := k) (okA a (by simp)) (okB b (by simp)) hp h2 g
          have es : shownB [a] [b] false k p = matchB k p a b := by simp [shownB, hz]
          rw [es]
          cases hm : matchB k p a b with
          | true =>
            obtain ⟨r, e⟩ := lp.1 hm
            simp only [b__law_is_shown, ap_seq, ap_skip, ap_bad, ap_break, ap_cont, ap_if, ap_set, ap_par, ap_par3, ap_ret, ap_retN, ap_expr, ap_asg, ap_for, ap_var, ap_C, ap_f2, ap_f1, ap_nil, ap_cons, ap_tup, ap_lst, ap_cellL, ap_call, ap_fif, ap_bool, ap_tru, ap_and, ap_or, ap_not, ap_andV, ap_orV, ap_notV, ap_chain, ap_part, ap_nopart, ap_slice, ap_disp, ap_pnil, ap_pcons, ap_iter, ap_iterA, ap_lc, ap_gnam, ap_gtup, ap_glst, ap_gsnil, ap_gscons, ap_run, ap_yes, List.length_cons, List.length_nil, List.map_cons, List.map_nil, List.replicate_succ, List.replicate_zero, List.cons_append, List.nil_append, List.getElem?_cons_zero, List.getElem?_cons_succ, List.getElem?_nil, List.set_cons_zero, List.set_cons_succ, if_true, if_false, reduceIte, Nat.reduceAdd, Nat.reduceSub, Bool.false_eq_true, A, B, hl, hz, isi_tt, isi_bb, len_t, len_l, tru_b, dNe_ii, dEq_ii, ix0, ix1, ix2, Bool.not_true, Bool.not_false, decide_true, decide_false, n3, n1, rg1, e]
          | false =>
            have e := lp.2 hm
            simp only [b__law_is_shown, ap_seq, ap_skip, ap_bad, ap_break, ap_cont, ap_if, ap_set, ap_par, ap_par3, ap_ret, ap_retN, ap_expr, ap_asg, ap_for, ap_var, ap_C, ap_f2, ap_f1, ap_nil, ap_cons, ap_tup, ap_lst, ap_cellL, ap_call, ap_fif, ap_bool, ap_tru, ap_and, ap_or, ap_not, ap_andV, ap_orV, ap_notV, ap_chain, ap_part, ap_nopart, ap_slice, ap_disp, ap_pnil, ap_pcons, ap_iter, ap_iterA, ap_lc, ap_gnam, ap_gtup, ap_glst, ap_gsnil, ap_gscons, ap_run, ap_yes, List.length_cons, List.length_nil, List.map_cons, List.map_nil, List.replicate_succ, List.replicate_zero, List.cons_append, List.nil_append, List.getElem?_cons_zero, List.getElem?_cons_succ, List.getElem?_nil, List.set_cons_zero, List.set_cons_succ, if_true, if_false, reduceIte, Nat.reduceAdd, Nat.reduceSub, Bool.false_eq_true, A, B, hl, hz, isi_tt, isi_bb, len_t, len_l, tru_b, dNe_ii, dEq_ii, ix0, ix1, ix2, Bool.not_true, Bool.not_false, decide_true, decide_false, n3, n1, rg1, e]
        · have es : shownB [a] [b] true k p = false := by simp [shownB]
          rw [es]
          simp only [b__law_is_shown, ap_seq, ap_skip, ap_bad, ap_break, ap_cont, ap_if, ap_set, ap_par, ap_par3, ap_ret, ap_retN, ap_expr, ap_asg, ap_for, ap_var, ap_C, ap_f2, ap_f1, ap_nil, ap_cons, ap_tup, ap_lst, ap_cellL, ap_call, ap_fif, ap_bool, ap_tru, ap_and, ap_or, ap_not, ap_andV, ap_orV, ap_notV, ap_chain, ap_part, ap_nopart, ap_slice, ap_disp, ap_pnil, ap_pcons, ap_iter, ap_iterA, ap_lc, ap_gnam, ap_gtup, ap_glst, ap_gsnil, ap_gscons, ap_run, ap_yes, List.length_cons, List.length_nil, List.map_cons, List.map_nil, List.replicate_succ, List.replicate_zero, List.cons_append, List.nil_append, List.getElem?_cons_zero, List.getElem?_cons_succ, List.getElem?_nil, List.set_cons_zero, List.set_cons_succ, if_true, if_false, reduceIte, Nat.reduceAdd, Nat.reduceSub, Bool.false_eq_true, A, B, hl, hz, isi_tt, isi_bb, len_t, len_l, tru_b, dNe_ii, dEq_ii, ix0, ix1, ix2, Bool.not_true, Bool.not_false, decide_true, decide_false, n3, n1]
      · rw [eb] at B okB ⊢
        rw [shown_len (by simp)]
        simp only [b__law_is_shown, ap_seq, ap_skip, ap_bad, ap_break, ap_cont, ap_if, ap_set, ap_par, ap_par3, ap_ret, ap_retN, ap_expr, ap_asg, ap_for, ap_var, ap_C, ap_f2, ap_f1, ap_nil, ap_cons, ap_tup, ap_lst, ap_cellL, ap_call, ap_fif, ap_bool, ap_tru, ap_and, ap_or, ap_not, ap_andV, ap_orV, ap_notV, ap_chain, ap_part, ap_nopart, ap_slice, ap_disp, ap_pnil, ap_pcons, ap_iter, ap_iterA, ap_lc, ap_gnam, ap_gtup, ap_glst, ap_gsnil, ap_gscons, ap_run, ap_yes, List.length_cons, List.length_nil, List.map_cons, List.map_nil, List.replicate_succ, List.replicate_zero, List.cons_append, List.nil_append, List.getElem?_cons_zero, List.getElem?_cons_succ, List.getElem?_nil, List.set_cons_zero, List.set_cons_succ, if_true, if_false, reduceIte, Nat.reduceAdd, Nat.reduceSub, Bool.false_eq_true, A, B, hl, hz, isi_tt, isi_bb, len_t, len_l, tru_b, dNe_ii, dEq_ii, ix0, ix1, ix2, Bool.not_true, Bool.not_false, decide_true, decide_false, n3, n1, n2, d12, d21]
    · rw [ea] at A okA ⊢
      rcases ars_len n with ⟨b, eb⟩ | ⟨b, b', eb⟩
      · rw [eb] at B okB ⊢
        rw [shown_len (by simp)]
        simp only [b__law_is_shown, ap_seq, ap_skip, ap_bad, ap_break, ap_cont, ap_if, ap_set, ap_par, ap_par3, ap_ret, ap_retN, ap_expr, ap_asg, ap_for, ap_var, ap_C, ap_f2, ap_f1, ap_nil, ap_cons, ap_tup, ap_lst, ap_cellL, ap_call, ap_fif, ap_bool, ap_tru, ap_and, ap_or, ap_not, ap_andV, ap_orV, ap_notV, ap_chain, ap_part, ap_nopart, ap_slice, ap_disp, ap_pnil, ap_pcons, ap_iter, ap_iterA, ap_lc, ap_gnam, ap_gtup, ap_glst, ap_gsnil, ap_gscons, ap_run, ap_yes, List.length_cons, List.length_nil, List.map_cons, List.map_nil, List.replicate_succ, List.replicate_zero, List.cons_append, List.nil_append, List.getElem?_cons_zero, List.getElem?_cons_succ, List.getElem?_nil, List.set_cons_zero, List.set_cons_succ, if_true, if_false, reduceIte, Nat.reduceAdd, Nat.reduceSub, Bool.false_eq_true, A, B, hl, hz, isi_tt, isi_bb, len_t, len_l, tru_b, dNe_ii, dEq_ii, ix0, ix1, ix2, Bool.not_true, Bool.not_false, decide_true, decide_false, n3, n1, n2, d12, d21]
      · rw [eb] at B okB ⊢
        cases c
        · have lp := loop2 (x0 := some (stD s)) (x1 := some (stD n)) (y7 := none) (y8 := none) (y9 := none) (y10 := none) (y11 := none) (y12 := none) (y13 := none) (c := false) (k := k) (okA a (by simp)) (okB b (by simp)) (okA a' (by simp)) (okB b' (by simp)) hp h2 g
          have es : shownB [a, a'] [b, b'] false k p = (matchB k p a b && matchB k p a' b') := by simp [shownB, hz]
          rw [es]
          cases hm : (matchB k p a b && matchB k p a' b') with
          | true =>
            obtain ⟨r, e⟩ := lp.1 hm
            simp only [b__law_is_shown, ap_seq, ap_skip, ap_bad, ap_break, ap_cont, ap_if, ap_set, ap_par, ap_par3, ap_ret, ap_retN, ap_expr, ap_asg, ap_for, ap_var, ap_C, ap_f2, ap_f1, ap_nil, ap_cons, ap_tup, ap_lst, ap_cellL, ap_call, ap_fif, ap_bool, ap_tru, ap_and, ap_or, ap_not, ap_andV, ap_orV, ap_notV, ap_chain, ap_part, ap_nopart, ap_slice, ap_disp, ap_pnil, ap_pcons, ap_iter, ap_iterA, ap_lc, ap_gnam, ap_gtup, ap_glst, ap_gsnil, ap_gscons, ap_run, ap_yes, List.length_cons, List.length_nil, List.map_cons, List.map_nil, List.replicate_succ, List.replicate_zero, List.cons_append, List.nil_append, List.getElem?_cons_zero, List.getElem?_cons_succ, List.getElem?_nil, List.set_cons_zero, List.set_cons_succ, if_true, if_false, reduceIte, Nat.reduceAdd, Nat.reduceSub, Bool.false_eq_true, A, B, hl, hz, isi_tt, isi_bb, len_t, len_l, tru_b, dNe_ii, dEq_ii, ix0, ix1, ix2, Bool.not_true, Bool.not_false, decide_true, decide_false, n3, n2, d21, rg2, e]
          | false =>
            have e := lp.2 hm
            simp only [b__law_is_shown, ap_seq, ap_skip, ap_bad, ap_break, ap_cont, ap_if, ap_set, ap_par, ap_par3, ap_ret, ap_retN, ap_expr, ap_asg, ap_for, ap_var, ap_C, ap_f2, ap_f1, ap_nil, ap_cons, ap_tup, ap_lst, ap_cellL, ap_call, ap_fif, ap_bool, ap_tru, ap_and, ap_or, ap_not, ap_andV, ap_orV, ap_notV, ap_chain, ap_part, ap_nopart, ap_slice, ap_disp, ap_pnil, ap_pcons, ap_iter, ap_iterA, ap_lc, ap_gnam, ap_gtup, ap_glst, ap_gsnil, ap_gscons, ap_run, ap_yes, List.length_cons, List.length_nil, List.map_cons, List.map_nil, List.replicate_succ, List.replicate_zero, List.cons_append, List.nil_append, List.getElem?_cons_zero, List.getElem?_cons_succ, List.getElem?_nil, List.set_cons_zero, List.set_cons_succ, if_true, if_false, reduceIte, Nat.reduceAdd, Nat.reduceSub, Bool.false_eq_true, A, B, hl, hz, isi_tt, isi_bb, len_t, len_l, tru_b, dNe_ii, dEq_ii, ix0, ix1, ix2, Bool.not_true, Bool.not_false, decide_true, decide_false, n3, n2, d21, rg2, e]
        · have lp := loop2 (x0 := some (stD s)) (x1 := some (stD n)) (y7 := none) (y8 := none) (y9 := none) (y10 := none) (y11 := none) (y12 := none) (y13 := none) (c := true) (k := k) (okA a (by simp)) (okB b' (by simp)) (okA a' (by simp)) (okB b (by simp)) hp h2 g
          have es : shownB [a, a'] [b, b'] true k p = (matchB k p a b' && matchB k p a' b) := by simp [shownB, hz]
          rw [es]
          have er : List.reverse [arD b, arD b'] = [arD b', arD b] := rfl
          cases hm : (matchB k p a b' && matchB k p a' b) with
          | true =>
            obtain ⟨r, e⟩ := lp.1 hm
            simp only [b__law_is_shown, ap_seq, ap_skip, ap_bad, ap_break, ap_cont, ap_if, ap_set, ap_par, ap_par3, ap_ret, ap_retN, ap_expr, ap_asg, ap_for, ap_var, ap_C, ap_f2, ap_f1, ap_nil, ap_cons, ap_tup, ap_lst, ap_cellL, ap_call, ap_fif, ap_bool, ap_tru, ap_and, ap_or, ap_not, ap_andV, ap_orV, ap_notV, ap_chain, ap_part, ap_nopart, ap_slice, ap_disp, ap_pnil, ap_pcons, ap_iter, ap_iterA, ap_lc, ap_gnam, ap_gtup, ap_glst, ap_gsnil, ap_gscons, ap_run, ap_yes, List.length_cons, List.length_nil, List.map_cons, List.map_nil, List.replicate_succ, List.replicate_zero, List.cons_append, List.nil_append, List.getElem?_cons_zero, List.getElem?_cons_succ, List.getElem?_nil, List.set_cons_zero, List.set_cons_succ, if_true, if_false, reduceIte, Nat.reduceAdd, Nat.reduceSub, Bool.false_eq_true, A, B, hl, hz, isi_tt, isi_bb, len_t, len_l, tru_b, dNe_ii, dEq_ii, ix0, ix1, ix2, Bool.not_true, Bool.not_false, decide_true, decide_false, n3, n2, d21, rg2, rev2_l, er, e]
          | false =>
            have e := lp.2 hm
            simp only [b__law_is_shown, ap_seq, ap_skip, ap_bad, ap_break, ap_cont, ap_if, ap_set, ap_par, ap_par3, ap_ret, ap_retN, ap_expr, ap_asg, ap_for, ap_var, ap_C, ap_f2, ap_f1, ap_nil, ap_cons, ap_tup, ap_lst, ap_cellL, ap_call, ap_fif, ap_bool, ap_tru, ap_and, ap_or, ap_not, ap_andV, ap_orV, ap_notV, ap_chain, ap_part, ap_nopart, ap_slice, ap_disp, ap_pnil, ap_pcons, ap_iter, ap_iterA, ap_lc, ap_gnam, ap_gtup, ap_glst, ap_gsnil, ap_gscons, ap_run, ap_yes, List.length_cons, List.length_nil, List.map_cons, List.map_nil, List.replicate_succ, List.replicate_zero, List.cons_append, List.nil_append, List.getElem?_cons_zero, List.getElem?_cons_succ, List.getElem?_nil, List.set_cons_zero, List.set_cons_succ, if_true, if_false, reduceIte, Nat.reduceAdd, Nat.reduceSub, Bool.false_eq_true, A, B, hl, hz, isi_tt, isi_bb, len_t, len_l, tru_b, dNe_ii, dEq_ii, ix0, ix1, ix2, Bool.not_true, Bool.not_false, decide_true, decide_false, n3, n2, d21, rg2, rev2_l, er, e]
  · have hz : isP p = false := by simpa using hz
    have es : shownB s.ars n.ars c k p = false := by simp [shownB, hz]
    rw [es]
    simp only [b__law_is_shown, ap_seq, ap_skip, ap_bad, ap_break, ap_cont, ap_if, ap_set, ap_par, ap_par3, ap_ret, ap_retN, ap_expr, ap_asg, ap_for, ap_var, ap_C, ap_f2, ap_f1, ap_nil, ap_cons, ap_tup, ap_lst, ap_cellL, ap_call, ap_fif, ap_bool, ap_tru, ap_and, ap_or, ap_not, ap_andV, ap_orV, ap_notV, ap_chain, ap_part, ap_nopart, ap_slice, ap_disp, ap_pnil, ap_pcons, ap_iter, ap_iterA, ap_lc, ap_gnam, ap_gtup, ap_glst, ap_gsnil, ap_gscons, ap_run, ap_yes, List.length_cons, List.length_nil, List.map_cons, List.map_nil, List.replicate_succ, List.replicate_zero, List.cons_append, List.nil_append, List.getElem?_cons_zero, List.getElem?_cons_succ, List.getElem?_nil, List.set_cons_zero, List.set_cons_succ, if_true, if_false, reduceIte, Nat.reduceAdd, Nat.reduceSub, Bool.false_eq_true, hl, hz, isi_tt, isi_bb, len_t, tru_b, dNe_ii, ix2, Bool.not_true, Bool.not_false, decide_true, decide_false, n3]
end LB
set_option maxRecDepth 100000
set_option maxHeartbeats 4000000
namespace LB
open PySem PySem.Spec PyProof.Rows L2 DL
theorem pt_pp {n a b c d : Int} (hb : 0 < b) (hd : 0 < d) : pt (c * (pt (n * a) b).2 + (pt (n * a) b).1 * d) (d * (pt (n * a) b).2) = pt (c * b + n * a * d) (d * b) := by
  have hv := (pt_cn (a := n * a) hb).pos
  rw [pt_iff (Int.mul_pos hd hv) (Int.mul_pos hd hb)]
  obtain ⟨k, h⟩ := pt_val (a := n * a) hb
  refine ⟨k, ?_⟩
  unfold vl at h
  have h0 := ne0 (show b ≠ 0 by omega)
  have h1 := ne0 (show d ≠ 0 by omega)
  have h2 := ne0 (show (pt (n * a) b).2 ≠ 0 by omega)
  simp only [Rat.intCast_add, Rat.intCast_mul] at h ⊢
  generalize ((pt (n * a) b).1 : Rat) = u at *
  generalize ((pt (n * a) b).2 : Rat) = v at *
  generalize (n : Rat) = x at *
  generalize (a : Rat) = w at *
  generalize (b : Rat) = y at *
  generalize (c : Rat) = z at *
  generalize (d : Rat) = t at *
  grind
theorem matched_eq {a b : Ar} (va : -(2 * L30) ≤ a.v ∧ a.v ≤ 2 * L30) (ob : Cn b.p) (bb : b.p.2 ≤ 2 * L30) {p : Int × Int} (hp : PB p) (h2 : 0 < p.2) (g : Gs) :
    phi_are_matched [arD a, arD b, pD p] g = .ok (.bl (decide (a.z = b.z) && (decide (a.v = b.v) && decide (pt (b.p.1 * p.2 + a.v * p.1 * b.p.2) (b.p.2 * p.2) = a.p)))) g := by
  obtain ⟨az, av, ap⟩ := a
  obtain ⟨bz, bv, b1, b2⟩ := b
  obtain ⟨p1, p2⟩ := p
  have bc : 0 ≤ b1 ∧ b1 < b2 := ⟨ob.1, ob.2.1⟩
  have bb : b2 ≤ 2 * L30 := bb
  have va : -(2 * L30) ≤ av ∧ av ≤ 2 * L30 := va
  have pa : -L52 ≤ p1 ∧ p1 ≤ L52 := hp.a
  have pb : -L52 ≤ p2 ∧ p2 ≤ L52 := hp.b
  have h2 : 0 < p2 := h2
  rw [L30_eq] at bb va
  rw [l52_eq] at pa pb
  have m1 : Md b1 := by unfold Md; omega
  have m2 : Md b2 := by unfold Md; omega
  have m3 : Md av := by unfold Md; omega
  have m4 : Md p1 := by unfold Md; omega
  have m5 : Md p2 := by unfold Md; omega
  have cu := pt_cn (a := av * p1) h2
  have lu := pt_le (a := av * p1) h2
  have m6 : Md (pt (av * p1) p2).1 := by have := cu.1; have := cu.2.1; unfold Md; omega
  have m7 : Md (pt (av * p1) p2).2 := by have := cu.1; have := cu.2.1; unfold Md; omega
  have hs := summed_eq (a := b1) (b := b2) (c := (pt (av * p1) p2).1) (d := (pt (av * p1) p2).2) (by omega) cu.pos m1 m2 m6 m7
  rw [pt_pp h2 (show 0 < b2 by omega)] at hs
  have hc := scaled_eq (n := av) (a := p1) h2 m3 m4 m5
  have e2 : ∀ (x y u v : Int), dEq (.tup [.int x, .int y]) (.tup [.int u, .int v]) g = .ok (.bl (decide ((x, y) = (u, v)))) g := fun x y u v => dEq_pp (x, y) (u, v) g
  unfold phi_are_matched
  by_cases e1 : az = bz ∧ av = bv
  · have e3 : decide ((az, av) = (bz, bv)) = true := decide_eq_true (by rw [e1.1, e1.2])
    have e4 : decide (ap = pt (b1 * p2 + av * p1 * b2) (b2 * p2)) = decide (pt (b1 * p2 + av * p1 * b2) (b2 * p2) = ap) := by
      rw [Bool.eq_iff_iff, decide_eq_true_iff, decide_eq_true_iff]
      exact ⟨Eq.symm, Eq.symm⟩
    simp only [b_are_matched, ap_seq, ap_skip, ap_bad, ap_break, ap_cont, ap_if, ap_set, ap_par, ap_par3, ap_ret, ap_retN, ap_expr, ap_asg, ap_for, ap_var, ap_C, ap_f2, ap_f1, ap_nil, ap_cons, ap_tup, ap_lst, ap_cellL, ap_call, ap_fif, ap_bool, ap_tru, ap_and, ap_or, ap_not, ap_andV, ap_orV, ap_notV, ap_chain, ap_part, ap_nopart, ap_slice, ap_disp, ap_pnil, ap_pcons, ap_iter, ap_iterA, ap_lc, ap_gnam, ap_gtup, ap_glst, ap_gsnil, ap_gscons, ap_run, ap_yes, List.length_cons, List.length_nil, List.map_cons, List.map_nil, List.replicate_succ, List.replicate_zero, List.cons_append, List.nil_append, List.getElem?_cons_zero, List.getElem?_cons_succ, List.getElem?_nil, List.set_cons_zero, List.set_cons_succ, if_true, if_false, reduceIte, Nat.reduceAdd, Nat.reduceSub, Bool.false_eq_true, sl2, e2, ix1, ix2, hs, hc, e3, dEq_pp, e4, decide_eq_true e1.1, decide_eq_true e1.2, Bool.true_and]
  · have e3 : decide ((az, av) = (bz, bv)) = false := decide_eq_false (fun z => e1 ⟨(Prod.mk.inj z).1, (Prod.mk.inj z).2⟩)
    have e4 : (decide (az = bz) && (decide (av = bv) && decide (pt (b1 * p2 + av * p1 * b2) (b2 * p2) = ap))) = false := by
      by_cases e5 : az = bz
      · rw [decide_eq_false (fun z => e1 ⟨e5, z⟩), Bool.false_and, Bool.and_false]
      · rw [decide_eq_false e5, Bool.false_and]
    simp only [b_are_matched, ap_seq, ap_skip, ap_bad, ap_break, ap_cont, ap_if, ap_set, ap_par, ap_par3, ap_ret, ap_retN, ap_expr, ap_asg, ap_for, ap_var, ap_C, ap_f2, ap_f1, ap_nil, ap_cons, ap_tup, ap_lst, ap_cellL, ap_call, ap_fif, ap_bool, ap_tru, ap_and, ap_or, ap_not, ap_andV, ap_orV, ap_notV, ap_chain, ap_part, ap_nopart, ap_slice, ap_disp, ap_pnil, ap_pcons, ap_iter, ap_iterA, ap_lc, ap_gnam, ap_gtup, ap_glst, ap_gsnil, ap_gscons, ap_run, ap_yes, List.length_cons, List.length_nil, List.map_cons, List.map_nil, List.replicate_succ, List.replicate_zero, List.cons_append, List.nil_append, List.getElem?_cons_zero, List.getElem?_cons_succ, List.getElem?_nil, List.set_cons_zero, List.set_cons_succ, if_true, if_false, reduceIte, Nat.reduceAdd, Nat.reduceSub, Bool.false_eq_true, sl2, e2, e3, e4]
/-- the arrow the other way round -/
def Ar.neg (k : Bool) (b : Ar) : Ar := ⟨b.z, if k then -b.v else b.v, b.p⟩
theorem match_neg (k : Bool) (p : Int × Int) (a b : Ar) : (decide (a.z = (b.neg k).z) && (decide (a.v = (b.neg k).v) && decide (pt ((b.neg k).p.1 * p.2 + a.v * p.1 * (b.neg k).p.2) ((b.neg k).p.2 * p.2) = a.p))) = matchB k p a b := by
  unfold matchB Ar.neg
  cases k
  · rfl
  · simp
theorem zip_t (x y : List D) (g : Gs) : dZip [.tup x, .tup y] g = .ok (zipD x y) g := (rfl)
theorem zip_nil (y : List D) : zipD [] y = [] := by cases y <;> rfl
theorem zip_cons (a b : D) (x y : List D) : zipD (a :: x) (b :: y) = .tup [a, b] :: zipD x y := (rfl)
theorem all_1 (a : Bool) (g : Gs) : dAll [.lst [.bl a]] g = .ok (.bl (a && true)) g := (rfl)
theorem all_2 (a b : Bool) (g : Gs) : dAll [.lst [.bl a, .bl b]] g = .ok (.bl (a && (b && true))) g := (rfl)
theorem tupOf_l (l : List D) (g : Gs) : dTupOf [.lst l] g = .ok (.tup l) g := (rfl)
theorem same_line_eq {s n : St5} (hs : Vd s) (hn : Vd n) {c k : Bool} {p : Int × Int} (hp : PB p) (g : Gs) : phi_is_same_line [stD s, stD n, .tup [.bl c, .bl k, pD p]] g = .ok (.bl (shownB s.ars n.ars c k p)) g := by
  have A := terms_eq hs g
  have B := terms_eq hn g
  have okA := ars_ok hs
  have okB := ars_ok hn
  have sp : Sm p.2 := by
    have h := hp.b
    rw [l52_eq] at h
    unfold Sm
    omega
  have hl := is_part_eq p sp g
  have n3 : ((3 : Nat) : Int) = 3 := rfl
  have n1 : ((1 : Nat) : Int) = 1 := rfl
  have n2 : ((2 : Nat) : Int) = 2 := rfl
  have d12 : decide ((1 : Int) = 2) = false := rfl
  have d21 : decide ((2 : Int) = 1) = false := rfl
  unfold phi_is_same_line
  by_cases hz : isP p = true
  · have hq := isP_pos hz
    have h2 : 0 < p.2 := by omega
    have M := fun (a b : Ar) (oa : ArOk a) (ob : ArOk b) => matched_eq (a := a) (b := b.neg k) oa.v ob.c ob.b hp h2
    have M' : ∀ (a b : Ar), ArOk a → ArOk b → ∀ g, phi_are_matched [arD a, .tup [.int b.z, .int (if k then -b.v else b.v), pD b.p], pD p] g = .ok (.bl (matchB k p a b)) g := fun a b oa ob g => by
      have h := M a b oa ob g
      rw [match_neg] at h
      exact h
    rcases ars_len s with ⟨a, ea⟩ | ⟨a, a', ea⟩
    · rw [ea] at A okA ⊢
      rcases ars_len n with ⟨b, eb⟩ | ⟨b, b', eb⟩
      · rw [eb] at B okB ⊢
        have m1 := M' a b (okA a (by simp)) (okB b (by simp))
        cases c
        · have es : shownB [a] [b] false k p = matchB k p a b := by simp [shownB, hz]
          rw [es]
          cases k
          all_goals
            simp only [Bool.false_eq_true, if_true, if_false] at m1
            simp only [b_is_same_line, ap_seq, ap_skip, ap_bad, ap_break, ap_cont, ap_if, ap_set, ap_par, ap_par3, ap_ret, ap_retN, ap_expr, ap_asg, ap_for, ap_var, ap_C, ap_f2, ap_f1, ap_nil, ap_cons, ap_tup, ap_lst, ap_cellL, ap_call, ap_fif, ap_bool, ap_tru, ap_and, ap_or, ap_not, ap_andV, ap_orV, ap_notV, ap_chain, ap_part, ap_nopart, ap_slice, ap_disp, ap_pnil, ap_pcons, ap_iter, ap_iterA, ap_lc, ap_gnam, ap_gtup, ap_glst, ap_gsnil, ap_gscons, ap_run, ap_yes, List.length_cons, List.length_nil, List.map_cons, List.map_nil, List.replicate_succ, List.replicate_zero, List.cons_append, List.nil_append, List.getElem?_cons_zero, List.getElem?_cons_succ, List.getElem?_nil, List.set_cons_zero, List.set_cons_succ, if_true, if_false, reduceIte, Nat.reduceAdd, Nat.reduceSub, Bool.false_eq_true, A, B, hl, hz, isi_tt, isi_bb, len_t, len_l, tru_b, dNe_ii, dEq_ii, Bool.not_true, Bool.not_false, decide_true, decide_false, n3, n1, iterB_t, lc_cons, lc_nil, pts_tup, sets_cons, sets_nil, wipe_cons, wipe_nil, ptIx_tup, szl0, szl1, szl2, dTup_ok, okSz3, ix0, ix1, ix2, dNeg_i, tupOf_l, zip_t, zip_cons, zip_nil, m1, all_1, Bool.and_true]
        · have es : shownB [a] [b] true k p = false := by simp [shownB]
          rw [es]
          simp only [b_is_same_line, ap_seq, ap_skip, ap_bad, ap_break, ap_cont, ap_if, ap_set, ap_par, ap_par3, ap_ret, ap_retN, ap_expr, ap_asg, ap_for, ap_var, ap_C, ap_f2, ap_f1, ap_nil, ap_cons, ap_tup, ap_lst, ap_cellL, ap_call, ap_fif, ap_bool, ap_tru, ap_and, ap_or, ap_not, ap_andV, ap_orV, ap_notV, ap_chain, ap_part, ap_nopart, ap_slice, ap_disp, ap_pnil, ap_pcons, ap_iter, ap_iterA, ap_lc, ap_gnam, ap_gtup, ap_glst, ap_gsnil, ap_gscons, ap_run, ap_yes, List.length_cons, List.length_nil, List.map_cons, List.map_nil, List.replicate_succ, List.replicate_zero, List.cons_append, List.nil_append, List.getElem?_cons_zero, List.getElem?_cons_succ, List.getElem?_nil, List.set_cons_zero, List.set_cons_succ, if_true, if_false, reduceIte, Nat.reduceAdd, Nat.reduceSub, Bool.false_eq_true, A, B, hl, hz, isi_tt, isi_bb, len_t, len_l, tru_b, dNe_ii, dEq_ii, Bool.not_true, Bool.not_false, decide_true, decide_false, n3, n1]
      · rw [eb] at B okB ⊢
        rw [shown_len (by simp)]
        simp only [b_is_same_line, ap_seq, ap_skip, ap_bad, ap_break, ap_cont, ap_if, ap_set, ap_par, ap_par3, ap_ret, ap_retN, ap_expr, ap_asg, ap_for, ap_var, ap_C, ap_f2, ap_f1, ap_nil, ap_cons, ap_tup, ap_lst, ap_cellL, ap_call, ap_fif, ap_bool, ap_tru, ap_and, ap_or, ap_not, ap_andV, ap_orV, ap_notV, ap_chain, ap_part, ap_nopart, ap_slice, ap_disp, ap_pnil, ap_pcons, ap_iter, ap_iterA, ap_lc, ap_gnam, ap_gtup, ap_glst, ap_gsnil, ap_gscons, ap_run, ap_yes, List.length_cons, List.length_nil, List.map_cons, List.map_nil, List.replicate_succ, List.replicate_zero, List.cons_append, List.nil_append, List.getElem?_cons_zero, List.getElem?_cons_succ, List.getElem?_nil, List.set_cons_zero, List.set_cons_succ, if_true, if_false, reduceIte, Nat.reduceAdd, Nat.reduceSub, Bool.false_eq_true, A, B, hl, hz, isi_tt, isi_bb, len_t, len_l, tru_b, dNe_ii, dEq_ii, Bool.not_true, Bool.not_false, decide_true, decide_false, n3, n1, n2, d12, d21]
    · rw [ea] at A okA ⊢
      rcases ars_len n with ⟨b, eb⟩ | ⟨b, b', eb⟩
      · rw [eb] at B okB ⊢
        rw [shown_len (by simp)]
        simp only [b_is_same_line, ap_seq, ap_skip, ap_bad, ap_break, ap_cont, ap_if, ap_set, ap_par, ap_par3, ap_ret, ap_retN, ap_expr, ap_asg, ap_for, ap_var, ap_C, ap_f2, ap_f1, ap_nil, ap_cons, ap_tup, ap_lst, ap_cellL, ap_call, ap_fif, ap_bool, ap_tru, ap_and, ap_or, ap_not, ap_andV, ap_orV, ap_notV, ap_chain, ap_part, ap_nopart, ap_slice, ap_disp, ap_pnil, ap_pcons, ap_iter, ap_iterA, ap_lc, ap_gnam, ap_gtup, ap_glst, ap_gsnil, ap_gscons, ap_run, ap_yes, List.length_cons, List.length_nil, List.map_cons, List.map_nil, List.replicate_succ, List.replicate_zero, List.cons_append, List.nil_append, List.getElem?_cons_zero, List.getElem?_cons_succ, List.getElem?_nil, List.set_cons_zero, List.set_cons_succ, if_true, if_false, reduceIte, Nat.reduceAdd, Nat.reduceSub, Bool.false_eq_true, A, B, hl, hz, isi_tt, isi_bb, len_t, len_l, tru_b, dNe_ii, dEq_ii, Bool.not_true, Bool.not_false, decide_true, decide_false, n3, n1, n2, d12, d21]
      · rw [eb] at B okB ⊢
        have m1 := M' a b (okA a (by simp)) (okB b (by simp))
        have m2 := M' a' b' (okA a' (by simp)) (okB b' (by simp))
        have m3 := M' a b' (okA a (by simp)) (okB b' (by simp))
        have m4 := M' a' b (okA a' (by simp)) (okB b (by simp))
        have er : ∀ x y : D, List.reverse [x, y] = [y, x] := fun _ _ => rfl
        cases c
        · have es : shownB [a, a'] [b, b'] false k p = (matchB k p a b && matchB k p a' b') := by simp [shownB, hz]
          rw [es]
          cases k
          all_goals
            simp only [Bool.false_eq_true, if_true, if_false] at m1 m2
            simp only [b_is_same_line, ap_seq, ap_skip, ap_bad, ap_break, ap_cont, ap_if, ap_set, ap_par, ap_par3, ap_ret, ap_retN, ap_expr, ap_asg, ap_for, ap_var, ap_C, ap_f2, ap_f1, ap_nil, ap_cons, ap_tup, ap_lst, ap_cellL, ap_call, ap_fif, ap_bool, ap_tru, ap_and, ap_or, ap_not, ap_andV, ap_orV, ap_notV, ap_chain, ap_part, ap_nopart, ap_slice, ap_disp, ap_pnil, ap_pcons, ap_iter, ap_iterA, ap_lc, ap_gnam, ap_gtup, ap_glst, ap_gsnil, ap_gscons, ap_run, ap_yes, List.length_cons, List.length_nil, List.map_cons, List.map_nil, List.replicate_succ, List.replicate_zero, List.cons_append, List.nil_append, List.getElem?_cons_zero, List.getElem?_cons_succ, List.getElem?_nil, List.set_cons_zero, List.set_cons_succ, if_true, if_false, reduceIte, Nat.reduceAdd, Nat.reduceSub, Bool.false_eq_true, A, B, hl, hz, isi_tt, isi_bb, len_t, len_l, tru_b, dNe_ii, dEq_ii, Bool.not_true, Bool.not_false, decide_true, decide_false, n3, n2, d21, iterB_t, lc_cons, lc_nil, pts_tup, sets_cons, sets_nil, wipe_cons, wipe_nil, ptIx_tup, szl0, szl1, szl2, dTup_ok, okSz3, ix0, ix1, ix2, dNeg_i, tupOf_l, zip_t, zip_cons, zip_nil, m1, m2, all_2, Bool.and_true]
        · have es : shownB [a, a'] [b, b'] true k p = (matchB k p a b' && matchB k p a' b) := by simp [shownB, hz]
          rw [es]
          cases k
          all_goals
            simp only [Bool.false_eq_true, if_true, if_false] at m3 m4
            simp only [b_is_same_line, ap_seq, ap_skip, ap_bad, ap_break, ap_cont, ap_if, ap_set, ap_par, ap_par3, ap_ret, ap_retN, ap_expr, ap_asg, ap_for, ap_var, ap_C, ap_f2, ap_f1, ap_nil, ap_cons, ap_tup, ap_lst, ap_cellL, ap_call, ap_fif, ap_bool, ap_tru, ap_and, ap_or, ap_not, ap_andV, ap_orV, ap_notV, ap_chain, ap_part, ap_nopart, ap_slice, ap_disp, ap_pnil, ap_pcons, ap_iter, ap_iterA, ap_lc, ap_gnam, ap_gtup, ap_glst, ap_gsnil, ap_gscons, ap_run, ap_yes, List.length_cons, List.length_nil, List.map_cons, List.map_nil, List.replicate_succ, List.replicate_zero, List.cons_append, List.nil_append, List.getElem?_cons_zero, List.getElem?_cons_succ, List.getElem?_nil, List.set_cons_zero, List.set_cons_succ, if_true, if_false, reduceIte, Nat.reduceAdd, Nat.reduceSub, Bool.false_eq_true, A, B, hl, hz, isi_tt, isi_bb, len_t, len_l, tru_b, dNe_ii, dEq_ii, Bool.not_true, Bool.not_false, decide_true, decide_false, n3, n2, d21, rev2_t, er, iterB_t, lc_cons, lc_nil, pts_tup, sets_cons, sets_nil, wipe_cons, wipe_nil, ptIx_tup, szl0, szl1, szl2, dTup_ok, okSz3, ix0, ix1, ix2, dNeg_i, tupOf_l, zip_t, zip_cons, zip_nil, m3, m4, all_2, Bool.and_true]
  · have hz : isP p = false := by simpa using hz
    have es : shownB s.ars n.ars c k p = false := by simp [shownB, hz]
    rw [es]
    simp only [b_is_same_line, ap_seq, ap_skip, ap_bad, ap_break, ap_cont, ap_if, ap_set, ap_par, ap_par3, ap_ret, ap_retN, ap_expr, ap_asg, ap_for, ap_var, ap_C, ap_f2, ap_f1, ap_nil, ap_cons, ap_tup, ap_lst, ap_cellL, ap_call, ap_fif, ap_bool, ap_tru, ap_and, ap_or, ap_not, ap_andV, ap_orV, ap_notV, ap_chain, ap_part, ap_nopart, ap_slice, ap_disp, ap_pnil, ap_pcons, ap_iter, ap_iterA, ap_lc, ap_gnam, ap_gtup, ap_glst, ap_gsnil, ap_gscons, ap_run, ap_yes, List.length_cons, List.length_nil, List.map_cons, List.map_nil, List.replicate_succ, List.replicate_zero, List.cons_append, List.nil_append, List.getElem?_cons_zero, List.getElem?_cons_succ, List.getElem?_nil, List.set_cons_zero, List.set_cons_succ, if_true, if_false, reduceIte, Nat.reduceAdd, Nat.reduceSub, Bool.false_eq_true, hl, hz, isi_tt, isi_bb, len_t, tru_b, dNe_ii, Bool.not_true, Bool.not_false, decide_true, decide_false, n3]
end LB
set_option maxRecDepth 100000
set_option maxHeartbeats 4000000
namespace LB
open PySem PySem.Spec PyProof.Rows L2 DL
def St5.stroke (s : St5) : Bool := decide (s.sd = .i) && (decide (s.R = 2 * s.w) && decide (s.a = s.w))
theorem dIn_sd (sd : Sd) (g : Gs) : dIn (.str sd.s) (.ktp (ks_SIDES.map D.str)) g = .ok (.bl true) g := by cases sd <;> rfl
theorem one_of_eq (sd : Sd) (g : Gs) : phi_is_one_of [.str sd.s, .ktp (ks_SIDES.map D.str)] g = .ok (.bl true) g := by
  unfold phi_is_one_of
  simp only [b_is_one_of, ap_seq, ap_skip, ap_bad, ap_break, ap_cont, ap_if, ap_set, ap_par, ap_par3, ap_ret, ap_retN, ap_expr, ap_asg, ap_for, ap_var, ap_C, ap_f2, ap_f1, ap_nil, ap_cons, ap_tup, ap_lst, ap_cellL, ap_call, ap_fif, ap_bool, ap_tru, ap_and, ap_or, ap_not, ap_andV, ap_orV, ap_notV, ap_chain, ap_part, ap_nopart, ap_slice, ap_disp, ap_pnil, ap_pcons, ap_iter, ap_iterA, ap_lc, ap_gnam, ap_gtup, ap_glst, ap_gsnil, ap_gscons, ap_run, ap_yes, List.length_cons, List.length_nil, List.map_cons, List.map_nil, List.replicate_succ, List.replicate_zero, List.cons_append, List.nil_append, List.getElem?_cons_zero, List.getElem?_cons_succ, List.getElem?_nil, List.set_cons_zero, List.set_cons_succ, if_true, if_false, reduceIte, Nat.reduceAdd, Nat.reduceSub, Bool.false_eq_true, isi_ss, dIn_sd]
theorem stroke_eq {s : St5} (h : Vd s) (g : Gs) : phi_is_stroke [.str s.sd.s, .int s.R, .int s.w, .int s.a] g = .ok (.bl s.stroke) g := by
  obtain ⟨sd, R, w, a, t⟩ := s
  have w1 := h.w1; have wB := h.wB
  have hm := dMul_ii (i := 2) (j := w) (okMul_sm (sm30 (by decide) (by decide)) (sm30 (by simp only at w1; have := L30_pos; omega) (by simp only at wB; have := L30_pos; omega)))
  unfold phi_is_stroke St5.stroke
  cases e : decide (sd = .i)
  · simp only [b_is_stroke, ap_seq, ap_skip, ap_bad, ap_break, ap_cont, ap_if, ap_set, ap_par, ap_par3, ap_ret, ap_retN, ap_expr, ap_asg, ap_for, ap_var, ap_C, ap_f2, ap_f1, ap_nil, ap_cons, ap_tup, ap_lst, ap_cellL, ap_call, ap_fif, ap_bool, ap_tru, ap_and, ap_or, ap_not, ap_andV, ap_orV, ap_notV, ap_chain, ap_part, ap_nopart, ap_slice, ap_disp, ap_pnil, ap_pcons, ap_iter, ap_iterA, ap_lc, ap_gnam, ap_gtup, ap_glst, ap_gsnil, ap_gscons, ap_run, ap_yes, List.length_cons, List.length_nil, List.map_cons, List.map_nil, List.replicate_succ, List.replicate_zero, List.cons_append, List.nil_append, List.getElem?_cons_zero, List.getElem?_cons_succ, List.getElem?_nil, List.set_cons_zero, List.set_cons_succ, if_true, if_false, reduceIte, Nat.reduceAdd, Nat.reduceSub, Bool.false_eq_true, dEq_sin, e, Bool.false_and]
  · cases e2 : decide (R = 2 * w)
    · simp only [b_is_stroke, ap_seq, ap_skip, ap_bad, ap_break, ap_cont, ap_if, ap_set, ap_par, ap_par3, ap_ret, ap_retN, ap_expr, ap_asg, ap_for, ap_var, ap_C, ap_f2, ap_f1, ap_nil, ap_cons, ap_tup, ap_lst, ap_cellL, ap_call, ap_fif, ap_bool, ap_tru, ap_and, ap_or, ap_not, ap_andV, ap_orV, ap_notV, ap_chain, ap_part, ap_nopart, ap_slice, ap_disp, ap_pnil, ap_pcons, ap_iter, ap_iterA, ap_lc, ap_gnam, ap_gtup, ap_glst, ap_gsnil, ap_gscons, ap_run, ap_yes, List.length_cons, List.length_nil, List.map_cons, List.map_nil, List.replicate_succ, List.replicate_zero, List.cons_append, List.nil_append, List.getElem?_cons_zero, List.getElem?_cons_succ, List.getElem?_nil, List.set_cons_zero, List.set_cons_succ, if_true, if_false, reduceIte, Nat.reduceAdd, Nat.reduceSub, Bool.false_eq_true, dEq_sin, dEq_ii, hm, e, e2, Bool.false_and, Bool.true_and]
    · simp only [b_is_stroke, ap_seq, ap_skip, ap_bad, ap_break, ap_cont, ap_if, ap_set, ap_par, ap_par3, ap_ret, ap_retN, ap_expr, ap_asg, ap_for, ap_var, ap_C, ap_f2, ap_f1, ap_nil, ap_cons, ap_tup, ap_lst, ap_cellL, ap_call, ap_fif, ap_bool, ap_tru, ap_and, ap_or, ap_not, ap_andV, ap_orV, ap_notV, ap_chain, ap_part, ap_nopart, ap_slice, ap_disp, ap_pnil, ap_pcons, ap_iter, ap_iterA, ap_lc, ap_gnam, ap_gtup, ap_glst, ap_gsnil, ap_gscons, ap_run, ap_yes, List.length_cons, List.length_nil, List.map_cons, List.map_nil, List.replicate_succ, List.replicate_zero, List.cons_append, List.nil_append, List.getElem?_cons_zero, List.getElem?_cons_succ, List.getElem?_nil, List.set_cons_zero, List.set_cons_succ, if_true, if_false, reduceIte, Nat.reduceAdd, Nat.reduceSub, Bool.false_eq_true, dEq_sin, dEq_ii, hm, e, e2, Bool.false_and, Bool.true_and]
theorem fits_eq {s : St5} (h : Vd s) (g : Gs) : phi_wheel_fits [.str s.sd.s, .int s.R, .int s.w] g = .ok (.bl true) g := by
  obtain ⟨sd, R, w, a, t⟩ := s
  have fi := h.fi; have fv := h.fv
  unfold phi_wheel_fits
  cases sd
  · have e := fi rfl
    have e : w < R := e
    simp only [b_wheel_fits, ap_seq, ap_skip, ap_bad, ap_break, ap_cont, ap_if, ap_set, ap_par, ap_par3, ap_ret, ap_retN, ap_expr, ap_asg, ap_for, ap_var, ap_C, ap_f2, ap_f1, ap_nil, ap_cons, ap_tup, ap_lst, ap_cellL, ap_call, ap_fif, ap_bool, ap_tru, ap_and, ap_or, ap_not, ap_andV, ap_orV, ap_notV, ap_chain, ap_part, ap_nopart, ap_slice, ap_disp, ap_pnil, ap_pcons, ap_iter, ap_iterA, ap_lc, ap_gnam, ap_gtup, ap_glst, ap_gsnil, ap_gscons, ap_run, ap_yes, List.length_cons, List.length_nil, List.map_cons, List.map_nil, List.replicate_succ, List.replicate_zero, List.cons_append, List.nil_append, List.getElem?_cons_zero, List.getElem?_cons_succ, List.getElem?_nil, List.set_cons_zero, List.set_cons_succ, if_true, if_false, reduceIte, Nat.reduceAdd, Nat.reduceSub, Bool.false_eq_true, dEq_sin, dEq_sout, dEq_sover, dLt_ii, dGt_ii, reduceCtorEq, decide_true, decide_false, decide_eq_true e]
  · simp only [b_wheel_fits, ap_seq, ap_skip, ap_bad, ap_break, ap_cont, ap_if, ap_set, ap_par, ap_par3, ap_ret, ap_retN, ap_expr, ap_asg, ap_for, ap_var, ap_C, ap_f2, ap_f1, ap_nil, ap_cons, ap_tup, ap_lst, ap_cellL, ap_call, ap_fif, ap_bool, ap_tru, ap_and, ap_or, ap_not, ap_andV, ap_orV, ap_notV, ap_chain, ap_part, ap_nopart, ap_slice, ap_disp, ap_pnil, ap_pcons, ap_iter, ap_iterA, ap_lc, ap_gnam, ap_gtup, ap_glst, ap_gsnil, ap_gscons, ap_run, ap_yes, List.length_cons, List.length_nil, List.map_cons, List.map_nil, List.replicate_succ, List.replicate_zero, List.cons_append, List.nil_append, List.getElem?_cons_zero, List.getElem?_cons_succ, List.getElem?_nil, List.set_cons_zero, List.set_cons_succ, if_true, if_false, reduceIte, Nat.reduceAdd, Nat.reduceSub, Bool.false_eq_true, dEq_sin, dEq_sout, dEq_sover, dLt_ii, dGt_ii, reduceCtorEq, decide_true, decide_false]
  · have e := fv rfl
    have e : R < w := e
    simp only [b_wheel_fits, ap_seq, ap_skip, ap_bad, ap_break, ap_cont, ap_if, ap_set, ap_par, ap_par3, ap_ret, ap_retN, ap_expr, ap_asg, ap_for, ap_var, ap_C, ap_f2, ap_f1, ap_nil, ap_cons, ap_tup, ap_lst, ap_cellL, ap_call, ap_fif, ap_bool, ap_tru, ap_and, ap_or, ap_not, ap_andV, ap_orV, ap_notV, ap_chain, ap_part, ap_nopart, ap_slice, ap_disp, ap_pnil, ap_pcons, ap_iter, ap_iterA, ap_lc, ap_gnam, ap_gtup, ap_glst, ap_gsnil, ap_gscons, ap_run, ap_yes, List.length_cons, List.length_nil, List.map_cons, List.map_nil, List.replicate_succ, List.replicate_zero, List.cons_append, List.nil_append, List.getElem?_cons_zero, List.getElem?_cons_succ, List.getElem?_nil, List.set_cons_zero, List.set_cons_succ, if_true, if_false, reduceIte, Nat.reduceAdd, Nat.reduceSub, Bool.false_eq_true, dEq_sin, dEq_sout, dEq_sover, dLt_ii, dGt_ii, reduceCtorEq, decide_true, decide_false, decide_eq_true e]
theorem setting_eq {s : St5} (h : Vd s) (g : Gs) : phi_is_setting [stD s, .int (10 ^ 30)] g = .ok (.bl (!s.stroke)) g := by
  have st := stroke_eq h g
  have ft := fits_eq h g
  have r1 := h.r1; have w1 := h.w1; have a0 := h.a0; have t0 := h.t0; have rB := h.rB; have wB := h.wB; have aB := h.aB; have tB := h.tB
  unfold L30 at rB wB aB tB
  unfold phi_is_setting
  simp only [b_is_setting, ap_seq, ap_skip, ap_bad, ap_break, ap_cont, ap_if, ap_set, ap_par, ap_par3, ap_ret, ap_retN, ap_expr, ap_asg, ap_for, ap_var, ap_C, ap_f2, ap_f1, ap_nil, ap_cons, ap_tup, ap_lst, ap_cellL, ap_call, ap_fif, ap_bool, ap_tru, ap_and, ap_or, ap_not, ap_andV, ap_orV, ap_notV, ap_chain, ap_part, ap_nopart, ap_slice, ap_disp, ap_pnil, ap_pcons, ap_iter, ap_iterA, ap_lc, ap_gnam, ap_gtup, ap_glst, ap_gsnil, ap_gscons, ap_run, ap_yes, List.length_cons, List.length_nil, List.map_cons, List.map_nil, List.replicate_succ, List.replicate_zero, List.cons_append, List.nil_append, List.getElem?_cons_zero, List.getElem?_cons_succ, List.getElem?_nil, List.set_cons_zero, List.set_cons_succ, if_true, if_false, reduceIte, Nat.reduceAdd, Nat.reduceSub, Bool.false_eq_true, isi_tt, len_t, dNe_ii, ix0, one_of_eq, tru_b, between_eq, decide_eq_true r1, decide_eq_true w1, decide_eq_true a0, decide_eq_true t0, decide_eq_true rB, decide_eq_true wB, decide_eq_true aB, decide_eq_true tB,
    Bool.not_true, Bool.not_false, Bool.and_self, decide_true, show ((5 : Nat) : Int) = 5 from rfl, ft, st]
theorem notIn_l (g : Gs) : dNotInK "LENGTHS" kd_LENGTHS aw_LENGTHS (.str "same line") (.glo "LENGTHS") g = .ok (.bl false) g := (rfl)
theorem ix_l (g : Gs) : dIxK "LENGTHS" kd_LENGTHS (.glo "LENGTHS") (.str "same line") g = .ok (.int 3) g := (rfl)
theorem eq_sl (g : Gs) : dEq (.str "same line") (.str "same line") g = .ok (.bl true) g := by
  rw [dEq_ss (by decide +kernel) (by decide +kernel), decide_eq_true rfl]
theorem accepts_eq {s n : St5} (hs : Vd s) (hn : Vd n) (ks : s.stroke = false) (kn : n.stroke = false) (x : D) (g : Gs) : phi_accepts [.tup [.str "same line", stD s, stD n], x] g = phi_is_same_line [stD s, stD n, x] g := by
  have h1 := setting_eq hs g
  have h2 := setting_eq hn g
  rw [ks] at h1
  rw [kn] at h2
  unfold phi_accepts
  simp only [b_accepts, ap_seq, ap_skip, ap_bad, ap_break, ap_cont, ap_if, ap_set, ap_par, ap_par3, ap_ret, ap_retN, ap_expr, ap_asg, ap_for, ap_var, ap_C, ap_f2, ap_f1, ap_nil, ap_cons, ap_tup, ap_lst, ap_cellL, ap_call, ap_fif, ap_bool, ap_tru, ap_and, ap_or, ap_not, ap_andV, ap_orV, ap_notV, ap_chain, ap_part, ap_nopart, ap_slice, ap_disp, ap_pnil, ap_pcons, ap_iter, ap_iterA, ap_lc, ap_gnam, ap_gtup, ap_glst, ap_gsnil, ap_gscons, ap_run, ap_yes, List.length_cons, List.length_nil, List.map_cons, List.map_nil, List.replicate_succ, List.replicate_zero, List.cons_append, List.nil_append, List.getElem?_cons_zero, List.getElem?_cons_succ, List.getElem?_nil, List.set_cons_zero, List.set_cons_succ, if_true, if_false, reduceIte, Nat.reduceAdd, Nat.reduceSub, Bool.false_eq_true, isi_tt, isi_ss, len_t, dNe_ii, dEq_ii, ix0, ix1, ix2, tru_b, notIn_l, ix_l, eq_sl, h1, h2, Bool.not_true, Bool.not_false, decide_true, decide_false, show ((3 : Nat) : Int) = 3 from rfl, show decide ((3 : Int) = 0) = false from rfl]
  cases phi_is_same_line [stD s, stD n, x] g <;> rfl
end LB
set_option maxRecDepth 100000
set_option maxHeartbeats 4000000
namespace LB
open PySem PySem.Spec PyProof.Rows L2 DL
theorem bezN (a b : Nat) : ∃ u v : Int, (a : Int) * u + (b : Int) * v = (Nat.gcd a b : Int) := by
  induction a, b using Nat.gcd.induction with
  | H0 n => exact ⟨0, 1, by rw [Nat.gcd_zero_left]; omega⟩
  | H1 m n hm ih =>
    obtain ⟨u, v, h⟩ := ih
    rw [Nat.gcd_rec, ← h]
    refine ⟨v - (n / m : Nat) * u, u, ?_⟩
    have e : (n : Int) = (n % m : Nat) + (m : Int) * (n / m : Nat) := by
      rw [← Int.natCast_mul, ← Int.natCast_add, Nat.mod_add_div]
    grind
theorem bezZ (a b : Int) : ∃ u v : Int, a * u + b * v = (Int.gcd a b : Int) := by
  obtain ⟨u, v, h⟩ := bezN a.natAbs b.natAbs
  have ha : ∃ e : Int, (a.natAbs : Int) = a * e := by
    rcases Int.natAbs_eq a with h | h
    · exact ⟨1, by omega⟩
    · exact ⟨-1, by omega⟩
  have hb : ∃ e : Int, (b.natAbs : Int) = b * e := by
    rcases Int.natAbs_eq b with h | h
    · exact ⟨1, by omega⟩
    · exact ⟨-1, by omega⟩
  obtain ⟨e, he⟩ := ha
  obtain ⟨f, hf⟩ := hb
  refine ⟨e * u, f * v, ?_⟩
  show _ = ((Nat.gcd a.natAbs b.natAbs : Nat) : Int)
  rw [← h, he, hf]
  grind
theorem solve {q l : Int} (hq : 0 < q) (h : Int.gcd q l = 1) (N : Int) : ∃ k, 0 ≤ k ∧ k < q ∧ q ∣ N + l * k := by
  obtain ⟨u, v, e⟩ := bezZ q l
  rw [h] at e
  refine ⟨(-N * v) % q, Int.emod_nonneg _ (by omega), Int.emod_lt_of_pos _ hq, ?_⟩
  have e2 := Int.emod_add_mul_ediv (-N * v) q
  refine ⟨N * u - l * ((-N * v) / q), ?_⟩
  have e3 : (-N * v) % q = -N * v - q * ((-N * v) / q) := by omega
  rw [e3]
  have e4 : (((1 : Nat) : Int)) = 1 := rfl
  rw [e4] at e
  generalize (-N * v) / q = z
  grind
structure Pt5 (s : St5) (g r q m : Int) : Prop where
  gp : 0 < g
  rp : 0 < r
  qp : 0 < q
  R : s.R = g * r
  w : s.w = g * q
  co : Int.gcd r q = 1
  mid : s.mid = g * m
  mp : 0 < m
  m : m = match s.sd with | .i => r - q | .o => r + q | .v => q - r
theorem pt5 {s : St5} (h : Vd s) : ∃ r m, Pt5 s s.g r (s.w / s.g) m ∧ s.sl = (match s.sd with | .i => -m | .o => m | .v => m) := by
  have g1 := h.g1
  have r1 := h.r1
  have w1 := h.w1
  have d1 : s.g ∣ s.R := Int.gcd_dvd_left ..
  have d2 : s.g ∣ s.w := Int.gcd_dvd_right ..
  have co : Int.gcd (s.R / s.g) (s.w / s.g) = 1 := Int.gcd_ediv_gcd_ediv_gcd (by unfold St5.g at g1; omega)
  have eR : s.R = s.g * (s.R / s.g) := (Int.mul_ediv_cancel' d1).symm
  have ew : s.w = s.g * (s.w / s.g) := (Int.mul_ediv_cancel' d2).symm
  have rp : 0 < s.R / s.g := by
    have : 0 < s.g * (s.R / s.g) := by omega
    exact Int.pos_of_mul_pos_right this g1
  have qp : 0 < s.w / s.g := by
    have : 0 < s.g * (s.w / s.g) := by omega
    exact Int.pos_of_mul_pos_right this g1
  generalize hg : s.g = g at *
  generalize hr : s.R / g = r at *
  generalize hq : s.w / g = q at *
  have fi := h.fi
  have fv := h.fv
  refine ⟨r, match s.sd with | .i => r - q | .o => r + q | .v => q - r, ⟨g1, rp, qp, eR, ew, co, ?_, ?_, rfl⟩, ?_⟩
  · unfold St5.mid
    rw [eR, ew]
    cases s.sd <;> grind
  · cases e : s.sd with
    | i =>
      have := fi e
      rw [eR, ew] at this
      have := Int.lt_of_mul_lt_mul_left this (by omega)
      dsimp only
      omega
    | o => dsimp only; omega
    | v =>
      have := fv e
      rw [eR, ew] at this
      have := Int.lt_of_mul_lt_mul_left this (by omega)
      dsimp only
      omega
  · unfold St5.sl
    rw [hg, eR, ew]
    have e1 : g * q - g * r = g * (q - r) := by grind
    have e2 : g * r + g * q = g * (r + q) := by grind
    cases s.sd
    · dsimp only; rw [e1, Int.mul_ediv_cancel_left _ (by omega)]; omega
    · dsimp only; rw [e2, Int.mul_ediv_cancel_left _ (by omega)]
    · dsimp only; rw [e1, Int.mul_ediv_cancel_left _ (by omega)]
end LB
set_option maxRecDepth 100000
set_option maxHeartbeats 4000000
namespace LB
open PySem PySem.Spec PyProof.Rows L2 DL
inductive Fm where
  | circ (m : Int)
  | five (a b c d : Int) (p : Int × Int)
deriving DecidableEq
def fmD : Fm → D
  | .circ m => .tup [.str "circle", .int m]
  | .five a b c d p => .tup [.int a, .int b, .int c, .int d, pD p]
def St5.q (s : St5) : Int := s.w / s.g
def St5.m (s : St5) : Int := s.mid / s.g
def St5.mn (s : St5) : Int := if s.m < s.q then s.m else s.q
def St5.mark (s : St5) : Int × Int := if s.sd = .i then pt s.t s.g else pt (2 * s.t - s.mn * s.g) (2 * s.g)
def St5.form (s : St5) : Fm := if s.a = 0 then .circ s.mid else match s.sd with
  | .i => if s.m < s.q ∨ (s.q = s.m ∧ s.a < s.mid) then .five s.mid s.q s.a (-s.m) s.mark else .five s.a s.m s.mid (-s.q) s.mark
  | .o => .five s.a s.m s.mid s.q s.mark
  | .v => .five s.mid s.q s.a s.m s.mark
theorem abs_pos {i : Int} (h : 0 < i) (g : Gs) : dAbs [.int i] g = .ok (.int i) g := by
  show Out.ok (D.int (if i < 0 then -i else i)) g = _
  rw [if_neg (by omega)]
theorem min2_ii (i j : Int) (g : Gs) : dMin2 [.int i, .int j] g = .ok (.int (if j < i then j else i)) g := (rfl)
theorem Vd.midp {s : St5} (h : Vd s) : 0 < s.mid ∧ s.mid ≤ 2 * L30 := by
  have r1 := h.r1; have w1 := h.w1; have rB := h.rB; have wB := h.wB; have fi := h.fi; have fv := h.fv
  unfold St5.mid
  cases e : s.sd
  · have := fi e; dsimp only; omega
  · dsimp only; omega
  · have := fv e; dsimp only; omega
theorem Vd.qB {s : St5} (h : Vd s) : 0 ≤ s.q ∧ s.q ≤ L30 := by
  have w1 := h.w1; have wB := h.wB; have g1 := h.g1
  have := Int.ediv_le_self s.g (show 0 ≤ s.w by omega)
  have := Int.ediv_nonneg (show 0 ≤ s.w by omega) (show 0 ≤ s.g by omega)
  unfold St5.q
  omega
theorem Vd.mB {s : St5} (h : Vd s) : 0 ≤ s.m ∧ s.m ≤ 2 * L30 := by
  have mp := h.midp; have g1 := h.g1
  have := Int.ediv_le_self s.g (show 0 ≤ s.mid by omega)
  have := Int.ediv_nonneg (show 0 ≤ s.mid by omega) (show 0 ≤ s.g by omega)
  unfold St5.m
  omega
theorem form_eq {s : St5} (h : Vd s) (g : Gs) : phi__law_form [stD s] g = .ok (fmD s.form) g := by
  have r1 := h.r1; have w1 := h.w1; have a0 := h.a0; have t0 := h.t0; have rB := h.rB; have wB := h.wB; have aB := h.aB; have tB := h.tB
  have g1 := h.g1; have gR := h.gR; have mp := h.midp; have qB := h.qB; have mB := h.mB
  have l30 : 2 * L30 < line83 := by decide
  have l0 := L30_pos
  have hc := shared_eq (show 0 ≤ s.R by omega) (show 0 ≤ s.w by omega) (show s.w < line83 by omega)
  have hd := fun (i : Int) => dFdiv_ii (i := i) g1 (sm30 (i := s.g) (by omega) (by omega))
  have hp := part_eq (a := s.t) g1 (show s.g < line83 by omega)
  have mnB : 0 ≤ s.mn ∧ s.mn ≤ 2 * L30 := by unfold St5.mn; split <;> omega
  have hp2 := part_eq (a := 2 * s.t - s.mn * s.g) (show 0 < 2 * s.g by omega) (show 2 * s.g < line83 by omega)
  have ht := dMul_ii (okMul_sm (sm30 (i := 2) (by decide) (by decide)) (sm30 (i := s.t) (by omega) (by omega)))
  have hg2 := dMul_ii (okMul_sm (sm30 (i := 2) (by decide) (by decide)) (sm30 (i := s.g) (by omega) (by omega)))
  have hmn := dMul_ii (okMul_sm (sm30 (i := s.mn) (by omega) (by omega)) (sm30 (i := s.g) (by omega) (by omega)))
  have hab := abs_pos mp.1
  have emn : ∀ x, x = s.mn → (if s.m < s.q then s.m else s.q) = x := fun x e => by rw [e]; rfl
  have hmin : ∀ g : Gs, dMin2 [.int s.q, .int s.m] g = .ok (.int s.mn) g := fun g => by rw [min2_ii]; rfl
  have hq : ∀ g : Gs, dFdiv (.int s.w) (.int s.g) g = .ok (.int s.q) g := fun g => hd s.w g
  have hm : ∀ g : Gs, dFdiv (.int s.mid) (.int s.g) g = .ok (.int s.m) g := fun g => hd s.mid g
  have hc : ∀ g : Gs, phi__law_shared [.int s.R, .int s.w] g = .ok (.int s.g) g := hc
  have emid : s.sd.pick (D.int (s.R - s.w)) (D.int (s.R + s.w)) (D.int (s.w - s.R)) = D.int s.mid := by
    unfold St5.mid Sd.pick
    cases s.sd <;> rfl
  unfold phi__law_form St5.form St5.mark
  by_cases ea : s.a = 0
  · simp only [b__law_form, ap_seq, ap_skip, ap_bad, ap_break, ap_cont, ap_if, ap_set, ap_par, ap_par3, ap_ret, ap_retN, ap_expr, ap_asg, ap_for, ap_var, ap_C, ap_f2, ap_f1, ap_nil, ap_cons, ap_tup, ap_lst, ap_cellL, ap_call, ap_fif, ap_bool, ap_tru, ap_and, ap_or, ap_not, ap_andV, ap_orV, ap_notV, ap_chain, ap_part, ap_nopart, ap_slice, ap_disp, ap_pnil, ap_pcons, ap_iter, ap_iterA, ap_lc, ap_gnam, ap_gtup, ap_glst, ap_gsnil, ap_gscons, ap_run, ap_yes, List.length_cons, List.length_nil, List.map_cons, List.map_nil, List.replicate_succ, List.replicate_zero, List.cons_append, List.nil_append, List.getElem?_cons_zero, List.getElem?_cons_succ, List.getElem?_nil, List.set_cons_zero, List.set_cons_succ, if_true, if_false, reduceIte, Nat.reduceAdd, Nat.reduceSub, Bool.false_eq_true, hc, dSub_ii, dAdd_ii, disp3, dik_sd, emid, dEq_ii, ea, decide_true, dTup_ok, okSz2, fmD]
  · cases e : s.sd
    · rw [e] at emid
      by_cases c : s.m < s.q
      · simp only [b__law_form, ap_seq, ap_skip, ap_bad, ap_break, ap_cont, ap_if, ap_set, ap_par, ap_par3, ap_ret, ap_retN, ap_expr, ap_asg, ap_for, ap_var, ap_C, ap_f2, ap_f1, ap_nil, ap_cons, ap_tup, ap_lst, ap_cellL, ap_call, ap_fif, ap_bool, ap_tru, ap_and, ap_or, ap_not, ap_andV, ap_orV, ap_notV, ap_chain, ap_part, ap_nopart, ap_slice, ap_disp, ap_pnil, ap_pcons, ap_iter, ap_iterA, ap_lc, ap_gnam, ap_gtup, ap_glst, ap_gsnil, ap_gscons, ap_run, ap_yes, List.length_cons, List.length_nil, List.map_cons, List.map_nil, List.replicate_succ, List.replicate_zero, List.cons_append, List.nil_append, List.getElem?_cons_zero, List.getElem?_cons_succ, List.getElem?_nil, List.set_cons_zero, List.set_cons_succ, if_true, if_false, reduceIte, Nat.reduceAdd, Nat.reduceSub, Bool.false_eq_true, hc, dSub_ii, dAdd_ii, disp3, dik_sd, e, emid, dEq_ii, decide_eq_false ea, hab, hq, hm, dEq_sin, dEq_sout, dGt_ii, decide_true, decide_false, reduceCtorEq, decide_eq_true c, dTup_ok, okSz5, ea, fmD, dNeg_i, hp, c, true_or]
      · by_cases c2 : s.q = s.m
        · by_cases c3 : s.a < s.mid
          · have c4 : s.m < s.q ∨ s.q = s.m ∧ s.a < s.mid := .inr ⟨c2, c3⟩
            simp only [b__law_form, ap_seq, ap_skip, ap_bad, ap_break, ap_cont, ap_if, ap_set, ap_par, ap_par3, ap_ret, ap_retN, ap_expr, ap_asg, ap_for, ap_var, ap_C, ap_f2, ap_f1, ap_nil, ap_cons, ap_tup, ap_lst, ap_cellL, ap_call, ap_fif, ap_bool, ap_tru, ap_and, ap_or, ap_not, ap_andV, ap_orV, ap_notV, ap_chain, ap_part, ap_nopart, ap_slice, ap_disp, ap_pnil, ap_pcons, ap_iter, ap_iterA, ap_lc, ap_gnam, ap_gtup, ap_glst, ap_gsnil, ap_gscons, ap_run, ap_yes, List.length_cons, List.length_nil, List.map_cons, List.map_nil, List.replicate_succ, List.replicate_zero, List.cons_append, List.nil_append, List.getElem?_cons_zero, List.getElem?_cons_succ, List.getElem?_nil, List.set_cons_zero, List.set_cons_succ, if_true, if_false, reduceIte, Nat.reduceAdd, Nat.reduceSub, Bool.false_eq_true, hc, dSub_ii, dAdd_ii, disp3, dik_sd, e, emid, dEq_ii, decide_eq_false ea, hab, hq, hm, dEq_sin, dEq_sout, dGt_ii, decide_true, decide_false, reduceCtorEq, decide_eq_false c, decide_eq_true c2, decide_eq_true c3, dTup_ok, okSz5, ea, fmD, dNeg_i, hp, c4]
          · have c4 : ¬ (s.m < s.q ∨ s.q = s.m ∧ s.a < s.mid) := fun z => by rcases z with z | z; exact c z; exact c3 z.2
            simp only [b__law_form, ap_seq, ap_skip, ap_bad, ap_break, ap_cont, ap_if, ap_set, ap_par, ap_par3, ap_ret, ap_retN, ap_expr, ap_asg, ap_for, ap_var, ap_C, ap_f2, ap_f1, ap_nil, ap_cons, ap_tup, ap_lst, ap_cellL, ap_call, ap_fif, ap_bool, ap_tru, ap_and, ap_or, ap_not, ap_andV, ap_orV, ap_notV, ap_chain, ap_part, ap_nopart, ap_slice, ap_disp, ap_pnil, ap_pcons, ap_iter, ap_iterA, ap_lc, ap_gnam, ap_gtup, ap_glst, ap_gsnil, ap_gscons, ap_run, ap_yes, List.length_cons, List.length_nil, List.map_cons, List.map_nil, List.replicate_succ, List.replicate_zero, List.cons_append, List.nil_append, List.getElem?_cons_zero, List.getElem?_cons_succ, List.getElem?_nil, List.set_cons_zero, List.set_cons_succ, if_true, if_false, reduceIte, Nat.reduceAdd, Nat.reduceSub, Bool.false_eq_true, hc, dSub_ii, dAdd_ii, disp3, dik_sd, e, emid, dEq_ii, decide_eq_false ea, hab, hq, hm, dEq_sin, dEq_sout, dGt_ii, decide_true, decide_false, reduceCtorEq, decide_eq_false c, decide_eq_true c2, decide_eq_false c3, dTup_ok, okSz5, ea, fmD, dNeg_i, hp, c4]
        · have c4 : ¬ (s.m < s.q ∨ s.q = s.m ∧ s.a < s.mid) := fun z => by rcases z with z | z; exact c z; exact c2 z.1
          simp only [b__law_form, ap_seq, ap_skip, ap_bad, ap_break, ap_cont, ap_if, ap_set, ap_par, ap_par3, ap_ret, ap_retN, ap_expr, ap_asg, ap_for, ap_var, ap_C, ap_f2, ap_f1, ap_nil, ap_cons, ap_tup, ap_lst, ap_cellL, ap_call, ap_fif, ap_bool, ap_tru, ap_and, ap_or, ap_not, ap_andV, ap_orV, ap_notV, ap_chain, ap_part, ap_nopart, ap_slice, ap_disp, ap_pnil, ap_pcons, ap_iter, ap_iterA, ap_lc, ap_gnam, ap_gtup, ap_glst, ap_gsnil, ap_gscons, ap_run, ap_yes, List.length_cons, List.length_nil, List.map_cons, List.map_nil, List.replicate_succ, List.replicate_zero, List.cons_append, List.nil_append, List.getElem?_cons_zero, List.getElem?_cons_succ, List.getElem?_nil, List.set_cons_zero, List.set_cons_succ, if_true, if_false, reduceIte, Nat.reduceAdd, Nat.reduceSub, Bool.false_eq_true, hc, dSub_ii, dAdd_ii, disp3, dik_sd, e, emid, dEq_ii, decide_eq_false ea, hab, hq, hm, dEq_sin, dEq_sout, dGt_ii, decide_true, decide_false, reduceCtorEq, decide_eq_false c, decide_eq_false c2, dTup_ok, okSz5, ea, fmD, dNeg_i, hp, c4]
    · rw [e] at emid
      simp only [b__law_form, ap_seq, ap_skip, ap_bad, ap_break, ap_cont, ap_if, ap_set, ap_par, ap_par3, ap_ret, ap_retN, ap_expr, ap_asg, ap_for, ap_var, ap_C, ap_f2, ap_f1, ap_nil, ap_cons, ap_tup, ap_lst, ap_cellL, ap_call, ap_fif, ap_bool, ap_tru, ap_and, ap_or, ap_not, ap_andV, ap_orV, ap_notV, ap_chain, ap_part, ap_nopart, ap_slice, ap_disp, ap_pnil, ap_pcons, ap_iter, ap_iterA, ap_lc, ap_gnam, ap_gtup, ap_glst, ap_gsnil, ap_gscons, ap_run, ap_yes, List.length_cons, List.length_nil, List.map_cons, List.map_nil, List.replicate_succ, List.replicate_zero, List.cons_append, List.nil_append, List.getElem?_cons_zero, List.getElem?_cons_succ, List.getElem?_nil, List.set_cons_zero, List.set_cons_succ, if_true, if_false, reduceIte, Nat.reduceAdd, Nat.reduceSub, Bool.false_eq_true, hc, dSub_ii, dAdd_ii, disp3, dik_sd, e, emid, dEq_ii, decide_eq_false ea, hab, hq, hm, dEq_sin, dEq_sout, dGt_ii, decide_true, decide_false, reduceCtorEq, dTup_ok, okSz5, ea, fmD, dMul_ii, ht, hg2, hmn, hmin, hp2]
    · rw [e] at emid
      simp only [b__law_form, ap_seq, ap_skip, ap_bad, ap_break, ap_cont, ap_if, ap_set, ap_par, ap_par3, ap_ret, ap_retN, ap_expr, ap_asg, ap_for, ap_var, ap_C, ap_f2, ap_f1, ap_nil, ap_cons, ap_tup, ap_lst, ap_cellL, ap_call, ap_fif, ap_bool, ap_tru, ap_and, ap_or, ap_not, ap_andV, ap_orV, ap_notV, ap_chain, ap_part, ap_nopart, ap_slice, ap_disp, ap_pnil, ap_pcons, ap_iter, ap_iterA, ap_lc, ap_gnam, ap_gtup, ap_glst, ap_gsnil, ap_gscons, ap_run, ap_yes, List.length_cons, List.length_nil, List.map_cons, List.map_nil, List.replicate_succ, List.replicate_zero, List.cons_append, List.nil_append, List.getElem?_cons_zero, List.getElem?_cons_succ, List.getElem?_nil, List.set_cons_zero, List.set_cons_succ, if_true, if_false, reduceIte, Nat.reduceAdd, Nat.reduceSub, Bool.false_eq_true, hc, dSub_ii, dAdd_ii, disp3, dik_sd, e, emid, dEq_ii, decide_eq_false ea, hab, hq, hm, dEq_sin, dEq_sout, dGt_ii, decide_true, decide_false, reduceCtorEq, dTup_ok, okSz5, ea, fmD, dMul_ii, ht, hg2, hmn, hmin, hp2]
end LB
set_option maxRecDepth 100000
set_option maxHeartbeats 4000000
namespace LB
open PySem PySem.Spec PyProof.Rows L2 DL
theorem match_iff {k : Bool} {p : Int × Int} {a b : Ar} (h2 : 0 < p.2) (ca : Cn a.p) (cb : Cn b.p) : matchB k p a b = true ↔ a.z = b.z ∧ (a.v = if k then 0 - b.v else b.v) ∧ EqZ (vl b.p + (a.v : Rat) * vl p) (vl a.p) := by
  have hb := cb.pos
  have hpos : 0 < b.p.2 * p.2 := Int.mul_pos hb h2
  have h := pt_eq_iff (a := b.p.1 * p.2 + a.v * p.1 * b.p.2) hpos ca
  have e : ((b.p.1 * p.2 + a.v * p.1 * b.p.2 : Int) : Rat) / ((b.p.2 * p.2 : Int) : Rat) = vl b.p + (a.v : Rat) * vl p := by
    have h0 := ne0 (show b.p.2 ≠ 0 by omega)
    have h1 := ne0 (show p.2 ≠ 0 by omega)
    unfold vl
    simp only [Rat.intCast_add, Rat.intCast_mul]
    generalize (b.p.1 : Rat) = b1 at *
    generalize (b.p.2 : Rat) = b2 at *
    generalize (p.1 : Rat) = p1 at *
    generalize (p.2 : Rat) = p2 at *
    generalize (a.v : Rat) = v at *
    grind
  rw [e] at h
  unfold matchB
  rw [Bool.and_eq_true, Bool.and_eq_true, decide_eq_true_iff, decide_eq_true_iff, decide_eq_true_iff, h]
/-- the slip that is tried at the k-th turn -/
def tops (f a : Int × Int) (k : Int) : Int := f.1 * a.2 - a.1 * f.2 + k * f.2 * a.2
def quicks (f a : Int × Int) (v : Int) : Int := f.2 * a.2 * v
theorem slip_val {f a : Int × Int} {v k : Int} (hf : Cn f) (ha : Cn a) (hv : 0 < v) : EqZ (vl (pt (tops f a k) (quicks f a v))) ((vl f - vl a + (k : Rat)) / (v : Rat)) := by
  have f0 := hf.pos
  have a0 := ha.pos
  have hq : 0 < quicks f a v := Int.mul_pos (Int.mul_pos f0 a0) hv
  refine (pt_val (a := tops f a k) hq).trans (.of_eq ?_)
  unfold tops quicks vl
  have h0 := ne0 (show f.2 ≠ 0 by omega)
  have h1 := ne0 (show a.2 ≠ 0 by omega)
  have h2 := ne0 (show v ≠ 0 by omega)
  simp only [Rat.intCast_add, Rat.intCast_sub, Rat.intCast_mul]
  generalize (f.1 : Rat) = f1 at *
  generalize (f.2 : Rat) = f2 at *
  generalize (a.1 : Rat) = a1 at *
  generalize (a.2 : Rat) = a2 at *
  generalize (v : Rat) = v at *
  generalize (k : Rat) = k at *
  grind
theorem slip_pos {f a : Int × Int} {v : Int} (k : Int) (hf : Cn f) (ha : Cn a) (hv : 0 < v) : Cn (pt (tops f a k) (quicks f a v)) := pt_cn (Int.mul_pos (Int.mul_pos hf.pos ha.pos) hv)
theorem two_found {k : Bool} {a1 a2 b1 b2 : Ar} (ca1 : Cn a1.p) (ca2 : Cn a2.p) (cb1 : Cn b1.p) (cb2 : Cn b2.p) (hv : 0 < a1.v) (co : Int.gcd a1.v a2.v = 1) (z1 : a1.z = b1.z) (z2 : a2.z = b2.z)
    (v1 : a1.v = if k then 0 - b1.v else b1.v) (v2 : a2.v = if k then 0 - b2.v else b2.v) (J : EqZ ((a2.v : Rat) * vl a1.p - (a1.v : Rat) * vl a2.p) ((a2.v : Rat) * vl b1.p - (a1.v : Rat) * vl b2.p)) :
    ∃ t, 0 ≤ t ∧ t < a1.v ∧ matchB k (pt (tops a1.p b1.p t) (quicks a1.p b1.p a1.v)) a1 b1 = true ∧ matchB k (pt (tops a1.p b1.p t) (quicks a1.p b1.p a1.v)) a2 b2 = true := by
  obtain ⟨N, hN⟩ := J
  obtain ⟨t, t0, t1, d, hd⟩ := solve hv co N
  have cs := slip_pos t ca1 cb1 hv
  obtain ⟨j, hj⟩ := slip_val (k := t) ca1 cb1 hv
  have h0 := ne0 (show a1.v ≠ 0 by omega)
  have hdR : (N : Rat) + (a2.v : Rat) * (t : Rat) = (a1.v : Rat) * (d : Rat) := by
    rw [← Rat.intCast_mul, ← Rat.intCast_mul, ← Rat.intCast_add, hd]
  refine ⟨t, t0, t1, (match_iff cs.pos ca1 cb1).mpr ⟨z1, v1, t + a1.v * j, ?_⟩, (match_iff cs.pos ca2 cb2).mpr ⟨z2, v2, d + a2.v * j, ?_⟩⟩
  · rw [hj, Rat.intCast_add, Rat.intCast_mul]
    generalize vl a1.p = x1 at *
    generalize vl b1.p = y1 at *
    generalize (a1.v : Rat) = v at *
    generalize (t : Rat) = t at *
    generalize (j : Rat) = j at *
    grind
  · rw [hj, Rat.intCast_add, Rat.intCast_mul]
    generalize vl a1.p = x1 at *
    generalize vl b1.p = y1 at *
    generalize vl a2.p = x2 at *
    generalize vl b2.p = y2 at *
    generalize (a1.v : Rat) = v at *
    generalize (a2.v : Rat) = u at *
    generalize (t : Rat) = t at *
    generalize (j : Rat) = j at *
    generalize (N : Rat) = N at *
    generalize (d : Rat) = d at *
    grind
theorem one_found {a1 b1 : Ar} (ca1 : Cn a1.p) (cb1 : Cn b1.p) (hv : a1.v = 1) (z1 : a1.z = b1.z) (v1 : a1.v = b1.v) : matchB false (pt (tops a1.p b1.p 0) (quicks a1.p b1.p a1.v)) a1 b1 = true := by
  have hv2 : 0 < a1.v := by omega
  have cs := slip_pos 0 ca1 cb1 hv2
  obtain ⟨j, hj⟩ := slip_val (k := 0) ca1 cb1 hv2
  refine (match_iff cs.pos ca1 cb1).mpr ⟨z1, v1, j, ?_⟩
  rw [hj, hv]
  have e1 : ((1 : Int) : Rat) = 1 := rfl
  have e0 : ((0 : Int) : Rat) = 0 := rfl
  rw [e1, e0]
  generalize vl a1.p = x1 at *
  generalize vl b1.p = y1 at *
  generalize (j : Rat) = j at *
  grind
end LB
set_option maxRecDepth 100000
set_option maxHeartbeats 4000000
namespace LB
open PySem PySem.Spec PyProof.Rows L2 DL
structure Fct (s : St5) (g r q m : Int) : Prop where
  gp : 0 < g
  rp : 0 < r
  qp : 0 < q
  mp : 0 < m
  R : s.R = g * r
  q_ : s.q = q
  m_ : s.m = m
  mid : s.mid = g * m
  g_ : s.g = g
  co : Int.gcd q m = 1
  cs : (s.sd = .i ∧ m = r - q ∧ s.sl = -m) ∨ (s.sd = .o ∧ m = r + q ∧ s.sl = m) ∨ (s.sd = .v ∧ m = q - r ∧ s.sl = m)
theorem gcd_shift {q r m : Int} (h : Int.gcd r q = 1) (e : m = r - q ∨ m = r + q ∨ m = q - r) : Int.gcd q m = 1 := by
  rw [Int.gcd_eq_one_iff] at h ⊢
  intro c h1 h2
  refine h c ?_ h1
  rcases e with e | e | e
  · have : r = m + q := by omega
    rw [this]; exact Int.dvd_add h2 h1
  · have : r = m - q := by omega
    rw [this]; exact Int.dvd_sub h2 h1
  · have : r = q - m := by omega
    rw [this]; exact Int.dvd_sub h1 h2
theorem fct {s : St5} (h : Vd s) : ∃ r, Fct s s.g r s.q s.m := by
  obtain ⟨r, m, P, hs⟩ := pt5 h
  have hm : s.m = m := by
    unfold St5.m
    rw [P.mid, Int.mul_ediv_cancel_left _ (by have := P.gp; omega)]
  have e := P.m
  refine ⟨r, P.gp, P.rp, P.qp, by rw [hm]; exact P.mp, P.R, rfl, rfl, by rw [hm]; exact P.mid, rfl, ?_, ?_⟩
  · rw [hm]
    refine gcd_shift P.co ?_
    cases q : s.sd <;> rw [q] at e
    · exact .inl e
    · exact .inr (.inl e)
    · exact .inr (.inr e)
  · rw [hm]
    cases q : s.sd <;> rw [q] at e hs
    · exact .inl ⟨rfl, e, hs⟩
    · exact .inr (.inl ⟨rfl, e, hs⟩)
    · exact .inr (.inr ⟨rfl, e, hs⟩)
theorem ph_val {s : St5} (h : Vd s) : EqZ (vl s.ph) ((s.t : Rat) / (s.R : Rat)) := pt_val (by have := h.r1; omega)
theorem ac_val {s : St5} (h : Vd s) : EqZ (vl s.ac) ((s.t : Rat) / (s.R : Rat) + 1 / 2) := by
  have r1 := h.r1
  refine (pt_val (show 0 < 2 * s.R by omega)).trans (.of_eq ?_)
  have h0 := ne0 (show s.R ≠ 0 by omega)
  simp only [Rat.intCast_add, Rat.intCast_mul]
  have e2 : ((2 : Int) : Rat) = 2 := rfl
  rw [e2]
  generalize (s.t : Rat) = t at *
  generalize (s.R : Rat) = R at *
  grind
def St5.sg (s : St5) : Int := if s.sd = .o then 1 else -1
theorem mark_cn {s : St5} (h : Vd s) : Cn s.mark := by
  have g1 := h.g1
  unfold St5.mark
  split
  · exact pt_cn g1
  · exact pt_cn (by omega)
theorem J_val {s : St5} (h : Vd s) : EqZ ((s.sl : Rat) * vl s.p1 - (s.q : Rat) * vl s.p2) ((s.sg : Rat) * vl s.mark) := by
  obtain ⟨r, F⟩ := fct h
  have gp := F.gp
  have rp := F.rp
  have h0 := ne0 (show s.g ≠ 0 by omega)
  have h1 := ne0 (show r ≠ 0 by omega)
  have e2 : ((2 : Int) : Rat) = 2 := rfl
  have eR : (s.R : Rat) = (s.g : Rat) * (r : Rat) := by rw [F.R, Rat.intCast_mul]
  have hph := ph_val h
  have hac := ac_val h
  rw [eR] at hph hac
  have h1' : ((1 : Int) : Rat) = 1 := rfl
  have h1n : ((-1 : Int) : Rat) = -1 := rfl
  rcases F.cs with ⟨e, em, es⟩ | ⟨e, em, es⟩ | ⟨e, em, es⟩
  · have m1 : EqZ (vl s.mark) ((s.t : Rat) / (s.g : Rat)) := by
      unfold St5.mark; rw [if_pos e]; exact pt_val gp
    have q1 : s.p1 = s.ph := by unfold St5.p1; rw [e]; rfl
    have q2 : s.p2 = s.ph := by unfold St5.p2; rw [e]; rfl
    have q3 : s.sg = -1 := by unfold St5.sg; rw [e]; rfl
    rw [q1, q2, q3]
    refine ((hph.mul s.sl).sub (hph.mul s.q)).trans (EqZ.trans (.of_eq ?_) (m1.mul (-1)).symm)
    have er : (r : Rat) = (s.m : Rat) + (s.q : Rat) := by rw [← Rat.intCast_add]; exact rat_of (by omega)
    rw [es, Rat.intCast_neg, h1n, er]
    rw [er] at h1
    generalize (s.t : Rat) = t at *
    generalize (s.g : Rat) = g at *
    generalize (s.m : Rat) = m at *
    generalize (s.q : Rat) = q at *
    grind
  · have hmn : s.mn = s.q := by unfold St5.mn; rw [if_neg (by omega)]
    have m1 : EqZ (vl s.mark) ((s.t : Rat) / (s.g : Rat) - (s.q : Rat) / 2) := by
      unfold St5.mark; rw [if_neg (by rw [e]; decide), hmn]
      refine (pt_val (show 0 < 2 * s.g by omega)).trans (.of_eq ?_)
      simp only [Rat.intCast_sub, Rat.intCast_mul, e2]
      generalize (s.t : Rat) = t at *
      generalize (s.g : Rat) = g at *
      generalize (s.q : Rat) = q at *
      grind
    have q1 : s.p1 = s.ph := by unfold St5.p1; rw [e]; rfl
    have q2 : s.p2 = s.ac := by unfold St5.p2; rw [e]; rfl
    have q3 : s.sg = 1 := by unfold St5.sg; rw [e]; rfl
    rw [q1, q2, q3]
    refine ((hph.mul s.sl).sub (hac.mul s.q)).trans (EqZ.trans (.of_eq ?_) (m1.mul 1).symm)
    have er : (r : Rat) = (s.m : Rat) - (s.q : Rat) := by rw [← Rat.intCast_sub]; exact rat_of (by omega)
    rw [es, h1', er]
    rw [er] at h1
    generalize (s.t : Rat) = t at *
    generalize (s.g : Rat) = g at *
    generalize (s.m : Rat) = m at *
    generalize (s.q : Rat) = q at *
    grind
  · have hmn : s.mn = s.m := by unfold St5.mn; rw [if_pos (by omega)]
    have m1 : EqZ (vl s.mark) ((s.t : Rat) / (s.g : Rat) - (s.m : Rat) / 2) := by
      unfold St5.mark; rw [if_neg (by rw [e]; decide), hmn]
      refine (pt_val (show 0 < 2 * s.g by omega)).trans (.of_eq ?_)
      simp only [Rat.intCast_sub, Rat.intCast_mul, e2]
      generalize (s.t : Rat) = t at *
      generalize (s.g : Rat) = g at *
      generalize (s.m : Rat) = q at *
      grind
    have q1 : s.p1 = s.ac := by unfold St5.p1; rw [e]; rfl
    have q2 : s.p2 = s.ph := by unfold St5.p2; rw [e]; rfl
    have q3 : s.sg = -1 := by unfold St5.sg; rw [e]; rfl
    rw [q1, q2, q3]
    refine ((hac.mul s.sl).sub (hph.mul s.q)).trans (EqZ.trans (.of_eq ?_) (m1.mul (-1)).symm)
    have er : (r : Rat) = (s.q : Rat) - (s.m : Rat) := by rw [← Rat.intCast_sub]; exact rat_of (by omega)
    rw [es, h1n, er]
    rw [er] at h1
    generalize (s.t : Rat) = t at *
    generalize (s.g : Rat) = g at *
    generalize (s.m : Rat) = m at *
    generalize (s.q : Rat) = q at *
    grind
theorem mark_same {s n : St5} (hs : Vd s) (hn : Vd n) (h : EqZ (vl s.mark) (vl n.mark)) : s.mark = n.mark := cn_uniq (mark_cn hs) (mark_cn hn) h
end LB
set_option maxRecDepth 100000
set_option maxHeartbeats 4000000
namespace LB
open PySem PySem.Spec PyProof.Rows L2 DL
def St5.J (s : St5) : Rat := (s.sl : Rat) * vl s.p1 - (s.q : Rat) * vl s.p2
structure Cf1 (s n : St5) : Prop where
  z : s.mid = n.mid
  q : s.q = n.q
  a : s.a = n.a
  l : s.sl = n.sl
  j : EqZ s.J n.J
structure Cf2 (s n : St5) : Prop where
  z : s.mid = n.a
  q : s.q = n.sl
  a : s.a = n.mid
  l : s.sl = n.q
  j : EqZ s.J (-n.J)
structure Cf3 (s n : St5) : Prop where
  z : s.mid = n.a
  q : s.q = -n.sl
  a : s.a = n.mid
  l : s.sl = -n.q
  j : EqZ s.J n.J
theorem sg_cancel {x y : Rat} {e : Int} (he : e = 1 ∨ e = -1) (h : EqZ ((e : Rat) * x) ((e : Rat) * y)) : EqZ x y := by
  have h2 := h.mul e
  have h3 : ∀ z : Rat, (e : Rat) * ((e : Rat) * z) = z := fun z => by
    rcases he with rfl | rfl
    · have e1 : ((1 : Int) : Rat) = 1 := rfl
      rw [e1]; grind
    · have e1 : ((-1 : Int) : Rat) = -1 := rfl
      rw [e1]; grind
  rw [h3, h3] at h2
  exact h2
theorem J_iff {s n : St5} (hs : Vd s) (hn : Vd n) (h : s.sg = n.sg) : EqZ s.J n.J ↔ s.mark = n.mark := by
  have j1 : EqZ s.J _ := J_val hs
  have j2 : EqZ n.J _ := J_val hn
  have hz : s.sg = 1 ∨ s.sg = -1 := by unfold St5.sg; split <;> simp
  refine ⟨fun e => mark_same hs hn (sg_cancel hz ?_), fun e => ?_⟩
  · rw [h] at j1 ⊢
    exact j1.symm.trans (e.trans j2)
  · rw [h, e] at j1
    exact j1.trans j2.symm
theorem J_iff2 {s n : St5} (hs : Vd s) (hn : Vd n) (h : s.sg = -n.sg) : EqZ s.J (-n.J) ↔ s.mark = n.mark := by
  have j1 : EqZ s.J _ := J_val hs
  have j2 : EqZ n.J _ := J_val hn
  have j3 : EqZ (-n.J) ((s.sg : Rat) * vl n.mark) := by
    have := j2.neg
    rw [h, Rat.intCast_neg]
    refine this.trans (.of_eq ?_)
    grind
  have hz : s.sg = 1 ∨ s.sg = -1 := by unfold St5.sg; split <;> simp
  refine ⟨fun e => mark_same hs hn (sg_cancel hz ?_), fun e => ?_⟩
  · exact j1.symm.trans (e.trans j3)
  · rw [e] at j1
    exact j1.trans j3.symm
theorem form_i {s : St5} (e : s.sd = .i) (ha : s.a ≠ 0) : s.form = if s.m < s.q ∨ (s.q = s.m ∧ s.a < s.mid) then .five s.mid s.q s.a (-s.m) s.mark else .five s.a s.m s.mid (-s.q) s.mark := by
  unfold St5.form; rw [if_neg ha, e]
theorem form_o {s : St5} (e : s.sd = .o) (ha : s.a ≠ 0) : s.form = .five s.a s.m s.mid s.q s.mark := by
  unfold St5.form; rw [if_neg ha, e]
theorem form_v {s : St5} (e : s.sd = .v) (ha : s.a ≠ 0) : s.form = .five s.mid s.q s.a s.m s.mark := by
  unfold St5.form; rw [if_neg ha, e]
theorem form_iff {s n : St5} (hs : Vd s) (hn : Vd n) (ha : s.a ≠ 0) (hb : n.a ≠ 0) : s.form = n.form ↔ (Cf1 s n ∨ Cf2 s n ∨ Cf3 s n) := by
  obtain ⟨r, F⟩ := fct hs
  obtain ⟨r', F'⟩ := fct hn
  have rp := F.rp; have qp := F.qp; have mp := F.mp
  have rp' := F'.rp; have qp' := F'.qp; have mp' := F'.mp
  rcases F.cs with ⟨e, em, es⟩ | ⟨e, em, es⟩ | ⟨e, em, es⟩
  · rcases F'.cs with ⟨e', em', es'⟩ | ⟨e', em', es'⟩ | ⟨e', em', es'⟩
    · have hsg : s.sg = n.sg := by unfold St5.sg; rw [e, e']
      have hj := J_iff hs hn hsg
      rw [form_i e ha, form_i e' hb]
      constructor
      · intro h
        split at h
        · rename_i c1
          split at h
          · injection h with h1 h2 h3 h4 h5
            exact .inl ⟨h1, h2, h3, by omega, hj.mpr h5⟩
          · injection h with h1 h2 h3 h4 h5
            exact .inr (.inr ⟨h1, by omega, h3, by omega, hj.mpr h5⟩)
        · rename_i c1
          split at h
          · injection h with h1 h2 h3 h4 h5
            exact .inr (.inr ⟨h3, by omega, h1, by omega, hj.mpr h5⟩)
          · injection h with h1 h2 h3 h4 h5
            exact .inl ⟨h3, by omega, h1, by omega, hj.mpr h5⟩
      · intro h
        rcases h with ⟨z, q, a, l, j⟩ | ⟨z, q, a, l, j⟩ | ⟨z, q, a, l, j⟩
        · have hm : s.m = n.m := by omega
          rw [z, q, a, hm, hj.mp j]
        · omega
        · have q1 : s.q = n.m := by omega
          have q2 : s.m = n.q := by omega
          have hk := hj.mp j
          by_cases c1 : s.m < s.q ∨ (s.q = s.m ∧ s.a < s.mid)
          · rw [if_pos c1]
            by_cases c2 : n.m < n.q ∨ (n.q = n.m ∧ n.a < n.mid)
            · omega
            · rw [if_neg c2, z, q1, a, q2, hk]
          · rw [if_neg c1]
            by_cases c2 : n.m < n.q ∨ (n.q = n.m ∧ n.a < n.mid)
            · rw [if_pos c2, z, q1, a, q2, hk]
            · rw [if_neg c2]
              have e1 : s.q = s.m := by omega
              have e2 : s.a = s.mid := by omega
              have e3 : n.a = n.mid := by omega
              have e4 : n.m = n.q := by omega
              rw [hk, q2, e2, z, e3, q1, e4]
    · rw [form_i e ha, form_o e' hb]
      constructor
      · intro h
        split at h <;> · injection h with h1 h2 h3 h4 h5; omega
      · intro h
        rcases h with ⟨z, q, a, l, j⟩ | ⟨z, q, a, l, j⟩ | ⟨z, q, a, l, j⟩ <;> omega
    · rw [form_i e ha, form_v e' hb]
      constructor
      · intro h
        split at h <;> · injection h with h1 h2 h3 h4 h5; omega
      · intro h
        rcases h with ⟨z, q, a, l, j⟩ | ⟨z, q, a, l, j⟩ | ⟨z, q, a, l, j⟩ <;> omega
  · rcases F'.cs with ⟨e', em', es'⟩ | ⟨e', em', es'⟩ | ⟨e', em', es'⟩
    · rw [form_o e ha, form_i e' hb]
      constructor
      · intro h
        split at h <;> · injection h with h1 h2 h3 h4 h5; omega
      · intro h
        rcases h with ⟨z, q, a, l, j⟩ | ⟨z, q, a, l, j⟩ | ⟨z, q, a, l, j⟩ <;> omega
    · have hsg : s.sg = n.sg := by unfold St5.sg; rw [e, e']
      have hj := J_iff hs hn hsg
      rw [form_o e ha, form_o e' hb]
      constructor
      · intro h
        injection h with h1 h2 h3 h4 h5
        exact .inl ⟨h3, h4, h1, by omega, hj.mpr h5⟩
      · intro h
        rcases h with ⟨z, q, a, l, j⟩ | ⟨z, q, a, l, j⟩ | ⟨z, q, a, l, j⟩
        · have hm : s.m = n.m := by omega
          rw [z, q, a, hm, hj.mp j]
        · omega
        · omega
    · have hsg : s.sg = -n.sg := by unfold St5.sg; rw [e, e']; rfl
      have hj := J_iff2 hs hn hsg
      rw [form_o e ha, form_v e' hb]
      constructor
      · intro h
        injection h with h1 h2 h3 h4 h5
        exact .inr (.inl ⟨h3, by omega, h1, by omega, hj.mpr h5⟩)
      · intro h
        rcases h with ⟨z, q, a, l, j⟩ | ⟨z, q, a, l, j⟩ | ⟨z, q, a, l, j⟩
        · omega
        · have q1 : s.q = n.m := by omega
          have q2 : s.m = n.q := by omega
          rw [z, q1, a, q2, hj.mp j]
        · omega
  · rcases F'.cs with ⟨e', em', es'⟩ | ⟨e', em', es'⟩ | ⟨e', em', es'⟩
    · rw [form_v e ha, form_i e' hb]
      constructor
      · intro h
        split at h <;> · injection h with h1 h2 h3 h4 h5; omega
      · intro h
        rcases h with ⟨z, q, a, l, j⟩ | ⟨z, q, a, l, j⟩ | ⟨z, q, a, l, j⟩ <;> omega
    · have hsg : s.sg = -n.sg := by unfold St5.sg; rw [e, e']; rfl
      have hj := J_iff2 hs hn hsg
      rw [form_v e ha, form_o e' hb]
      constructor
      · intro h
        injection h with h1 h2 h3 h4 h5
        exact .inr (.inl ⟨h1, by omega, h3, by omega, hj.mpr h5⟩)
      · intro h
        rcases h with ⟨z, q, a, l, j⟩ | ⟨z, q, a, l, j⟩ | ⟨z, q, a, l, j⟩
        · omega
        · have q1 : s.q = n.m := by omega
          have q2 : s.m = n.q := by omega
          rw [z, q1, a, q2, hj.mp j]
        · omega
    · have hsg : s.sg = n.sg := by unfold St5.sg; rw [e, e']
      have hj := J_iff hs hn hsg
      rw [form_v e ha, form_v e' hb]
      constructor
      · intro h
        injection h with h1 h2 h3 h4 h5
        exact .inl ⟨h1, h2, h3, by omega, hj.mpr h5⟩
      · intro h
        rcases h with ⟨z, q, a, l, j⟩ | ⟨z, q, a, l, j⟩ | ⟨z, q, a, l, j⟩
        · have hm : s.m = n.m := by omega
          rw [z, q, a, hm, hj.mp j]
        · omega
        · omega
end LB
set_option maxRecDepth 100000
set_option maxHeartbeats 4000000
namespace LB
open PySem PySem.Spec PyProof.Rows L2 DL
theorem ars_0 {s : St5} (h : s.a = 0) : s.ars = [⟨s.mid, 1, s.p1⟩] := by unfold St5.ars; rw [if_pos h]
theorem ars_2 {s : St5} (h : s.a ≠ 0) : s.ars = [⟨s.mid, s.q, s.p1⟩, ⟨s.a, s.sl, s.p2⟩] := by unfold St5.ars; rw [if_neg h]; rfl
theorem isP_cn {p : Int × Int} (h : Cn p) : isP p = true := by
  unfold isP
  rw [decide_eq_true h.1, decide_eq_true h.2.1, decide_eq_true (pt_self h)]
  rfl
def St5.v1 (s : St5) : Int := if s.a = 0 then 1 else s.q
def St5.far (n : St5) (c : Bool) : Int × Int := if c = true ∧ n.a ≠ 0 then n.p2 else n.p1
def slip (s n : St5) (c : Bool) (t : Int) : Int × Int := pt (tops s.p1 (n.far c) t) (quicks s.p1 (n.far c) s.v1)
theorem far_cn {n : St5} (h : Vd n) (c : Bool) : Cn (n.far c) := by
  unfold St5.far
  split
  · exact (p2_ok h).1
  · exact (p1_ok h).1
theorem v1_pos {s : St5} (h : Vd s) : 0 < s.v1 := by
  obtain ⟨r, F⟩ := fct h
  have := F.qp
  unfold St5.v1
  split <;> omega
theorem slip_cn {s n : St5} (hs : Vd s) (hn : Vd n) (c : Bool) (t : Int) : Cn (slip s n c t) := slip_pos t (p1_ok hs).1 (far_cn hn c) (v1_pos hs)
theorem found_of_form {s n : St5} (hs : Vd s) (hn : Vd n) (h : s.form = n.form) : ∃ (c k : Bool) (t : Int), 0 ≤ t ∧ t < s.v1 ∧ shownB s.ars n.ars c k (slip s n c t) = true := by
  obtain ⟨r, F⟩ := fct hs
  obtain ⟨r', F'⟩ := fct hn
  have qp := F.qp; have qp' := F'.qp
  have c1 := (p1_ok hs).1; have c2 := (p2_ok hs).1; have d1 := (p1_ok hn).1; have d2 := (p2_ok hn).1
  have cs := fun c t => isP_cn (slip_cn hs hn c t)
  by_cases ha : s.a = 0
  · by_cases hb : n.a = 0
    · refine ⟨false, false, 0, by omega, by unfold St5.v1; rw [if_pos ha]; omega, ?_⟩
      have hz : s.mid = n.mid := by
        unfold St5.form at h
        rw [if_pos ha, if_pos hb] at h
        injection h
      have m := one_found (a1 := ⟨s.mid, 1, s.p1⟩) (b1 := ⟨n.mid, 1, n.p1⟩) c1 d1 rfl hz rfl
      unfold shownB
      rw [cs false 0, ars_0 ha, ars_0 hb]
      have e : slip s n false 0 = pt (tops s.p1 n.p1 0) (quicks s.p1 n.p1 1) := by
        unfold slip St5.far St5.v1
        rw [if_pos ha, if_neg (by simp)]
      rw [e]
      simp only [List.zip_cons_cons, List.zip_nil_left, List.all_cons, List.all_nil, Bool.and_true, Bool.false_eq_true, if_false, List.length_cons, List.length_nil, decide_true, Bool.false_and, Bool.not_false, Bool.true_and]
      exact m
    · exfalso
      unfold St5.form at h
      rw [if_pos ha, if_neg hb] at h
      cases e : n.sd <;> rw [e] at h
      · dsimp only at h; split at h <;> cases h
      · cases h
      · cases h
  · by_cases hb : n.a = 0
    · exfalso
      unfold St5.form at h
      rw [if_neg ha, if_pos hb] at h
      cases e : s.sd <;> rw [e] at h
      · dsimp only at h; split at h <;> cases h
      · cases h
      · cases h
    · have ev : s.v1 = s.q := by unfold St5.v1; rw [if_neg ha]
      have co : Int.gcd s.q s.sl = 1 := by
        have := F.co
        rcases F.cs with ⟨_, _, e⟩ | ⟨_, _, e⟩ | ⟨_, _, e⟩
        · rw [e, Int.gcd_neg]; exact this
        · rw [e]; exact this
        · rw [e]; exact this
      have er : ∀ x y : Ar, [x, y].reverse = [y, x] := fun _ _ => rfl
      rcases (form_iff hs hn ha hb).mp h with ⟨z, q, a, l, j⟩ | ⟨z, q, a, l, j⟩ | ⟨z, q, a, l, j⟩
      · obtain ⟨t, t0, t1, m1, m2⟩ := two_found (k := false) (a1 := ⟨s.mid, s.q, s.p1⟩) (a2 := ⟨s.a, s.sl, s.p2⟩) (b1 := ⟨n.mid, n.q, n.p1⟩) (b2 := ⟨n.a, n.sl, n.p2⟩) c1 c2 d1 d2 qp co z a q l (by
          unfold St5.J at j
          dsimp only
          rw [q, l] at j ⊢
          exact j)
        refine ⟨false, false, t, t0, by rw [ev]; exact t1, ?_⟩
        have e : slip s n false t = pt (tops s.p1 n.p1 t) (quicks s.p1 n.p1 s.q) := by
          unfold slip St5.far
          rw [ev, if_neg (by simp)]
        unfold shownB
        rw [cs false t, ars_2 ha, ars_2 hb, e]
        simp only [List.zip_cons_cons, List.zip_nil_left, List.all_cons, List.all_nil, Bool.and_true, Bool.false_eq_true, if_false, List.length_cons, List.length_nil, decide_true, Bool.false_and, Bool.not_false, Bool.true_and, Bool.and_eq_true]
        exact ⟨m1, m2⟩
      · obtain ⟨t, t0, t1, m1, m2⟩ := two_found (k := false) (a1 := ⟨s.mid, s.q, s.p1⟩) (a2 := ⟨s.a, s.sl, s.p2⟩) (b1 := ⟨n.a, n.sl, n.p2⟩) (b2 := ⟨n.mid, n.q, n.p1⟩) c1 c2 d2 d1 qp co z a q l (by
          unfold St5.J at j
          dsimp only
          rw [q, l] at j ⊢
          refine j.trans (.of_eq ?_)
          grind)
        refine ⟨true, false, t, t0, by rw [ev]; exact t1, ?_⟩
        have e : slip s n true t = pt (tops s.p1 n.p2 t) (quicks s.p1 n.p2 s.q) := by
          unfold slip St5.far
          rw [ev, if_pos ⟨rfl, hb⟩]
        unfold shownB
        rw [cs true t, ars_2 ha, ars_2 hb, e]
        simp only [er, List.zip_cons_cons, List.zip_nil_left, List.all_cons, List.all_nil, Bool.and_true, if_true, List.length_cons, List.length_nil, decide_true, Bool.true_and, Bool.and_eq_true]
        exact ⟨rfl, m1, m2⟩
      · obtain ⟨t, t0, t1, m1, m2⟩ := two_found (k := true) (a1 := ⟨s.mid, s.q, s.p1⟩) (a2 := ⟨s.a, s.sl, s.p2⟩) (b1 := ⟨n.a, n.sl, n.p2⟩) (b2 := ⟨n.mid, n.q, n.p1⟩) c1 c2 d2 d1 qp co z a (by simp only [if_true]; omega) (by simp only [if_true]; omega) (by
          unfold St5.J at j
          dsimp only
          rw [q, l] at j ⊢
          refine j.trans (.of_eq ?_)
          rw [Rat.intCast_neg, Rat.intCast_neg]
          grind)
        refine ⟨true, true, t, t0, by rw [ev]; exact t1, ?_⟩
        have e : slip s n true t = pt (tops s.p1 n.p2 t) (quicks s.p1 n.p2 s.q) := by
          unfold slip St5.far
          rw [ev, if_pos ⟨rfl, hb⟩]
        unfold shownB
        rw [cs true t, ars_2 ha, ars_2 hb, e]
        simp only [er, List.zip_cons_cons, List.zip_nil_left, List.all_cons, List.all_nil, Bool.and_true, if_true, List.length_cons, List.length_nil, decide_true, Bool.true_and, Bool.and_eq_true]
        exact ⟨rfl, m1, m2⟩
end LB
set_option maxRecDepth 100000
set_option maxHeartbeats 4000000
namespace LB
open PySem PySem.Spec PyProof.Rows L2 DL
structure Pr (s n : St5) : Prop where
  hs : Vd s
  hn : Vd n
  ks : s.stroke = false
  kn : n.stroke = false
  v : s.v1 ≤ 100
  l : ∃ L : Int, 0 < L ∧ L ≤ 10 ^ 40 ∧ s.p1.2 ∣ L ∧ (∀ c, (n.far c).2 ∣ L) ∧ s.p2.2 ∣ L ∧ n.p1.2 ∣ L ∧ n.p2.2 ∣ L
theorem dvd_whole {p : Int × Int} {L : Int} (hp : 0 < p.2) (h : p.2 ∣ L) : ∃ e : Int, (L : Rat) * vl p = (e : Rat) := by
  obtain ⟨d, rfl⟩ := h
  refine ⟨d * p.1, ?_⟩
  have h0 := ne0 (show p.2 ≠ 0 by omega)
  unfold vl
  simp only [Rat.intCast_mul]
  generalize (p.1 : Rat) = x at *
  generalize (p.2 : Rat) = y at *
  generalize (d : Rat) = z at *
  grind
theorem pb_of {p : Int × Int} (h : Cn p) (h2 : p.2 ≤ 10 ^ 42) : PB p := by
  have h0 := h.1
  have h1 := h.2.1
  have : (10 : Int) ^ 42 ≤ L52 := by decide
  have l : 0 < L52 := by decide
  exact ⟨⟨by omega, by omega⟩, ⟨by omega, by omega⟩⟩
abbrev slD (c k : Bool) (p : Int × Int) : D := .tup [.bl c, .bl k, pD p]
end LB
set_option maxRecDepth 100000
set_option maxHeartbeats 4000000
namespace LB
open PySem PySem.Spec PyProof.Rows L2 DL
theorem rangeI (n : Nat) : rangeD 0 n = ((List.range n).map fun (i : Nat) => (i : Int)).map D.int := by
  unfold rangeD
  rw [List.map_map]
  refine List.map_congr_left fun i _ => ?_
  show D.int (0 + (i : Int)) = D.int (i : Int)
  rw [Int.zero_add]
theorem ixl0 (a : D) (l : List D) (g : Gs) : dIx (.lst (a :: l)) (.int 0) g = .ok a g := ixl (atl0 a l) g
theorem rg4 (g : Gs) : dRg1 [.int 4] g = .ok ([0, 1, 2, 3].map D.int) g := (rfl)
end LB
set_option maxRecDepth 100000
set_option maxHeartbeats 4000000
namespace LB
open PySem PySem.Spec PyProof.Rows L2 DL
structure Jar (g : Gs) (n : Nat) (B : Int) : Prop where
  at_ : ∃ a b c : Int, g[n]? = some (.lst [.int a, .int b, .int c]) ∧ 0 ≤ a ∧ 0 ≤ b ∧ b < 2147483587 ∧ 0 ≤ c ∧ c ≤ B
theorem Jar.mono {g : Gs} {n : Nat} {B B' : Int} (j : Jar g n B) (h : B ≤ B') : Jar g n B' := by
  obtain ⟨a, b, c, h1, h2, h3, h4, h5, h6⟩ := j.at_
  exact ⟨a, b, c, h1, h2, h3, h4, h5, by omega⟩
theorem ap_gsubC (fo fi : FE) (d : D) (ρ : DL.Env) (g : Gs) : gSubC fo fi d ρ g = match fo ρ g with
  | .ok o g1 => (match fi ρ g1 with
    | .ok (.int k) g2 => (match o with
      | .cell n => (match g2[n]? with
        | some (.lst ds) => (match ixN ds.length k with
          | some j => .ok ρ (g2.set n (.lst (ds.set j d)))
          | none => .bad)
        | _ => .bad)
      | _ => .bad)
    | _ => .bad)
  | _ => .bad := (rfl)
theorem ixc {g : Gs} {n : Nat} {ds : List D} {k : Int} {d : D} (h : g[n]? = some (.lst ds)) (e : atI ds k = some d) : dIx (.cell n) (.int k) g = .ok d g := by
  show (match g[n]? with | some (.lst ds) => (match atI ds k with | some d => Out.ok d g | none => .bad) | _ => .bad) = _
  rw [h]
  dsimp only
  rw [e]
theorem atc0 (a b c : D) : atI [a, b, c] 0 = some a := atI_nat (j := 0) rfl
theorem atc1 (a b c : D) : atI [a, b, c] 1 = some b := atI_nat (j := 1) rfl
theorem atc2 (a b c : D) : atI [a, b, c] 2 = some c := atI_nat (j := 2) rfl
theorem get_set {g : Gs} {n : Nat} {x y : CO} (h : g[n]? = some x) : (g.set n y)[n]? = some y := by
  obtain ⟨h1, _⟩ := List.getElem?_eq_some_iff.mp h
  rw [List.getElem?_set_self h1]
theorem divmod_ii {i j : Int} (h : 0 < j ∧ j < 1073741824) (g : Gs) : dDivmod [.int i, .int j] g = .ok (.tup [.int (i / j), .int (i % j)]) g := by
  show (if decide (CDiv i j) = true then Out.ok (D.tup [.int (i / j), .int (i % j)]) g else .bad) = _
  rw [if_pos (decide_eq_true (show CDiv i j from h))]
theorem ixN0 : ixN 3 0 = some 0 := by decide
theorem ixN1 : ixN 3 1 = some 1 := by decide
theorem ixN2 : ixN 3 2 = some 2 := by decide
instance decSm (i : Int) : Decidable (Sm i) := by unfold Sm; infer_instance
theorem sip_eq {g : Gs} {n : Nat} {B m : Int} (j : Jar g n B) (hB : B ≤ 10 ^ 40) (h0 : 0 < m) (h1 : m < 1073741824) : ∃ r g', phi__law_sip [.cell n, .int m] g = .ok (.int r) g' ∧ 0 ≤ r ∧ r < m ∧ Jar g' n (B + 1) := by
  obtain ⟨a, b, c, e, a0, b0, b1, c0, c1⟩ := j.at_
  unfold phi__law_sip
  by_cases ha : 0 < a
  · refine ⟨a % m, g.set n (.lst [.int (a / m), .int b, .int c]), ?_, Int.emod_nonneg _ (by omega), Int.emod_lt_of_pos _ h0, ⟨a / m, b, c, get_set e, Int.ediv_nonneg a0 (by omega), b0, b1, c0, by omega⟩⟩
    simp only [b__law_sip, ap_seq, ap_skip, ap_bad, ap_break, ap_cont, ap_if, ap_set, ap_par, ap_par3, ap_ret, ap_retN, ap_expr, ap_asg, ap_for, ap_var, ap_C, ap_f2, ap_f1, ap_nil, ap_cons, ap_tup, ap_lst, ap_cellL, ap_call, ap_fif, ap_bool, ap_tru, ap_and, ap_or, ap_not, ap_andV, ap_orV, ap_notV, ap_chain, ap_part, ap_nopart, ap_slice, ap_disp, ap_pnil, ap_pcons, ap_iter, ap_iterA, ap_lc, ap_gnam, ap_gtup, ap_glst, ap_gsnil, ap_gscons, ap_run, ap_yes, List.length_cons, List.length_nil, List.map_cons, List.map_nil, List.replicate_succ, List.replicate_zero, List.cons_append, List.nil_append, List.getElem?_cons_zero, List.getElem?_cons_succ, List.getElem?_nil, List.set_cons_zero, List.set_cons_succ, if_true, if_false, reduceIte, Nat.reduceAdd, Nat.reduceSub, Bool.false_eq_true, ap_gsubC, ixc e (atc0 _ _ _), dGt_ii, decide_eq_true ha, divmod_ii ⟨h0, h1⟩, e, ixN0]
  · have e1 : g[n]? = some (.lst [.int a, .int b, .int c]) := e
    have E1 := get_set (y := CO.lst [.int a, .int b, .int (c + 1)]) e
    have sb : Sm b := by unfold Sm; omega
    have sc : Sm (c + 1) := by unfold Sm; omega
    have s1 : Sm (41011 + 2 * (c + 1)) := by unfold Sm; omega
    have k1 : Sm 2 := by decide
    have k2 : Sm 4409 := by decide
    have k3 : Sm 38183 := by decide
    have k4 : Sm 5 := by decide
    generalize hs : (b * (41011 + 2 * (c + 1)) + 4409 * (c + 1) + 11) % 2147483587 = st
    have st0 : 0 ≤ st := by rw [← hs]; exact Int.emod_nonneg _ (by decide)
    have st1 : st < 2147483587 := by rw [← hs]; exact Int.emod_lt_of_pos _ (by decide)
    have ss : Sm st := by unfold Sm; omega
    generalize hb : (st * 38183 + 5 * (c + 1) + 3) % 2147483579 = b'
    have b0' : 0 ≤ b' := by rw [← hb]; exact Int.emod_nonneg _ (by decide)
    have b1' : b' < 2147483579 := by rw [← hb]; exact Int.emod_lt_of_pos _ (by decide)
    have E2 := get_set (y := CO.lst [.int a, .int b', .int (c + 1)]) E1
    refine ⟨(b' / 512) % m, (g.set n (.lst [.int a, .int b, .int (c + 1)])).set n (.lst [.int a, .int b', .int (c + 1)]), ?_, Int.emod_nonneg _ (by omega), Int.emod_lt_of_pos _ h0, ⟨a, b', c + 1, E2, a0, b0', by omega, by omega, by omega⟩⟩
    have m1 : ∀ x g, dMod (.int x) (.int 2147483587) g = .ok (.int (x % 2147483587)) g := fun x g => dMod_ii (by decide) g
    have m2 : ∀ x g, dMod (.int x) (.int 2147483579) g = .ok (.int (x % 2147483579)) g := fun x g => dMod_ii (by decide) g
    have f5 : ∀ x g, dFdiv (.int x) (.int 512) g = .ok (.int (x / 512)) g := fun x g => dFdiv_ii (by decide) (show Sm 512 by decide) g
    simp only [b__law_sip, ap_seq, ap_skip, ap_bad, ap_break, ap_cont, ap_if, ap_set, ap_par, ap_par3, ap_ret, ap_retN, ap_expr, ap_asg, ap_for, ap_var, ap_C, ap_f2, ap_f1, ap_nil, ap_cons, ap_tup, ap_lst, ap_cellL, ap_call, ap_fif, ap_bool, ap_tru, ap_and, ap_or, ap_not, ap_andV, ap_orV, ap_notV, ap_chain, ap_part, ap_nopart, ap_slice, ap_disp, ap_pnil, ap_pcons, ap_iter, ap_iterA, ap_lc, ap_gnam, ap_gtup, ap_glst, ap_gsnil, ap_gscons, ap_run, ap_yes, List.length_cons, List.length_nil, List.map_cons, List.map_nil, List.replicate_succ, List.replicate_zero, List.cons_append, List.nil_append, List.getElem?_cons_zero, List.getElem?_cons_succ, List.getElem?_nil, List.set_cons_zero, List.set_cons_succ, if_true, if_false, reduceIte, Nat.reduceAdd, Nat.reduceSub, Bool.false_eq_true, ap_gsubC, ixc e (atc0 _ _ _), ixc e (atc2 _ _ _), dGt_ii, decide_eq_false ha, dAdd_ii, e, ixN2, ixc E1 (atc1 _ _ _), ixc E1 (atc2 _ _ _), dMul_ii (okMul_sm k1 sc), dMul_ii (okMul_sm sb s1), dMul_ii (okMul_sm k2 sc), dInt_i, m1, hs,
      dMul_ii (okMul_sm ss k3), dMul_ii (okMul_sm k4 sc), m2, hb, E1, ixN1, ixc E2 (atc1 _ _ _), f5, dMod_ii h0]
theorem one_eq {g : Gs} {n : Nat} {B : Int} {l : List D} (j : Jar g n B) (hB : B ≤ 10 ^ 40) (h0 : 0 < l.length) (h1 : l.length < 1000) : ∃ d g', phi__law_one [.cell n, .lst l] g = .ok d g' ∧ d ∈ l ∧ Jar g' n (B + 1) := by
  obtain ⟨r, g', e, r0, r1, j'⟩ := sip_eq j hB (m := (l.length : Int)) (by omega) (by omega)
  obtain ⟨k, rfl⟩ : ∃ k : Nat, r = (k : Int) := ⟨r.toNat, by omega⟩
  have hk : k < l.length := by omega
  refine ⟨l[k], g', ?_, List.getElem_mem hk, j'⟩
  unfold phi__law_one
  have hi : atI l (k : Int) = some l[k] := atI_nat (List.getElem?_eq_getElem hk)
  simp only [b__law_one, ap_seq, ap_skip, ap_bad, ap_break, ap_cont, ap_if, ap_set, ap_par, ap_par3, ap_ret, ap_retN, ap_expr, ap_asg, ap_for, ap_var, ap_C, ap_f2, ap_f1, ap_nil, ap_cons, ap_tup, ap_lst, ap_cellL, ap_call, ap_fif, ap_bool, ap_tru, ap_and, ap_or, ap_not, ap_andV, ap_orV, ap_notV, ap_chain, ap_part, ap_nopart, ap_slice, ap_disp, ap_pnil, ap_pcons, ap_iter, ap_iterA, ap_lc, ap_gnam, ap_gtup, ap_glst, ap_gsnil, ap_gscons, ap_run, ap_yes, List.length_cons, List.length_nil, List.map_cons, List.map_nil, List.replicate_succ, List.replicate_zero, List.cons_append, List.nil_append, List.getElem?_cons_zero, List.getElem?_cons_succ, List.getElem?_nil, List.set_cons_zero, List.set_cons_succ, if_true, if_false, reduceIte, Nat.reduceAdd, Nat.reduceSub, Bool.false_eq_true, len_l, e, show dIx (.lst l) (.int (k : Int)) g' = .ok l[k] g' from by
    show (match atI l (k : Int) with | some d => Out.ok d g' | none => .bad) = _
    rw [hi]]
end LB
set_option maxRecDepth 100000
set_option maxHeartbeats 4000000
namespace LB
open PySem PySem.Spec PyProof.Rows L2 DL
abbrev wiM (M : Int) : FS := (sSet 2 (f2 dAdd (f2 dMul (fVar 2) (fC (.int M))) (fCall phi__law_sip (fCons (fVar 0) (fCons (fC (.int M)) fNil)))))
theorem wide_bodyM {n : Nat} {m f r M : Int} {d : D} {g g' : Gs} (h : phi__law_sip [.cell n, .int M] g = .ok (.int r) g') (hm : ∀ g, dMul (.int f) (.int M) g = .ok (.int (f * M)) g) :
    wiM M [some (.cell n), some (.int m), some (.int f), some d] g = .nx [some (.cell n), some (.int m), some (.int (f * M + r)), some d] g' := by
  simp only [wiM, ap_seq, ap_skip, ap_bad, ap_break, ap_cont, ap_if, ap_set, ap_par, ap_par3, ap_ret, ap_retN, ap_expr, ap_asg, ap_for, ap_var, ap_C, ap_f2, ap_f1, ap_nil, ap_cons, ap_tup, ap_lst, ap_cellL, ap_call, ap_fif, ap_bool, ap_tru, ap_and, ap_or, ap_not, ap_andV, ap_orV, ap_notV, ap_chain, ap_part, ap_nopart, ap_slice, ap_disp, ap_pnil, ap_pcons, ap_iter, ap_iterA, ap_lc, ap_gnam, ap_gtup, ap_glst, ap_gsnil, ap_gscons, ap_run, ap_yes, List.length_cons, List.length_nil, List.map_cons, List.map_nil, List.replicate_succ, List.replicate_zero, List.cons_append, List.nil_append, List.getElem?_cons_zero, List.getElem?_cons_succ, List.getElem?_nil, List.set_cons_zero, List.set_cons_succ, if_true, if_false, reduceIte, Nat.reduceAdd, Nat.reduceSub, Bool.false_eq_true, hm, h, dAdd_ii]
theorem wide_one {n : Nat} {m f r M : Int} {d : D} {ds : List D} {y : Option D} {g g' : Gs} (h : phi__law_sip [.cell n, .int M] g = .ok (.int r) g') (sf : Sm f) (k : Sm M) :
    forD (gNam 3) (wiM M) (d :: ds) [some (.cell n), some (.int m), some (.int f), y] g = forD (gNam 3) (wiM M) ds [some (.cell n), some (.int m), some (.int (f * M + r)), some d] g' := by
  have e := wide_bodyM (m := m) (d := d) h fun g => dMul_ii (okMul_sm sf k) g
  have e0 : gNam 3 d [some (.cell n), some (.int m), some (.int f), y] g = .ok [some (.cell n), some (.int m), some (.int f), some d] g := rfl
  rw [ap_for_cons, e0]
  dsimp only
  rw [e]
theorem rg6 (g : Gs) : dRg1 [.int 6] g = .ok [.int 0, .int 1, .int 2, .int 3, .int 4, .int 5] g := (rfl)
theorem sm_step {f r M X : Int} (f0 : 0 ≤ f) (f1 : f < X) (r0 : 0 ≤ r) (r1 : r < M) (hM : 0 < M) : 0 ≤ f * M + r ∧ f * M + r < X * M := by
  have h1 := Int.mul_nonneg f0 (show 0 ≤ M by omega)
  have h2 : (f + 1) * M ≤ X * M := Int.mul_le_mul_of_nonneg_right (by omega) (by omega)
  have h3 : (f + 1) * M = f * M + M := by grind
  omega
theorem wideM {g : Gs} {n : Nat} {B m M : Int} (j : Jar g n B) (hB : B ≤ 10 ^ 39) (m0 : 0 < M) (m1 : M < 1073741824) (k : Sm M) (kk : 1 * M * M * M * M * M < 10 ^ 199) (y : Option D) :
    ∃ f y' g', forD (gNam 3) (wiM M) [.int 0, .int 1, .int 2, .int 3, .int 4, .int 5] [some (.cell n), some (.int m), some (.int 0), y] g = .nx [some (.cell n), some (.int m), some (.int f), y'] g' ∧ Jar g' n (B + 6) := by
  obtain ⟨r1, g1, e1, a1, b1, j1⟩ := sip_eq j (by omega) m0 m1
  obtain ⟨r2, g2, e2, a2, b2, j2⟩ := sip_eq j1 (by omega) m0 m1
  obtain ⟨r3, g3, e3, a3, b3, j3⟩ := sip_eq j2 (by omega) m0 m1
  obtain ⟨r4, g4, e4, a4, b4, j4⟩ := sip_eq j3 (by omega) m0 m1
  obtain ⟨r5, g5, e5, a5, b5, j5⟩ := sip_eq j4 (by omega) m0 m1
  obtain ⟨r6, g6, e6, a6, b6, j6⟩ := sip_eq j5 (by omega) m0 m1
  have w1 := sm_step (f := 0) (X := 1) (by decide) (by decide) a1 b1 m0
  have w2 := sm_step w1.1 w1.2 a2 b2 m0
  have w3 := sm_step w2.1 w2.2 a3 b3 m0
  have w4 := sm_step w3.1 w3.2 a4 b4 m0
  have w5 := sm_step w4.1 w4.2 a5 b5 m0
  have up : ∀ z : Int, 0 ≤ z → z ≤ z * M := fun z hz => by
    have := Int.mul_le_mul_of_nonneg_left (show 1 ≤ M by omega) hz
    omega
  have p1 : 0 ≤ 1 * M := by omega
  have p2 : 0 ≤ 1 * M * M := Int.mul_nonneg p1 (by omega)
  have p3 : 0 ≤ 1 * M * M * M := Int.mul_nonneg p2 (by omega)
  have p4 : 0 ≤ 1 * M * M * M * M := Int.mul_nonneg p3 (by omega)
  have u1 := up _ p1
  have u2 := up _ p2
  have u3 := up _ p3
  have u4 := up _ p4
  have s0 : Sm 0 := by unfold Sm; decide
  have sm : ∀ x : Int, 0 ≤ x → x < 10 ^ 199 → Sm x := fun x h1 h2 => by unfold Sm; omega
  have s1 := sm _ w1.1 (Int.lt_trans w1.2 (Int.lt_of_le_of_lt (Int.le_trans u1 (Int.le_trans u2 (Int.le_trans u3 u4))) kk))
  have s2 := sm _ w2.1 (Int.lt_trans w2.2 (Int.lt_of_le_of_lt (Int.le_trans u2 (Int.le_trans u3 u4)) kk))
  have s3 := sm _ w3.1 (Int.lt_trans w3.2 (Int.lt_of_le_of_lt (Int.le_trans u3 u4) kk))
  have s4 := sm _ w4.1 (Int.lt_trans w4.2 (Int.lt_of_le_of_lt u4 kk))
  have s5 := sm _ w5.1 (Int.lt_trans w5.2 kk)
  refine ⟨(((((0 * M + r1) * M + r2) * M + r3) * M + r4) * M + r5) * M + r6, some (.int 5), g6, ?_, j6.mono (by omega)⟩
  rw [wide_one e1 s0 k, wide_one e2 s1 k, wide_one e3 s2 k, wide_one e4 s3 k, wide_one e5 s4 k, wide_one e6 s5 k, ap_for_nil]
theorem wide_outer {n : Nat} {m f : Int} {W : FS} {g g' : Gs} {y' : Option D} (m0 : 0 < m) (lp : forD (gNam 3) W [.int 0, .int 1, .int 2, .int 3, .int 4, .int 5] [some (.cell n), some (.int m), some (.int 0), none] g = .nx [some (.cell n), some (.int m), some (.int f), y'] g') :
    runDef 2 4 (sSeq (sSet 2 (fC (.int 0))) (sSeq (sFor (fIterA dRg1 (fCons (fC (.int 6)) fNil)) (gNam 3) W) (sRet (f2 dMod (fCall dInt (fCons (fVar 2) fNil)) (fVar 1))))) [.cell n, .int m] g = .ok (.int (f % m)) g' := by
  simp only [ap_seq, ap_skip, ap_bad, ap_break, ap_cont, ap_if, ap_set, ap_par, ap_par3, ap_ret, ap_retN, ap_expr, ap_asg, ap_for, ap_var, ap_C, ap_f2, ap_f1, ap_nil, ap_cons, ap_tup, ap_lst, ap_cellL, ap_call, ap_fif, ap_bool, ap_tru, ap_and, ap_or, ap_not, ap_andV, ap_orV, ap_notV, ap_chain, ap_part, ap_nopart, ap_slice, ap_disp, ap_pnil, ap_pcons, ap_iter, ap_iterA, ap_lc, ap_gnam, ap_gtup, ap_glst, ap_gsnil, ap_gscons, ap_run, ap_yes, List.length_cons, List.length_nil, List.map_cons, List.map_nil, List.replicate_succ, List.replicate_zero, List.cons_append, List.nil_append, List.getElem?_cons_zero, List.getElem?_cons_succ, List.getElem?_nil, List.set_cons_zero, List.set_cons_succ, if_true, if_false, reduceIte, Nat.reduceAdd, Nat.reduceSub, Bool.false_eq_true, rg6, lp, dInt_i, dMod_ii m0]
theorem wide_eq {g : Gs} {n : Nat} {B m : Int} (j : Jar g n B) (hB : B ≤ 10 ^ 39) (h0 : 0 < m) : ∃ r g', phi__law_wide [.cell n, .int m] g = .ok (.int r) g' ∧ 0 ≤ r ∧ r < m ∧ Jar g' n (B + 6) := by
  obtain ⟨f, y', g', e, j'⟩ := wideM (m := m) (M := 1000003) j hB (by decide) (by decide) (by unfold Sm; decide) (by decide) none
  exact ⟨f % m, g', wide_outer h0 e, Int.emod_nonneg _ (by omega), Int.emod_lt_of_pos _ h0, j'⟩
end LB
set_option maxRecDepth 100000
set_option maxHeartbeats 4000000
namespace LB
open PySem PySem.Spec PyProof.Rows L2 DL
theorem speeds_core {l h : Int} (l0 : 1 ≤ l) (lh : l < h) (h8 : h ≤ 8) : 1 ≤ l / (Int.gcd h l : Int) ∧ l / (Int.gcd h l : Int) < h / (Int.gcd h l : Int) ∧ h / (Int.gcd h l : Int) ≤ 8 ∧ Int.gcd (h / (Int.gcd h l : Int)) (l / (Int.gcd h l : Int)) = 1 := by
  have g0 := gcd_pos (a := h) (b := l) (by omega)
  have d1 : (Int.gcd h l : Int) ∣ h := Int.gcd_dvd_left ..
  have d2 : (Int.gcd h l : Int) ∣ l := Int.gcd_dvd_right ..
  have co : Int.gcd (h / (Int.gcd h l : Int)) (l / (Int.gcd h l : Int)) = 1 := Int.gcd_ediv_gcd_ediv_gcd (by omega)
  have e1 : h = (Int.gcd h l : Int) * (h / (Int.gcd h l : Int)) := (Int.mul_ediv_cancel' d1).symm
  have e2 : l = (Int.gcd h l : Int) * (l / (Int.gcd h l : Int)) := (Int.mul_ediv_cancel' d2).symm
  have hle := Int.ediv_le_self (Int.gcd h l : Int) (show 0 ≤ h by omega)
  generalize h / (Int.gcd h l : Int) = a at *
  generalize l / (Int.gcd h l : Int) = b at *
  generalize (Int.gcd h l : Int) = g at *
  refine ⟨?_, ?_, by omega, co⟩
  · have : 0 < g * b := by omega
    have := Int.pos_of_mul_pos_right this g0
    omega
  · have : g * b < g * a := by omega
    exact Int.lt_of_mul_lt_mul_left this (by omega)
theorem speeds_eq {g : Gs} {n : Nat} {B : Int} (j : Jar g n B) (hB : B ≤ 10 ^ 39) : ∃ l h g', phi__law_speeds [.cell n, .int 7] g = .ok (.lst [.int l, .int h]) g' ∧ 1 ≤ l ∧ l < h ∧ h ≤ 8 ∧ Int.gcd h l = 1 ∧ Jar g' n (B + 2) := by
  obtain ⟨r1, g1, e1, a1, b1, j1⟩ := sip_eq j (by omega) (m := 7) (by decide) (by decide)
  obtain ⟨r2, g2, e2, a2, b2, j2⟩ := sip_eq j1 (by omega) (m := 7) (by decide) (by decide)
  have okl : okSz 2 = true := okSz2
  have key : ∀ l h : Int, 1 ≤ l → l < h → h ≤ 8 → (∀ g, phi__law_shared [.int h, .int l] g = .ok (.int (Int.gcd h l)) g) ∧ (∀ i g, dFdiv (.int i) (.int (Int.gcd h l)) g = .ok (.int (i / (Int.gcd h l : Int))) g) := fun l h h1 h2 h3 => by
    have g0 := gcd_pos (a := h) (b := l) (by omega)
    have g1 := gcd_le (a := h) (b := l) (by omega)
    have l83 : (8 : Int) < line83 := by decide
    exact ⟨fun g => shared_eq (by omega) (by omega) (by omega) g, fun i g => dFdiv_ii g0 (by unfold Sm; omega) g⟩
  unfold phi__law_speeds
  by_cases c : 2 + r2 ≤ 1 + r1
  · have k := key (2 + r2 - 1) (1 + r1 + 1) (by omega) (by omega) (by omega)
    have s := speeds_core (l := 2 + r2 - 1) (h := 1 + r1 + 1) (by omega) (by omega) (by omega)
    refine ⟨_, _, g2, ?_, s.1, s.2.1, s.2.2.1, s.2.2.2, j2.mono (by omega)⟩
    simp only [b__law_speeds, ap_seq, ap_skip, ap_bad, ap_break, ap_cont, ap_if, ap_set, ap_par, ap_par3, ap_ret, ap_retN, ap_expr, ap_asg, ap_for, ap_var, ap_C, ap_f2, ap_f1, ap_nil, ap_cons, ap_tup, ap_lst, ap_cellL, ap_call, ap_fif, ap_bool, ap_tru, ap_and, ap_or, ap_not, ap_andV, ap_orV, ap_notV, ap_chain, ap_part, ap_nopart, ap_slice, ap_disp, ap_pnil, ap_pcons, ap_iter, ap_iterA, ap_lc, ap_gnam, ap_gtup, ap_glst, ap_gsnil, ap_gscons, ap_run, ap_yes, List.length_cons, List.length_nil, List.map_cons, List.map_nil, List.replicate_succ, List.replicate_zero, List.cons_append, List.nil_append, List.getElem?_cons_zero, List.getElem?_cons_succ, List.getElem?_nil, List.set_cons_zero, List.set_cons_succ, if_true, if_false, reduceIte, Nat.reduceAdd, Nat.reduceSub, Bool.false_eq_true, e1, e2, dAdd_ii, dSub_ii, dGe_ii, decide_eq_true c, k.1, k.2, dLst_ok, okl]
  · have k := key (1 + r1) (2 + r2) (by omega) (by omega) (by omega)
    have s := speeds_core (l := 1 + r1) (h := 2 + r2) (by omega) (by omega) (by omega)
    refine ⟨_, _, g2, ?_, s.1, s.2.1, s.2.2.1, s.2.2.2, j2.mono (by omega)⟩
    simp only [b__law_speeds, ap_seq, ap_skip, ap_bad, ap_break, ap_cont, ap_if, ap_set, ap_par, ap_par3, ap_ret, ap_retN, ap_expr, ap_asg, ap_for, ap_var, ap_C, ap_f2, ap_f1, ap_nil, ap_cons, ap_tup, ap_lst, ap_cellL, ap_call, ap_fif, ap_bool, ap_tru, ap_and, ap_or, ap_not, ap_andV, ap_orV, ap_notV, ap_chain, ap_part, ap_nopart, ap_slice, ap_disp, ap_pnil, ap_pcons, ap_iter, ap_iterA, ap_lc, ap_gnam, ap_gtup, ap_glst, ap_gsnil, ap_gscons, ap_run, ap_yes, List.length_cons, List.length_nil, List.map_cons, List.map_nil, List.replicate_succ, List.replicate_zero, List.cons_append, List.nil_append, List.getElem?_cons_zero, List.getElem?_cons_succ, List.getElem?_nil, List.set_cons_zero, List.set_cons_succ, if_true, if_false, reduceIte, Nat.reduceAdd, Nat.reduceSub, Bool.false_eq_true, e1, e2, dAdd_ii, dSub_ii, dGe_ii, decide_eq_false c, k.1, k.2, dLst_ok, okl]
end LB
set_option maxRecDepth 100000
set_option maxHeartbeats 4000000
namespace LB
open PySem PySem.Spec PyProof.Rows L2 DL
theorem gcd_by {b x y : Int} (hb : 0 < b) (h : Int.gcd x y = 1) : (Int.gcd (b * x) (b * y) : Int) = b := by
  rw [Int.gcd_mul_left, h, Nat.mul_one]
  omega
theorem div_by {b y : Int} (hb : 0 < b) : b * y / b = y := Int.mul_ediv_cancel_left _ (by omega)
/-- x: the wheel's part, y: the ring's part -/
structure Drawn (sd : Sd) (l h x y : Int) : Prop where
  l1 : 1 ≤ l
  lh : l < h
  h8 : h ≤ 8
  co : Int.gcd h l = 1
  cs : (sd = .i ∧ (x = l ∨ x = h - l) ∧ y = h) ∨ (sd = .o ∧ x = l ∧ y = h - l) ∨ (sd = .v ∧ x = h ∧ y = h - l)
theorem Drawn.bd {sd : Sd} {l h x y : Int} (d : Drawn sd l h x y) : 1 ≤ x ∧ x ≤ 8 ∧ 1 ≤ y ∧ y ≤ 8 := by
  have := d.l1; have := d.lh; have := d.h8
  rcases d.cs with ⟨_, e | e, e2⟩ | ⟨_, e, e2⟩ | ⟨_, e, e2⟩ <;> omega
theorem Drawn.cop {sd : Sd} {l h x y : Int} (d : Drawn sd l h x y) : Int.gcd y x = 1 := by
  have c := d.co
  rcases d.cs with ⟨_, e | e, e2⟩ | ⟨_, e, e2⟩ | ⟨_, e, e2⟩
  · rw [e, e2]; exact c
  · rw [e, e2]
    rw [Int.gcd_comm] at c
    exact gcd_shift c (.inr (.inr rfl))
  · rw [e, e2, Int.gcd_comm]
    exact gcd_shift c (.inl rfl)
  · rw [e, e2, Int.gcd_comm]
    rw [Int.gcd_comm] at c
    exact gcd_shift c (.inr (.inr rfl))
theorem Drawn.vd {sd : Sd} {l h x y b a t : Int} (d : Drawn sd l h x y) (hb : 1 ≤ b) (hb2 : b ≤ 10 ^ 27) (a0 : 0 ≤ a) (aB : a ≤ L30) (t0 : 0 ≤ t) (tB : t ≤ L30) : Vd ⟨sd, b * y, b * x, a, t⟩ ∧ (St5.mk sd (b * y) (b * x) a t).g = b ∧ (St5.mk sd (b * y) (b * x) a t).q = x := by
  have bd := d.bd
  have l30 := L30_eq
  have bx : b ≤ b * x := by have := Int.mul_le_mul_of_nonneg_left (show 1 ≤ x by omega) (show 0 ≤ b by omega); omega
  have by_ : b ≤ b * y := by have := Int.mul_le_mul_of_nonneg_left (show 1 ≤ y by omega) (show 0 ≤ b by omega); omega
  have bx2 : b * x ≤ b * 8 := Int.mul_le_mul_of_nonneg_left (by omega) (by omega)
  have by2 : b * y ≤ b * 8 := Int.mul_le_mul_of_nonneg_left (by omega) (by omega)
  have hg : (St5.mk sd (b * y) (b * x) a t).g = b := gcd_by (by omega) d.cop
  have hlt : ∀ u v : Int, u < v → b * u < b * v := fun u v h => Int.mul_lt_mul_of_pos_left h (by omega)
  have dl := d.lh
  have d1 := d.l1
  refine ⟨⟨by dsimp only; omega, by dsimp only; omega, a0, t0, by dsimp only; omega, by dsimp only; omega, aB, tB, fun e => ?_, fun e => ?_⟩, hg, ?_⟩
  · have e : sd = .i := e
    refine hlt _ _ ?_
    rcases d.cs with ⟨_, e' | e', e2⟩ | ⟨z, _⟩ | ⟨z, _⟩
    · omega
    · omega
    · rw [e] at z; cases z
    · rw [e] at z; cases z
  · have e : sd = .v := e
    refine hlt _ _ ?_
    rcases d.cs with ⟨z, _⟩ | ⟨z, _⟩ | ⟨_, e', e2⟩
    · rw [e] at z; cases z
    · rw [e] at z; cases z
    · omega
  · unfold St5.q
    rw [hg]
    exact div_by (by omega)
end LB
set_option maxRecDepth 100000
set_option maxHeartbeats 4000000
namespace LB
open PySem PySem.Spec PyProof.Rows L2 DL
abbrev sides4 : List D := [.str "in", .str "in", .str "out", .str "over"]
theorem sides_mem {d : D} (h : d ∈ sides4) : ∃ sd : Sd, d = .str sd.s := by
  simp only [sides4, List.mem_cons, List.not_mem_nil, or_false] at h
  rcases h with h | h | h | h
  · exact ⟨.i, h⟩
  · exact ⟨.i, h⟩
  · exact ⟨.o, h⟩
  · exact ⟨.v, h⟩
theorem pow30 (g : Gs) : dPow (.int 10) (.int 30) g = .ok (.int (10 ^ 30)) g := by
  show (match (if okPow 10 30 = true then some (D.int (10 ^ (30 : Int).toNat)) else none) with | some d => Out.ok d g | none => .bad) = _
  rw [if_pos (show okPow 10 30 = true by decide)]
  rfl
theorem okSz4 : okSz 4 = true := by decide
theorem okSz6 : okSz 6 = true := by decide
theorem okSz7 : okSz 7 = true := by decide
theorem add_ll {a b : List D} (h : okSz (a.length + b.length) = true) (g : Gs) : dAdd (.lst a) (.lst b) g = .ok (.lst (a ++ b)) g := by
  unfold dAdd
  simp [h]
end LB
set_option maxRecDepth 100000
set_option maxHeartbeats 4000000
namespace LB
open PySem PySem.Spec PyProof.Rows L2 DL
abbrev setA : FS := (sIf (fBool (f2 dEq (fVar 3) (fC (.str "in")))) (sSeq (sSet 6 (f2 dMul (fVar 2) (fCall phi__law_one (fCons (fVar 0) (fCons (fLst (fCons (fVar 4) (fCons (f2 dSub (fVar 5) (fVar 4)) fNil))) fNil)))))
  (sSet 7 (f2 dMul (fVar 2) (fVar 5)))) (sPar 6 7 (fCons (f2 dMul (fVar 2) (fIf (fBool (f2 dEq (fVar 3) (fC (.str "out")))) (fVar 4) (fVar 5))) (fCons (f2 dMul (fVar 2) (f2 dSub (fVar 5) (fVar 4))) fNil))))
theorem setA_eq {g : Gs} {n : Nat} {B b l h : Int} {sd : Sd} {y1 y8 y9 y10 y11 : Option D} (j : Jar g n B) (hB : B ≤ 10 ^ 39) (hb : 1 ≤ b) (hb2 : b ≤ 10 ^ 27) (l1 : 1 ≤ l) (lh : l < h) (h8 : h ≤ 8) (co : Int.gcd h l = 1) :
    ∃ x y g', setA [some (.cell n), y1, some (.int b), some (.str sd.s), some (.int l), some (.int h), none, none, y8, y9, y10, y11] g = .nx [some (.cell n), y1, some (.int b), some (.str sd.s), some (.int l), some (.int h), some (.int (b * x)), some (.int (b * y)), y8, y9, y10, y11] g' ∧ Drawn sd l h x y ∧ Jar g' n (B + 1) := by
  have sb : Sm b := by unfold Sm; omega
  have hm : ∀ i : Int, -100 ≤ i → i ≤ 100 → ∀ g, dMul (.int b) (.int i) g = .ok (.int (b * i)) g := fun i i0 i1 g => dMul_ii (okMul_sm sb (by unfold Sm; omega)) g
  cases sd
  · obtain ⟨d, g', e, hd, j'⟩ := one_eq j (by omega) (l := [.int l, .int (h - l)]) (by simp) (by simp)
    have hd2 : ∃ x, d = .int x ∧ (x = l ∨ x = h - l) := by
      simp only [List.mem_cons, List.not_mem_nil, or_false] at hd
      rcases hd with hd | hd
      · exact ⟨l, hd, .inl rfl⟩
      · exact ⟨h - l, hd, .inr rfl⟩
    obtain ⟨x, rfl, hx⟩ := hd2
    refine ⟨x, h, g', ?_, ⟨l1, lh, h8, co, .inl ⟨rfl, hx, rfl⟩⟩, j'⟩
    simp only [setA, ap_seq, ap_skip, ap_bad, ap_break, ap_cont, ap_if, ap_set, ap_par, ap_par3, ap_ret, ap_retN, ap_expr, ap_asg, ap_for, ap_var, ap_C, ap_f2, ap_f1, ap_nil, ap_cons, ap_tup, ap_lst, ap_cellL, ap_call, ap_fif, ap_bool, ap_tru, ap_and, ap_or, ap_not, ap_andV, ap_orV, ap_notV, ap_chain, ap_part, ap_nopart, ap_slice, ap_disp, ap_pnil, ap_pcons, ap_iter, ap_iterA, ap_lc, ap_gnam, ap_gtup, ap_glst, ap_gsnil, ap_gscons, ap_run, ap_yes, List.length_cons, List.length_nil, List.map_cons, List.map_nil, List.replicate_succ, List.replicate_zero, List.cons_append, List.nil_append, List.getElem?_cons_zero, List.getElem?_cons_succ, List.getElem?_nil, List.set_cons_zero, List.set_cons_succ, if_true, if_false, reduceIte, Nat.reduceAdd, Nat.reduceSub, Bool.false_eq_true, dEq_sin, decide_true, dSub_ii, dLst_ok, okSz2, e, hm x (by omega) (by omega), hm h (by omega) (by omega)]
  · refine ⟨l, h - l, g, ?_, ⟨l1, lh, h8, co, .inr (.inl ⟨rfl, rfl, rfl⟩)⟩, j.mono (by omega)⟩
    simp only [setA, ap_seq, ap_skip, ap_bad, ap_break, ap_cont, ap_if, ap_set, ap_par, ap_par3, ap_ret, ap_retN, ap_expr, ap_asg, ap_for, ap_var, ap_C, ap_f2, ap_f1, ap_nil, ap_cons, ap_tup, ap_lst, ap_cellL, ap_call, ap_fif, ap_bool, ap_tru, ap_and, ap_or, ap_not, ap_andV, ap_orV, ap_notV, ap_chain, ap_part, ap_nopart, ap_slice, ap_disp, ap_pnil, ap_pcons, ap_iter, ap_iterA, ap_lc, ap_gnam, ap_gtup, ap_glst, ap_gsnil, ap_gscons, ap_run, ap_yes, List.length_cons, List.length_nil, List.map_cons, List.map_nil, List.replicate_succ, List.replicate_zero, List.cons_append, List.nil_append, List.getElem?_cons_zero, List.getElem?_cons_succ, List.getElem?_nil, List.set_cons_zero, List.set_cons_succ, if_true, if_false, reduceIte, Nat.reduceAdd, Nat.reduceSub, Bool.false_eq_true, dEq_sin, dEq_sout, decide_true, decide_false, reduceCtorEq, dSub_ii, hm l (by omega) (by omega), hm (h - l) (by omega) (by omega)]
  · refine ⟨h, h - l, g, ?_, ⟨l1, lh, h8, co, .inr (.inr ⟨rfl, rfl, rfl⟩)⟩, j.mono (by omega)⟩
    simp only [setA, ap_seq, ap_skip, ap_bad, ap_break, ap_cont, ap_if, ap_set, ap_par, ap_par3, ap_ret, ap_retN, ap_expr, ap_asg, ap_for, ap_var, ap_C, ap_f2, ap_f1, ap_nil, ap_cons, ap_tup, ap_lst, ap_cellL, ap_call, ap_fif, ap_bool, ap_tru, ap_and, ap_or, ap_not, ap_andV, ap_orV, ap_notV, ap_chain, ap_part, ap_nopart, ap_slice, ap_disp, ap_pnil, ap_pcons, ap_iter, ap_iterA, ap_lc, ap_gnam, ap_gtup, ap_glst, ap_gsnil, ap_gscons, ap_run, ap_yes, List.length_cons, List.length_nil, List.map_cons, List.map_nil, List.replicate_succ, List.replicate_zero, List.cons_append, List.nil_append, List.getElem?_cons_zero, List.getElem?_cons_succ, List.getElem?_nil, List.set_cons_zero, List.set_cons_succ, if_true, if_false, reduceIte, Nat.reduceAdd, Nat.reduceSub, Bool.false_eq_true, dEq_sin, dEq_sout, decide_true, decide_false, reduceCtorEq, dSub_ii, hm h (by omega) (by omega), hm (h - l) (by omega) (by omega)]
end LB
set_option maxRecDepth 100000
set_option maxHeartbeats 4000000
namespace LB
open PySem PySem.Spec PyProof.Rows L2 DL
abbrev setW (W : FS) : FS := (sSeq (sPar 2 3 (fCons (f2 dAdd (fC (.int 1)) (fCall phi__law_wide (fCons (fVar 0) (fCons (fVar 1) fNil)))) (fCons (fCall phi__law_one (fCons (fVar 0) (fCons (fLst (fCons (fC (.str "in")) (fCons (fC (.str "in")) (fCons (fC (.str "out")) (fCons (fC (.str "over")) fNil))))) fNil))) fNil)))
  (sSeq (sAsg (fCall phi__law_speeds (fCons (fVar 0) (fCons (fC (.int 7)) fNil))) (DL.gLst 2 (gsCons (gNam 4) (gsCons (gNam 5) gsNil))))
  (sSeq W
  (sSeq (sSet 8 (f2 dFdiv (fVar 6) (fVar 2)))
  (sSeq (sSet 9 (fLst (fCons (fVar 6) (fCons (fVar 8) (fCons (f2 dMul (fVar 8) (f2 dAdd (fC (.int 1)) (fCall phi__law_sip (fCons (fVar 0) (fCons (fC (.int 9)) fNil))))) (fCons (fCall phi__law_sip (fCons (fVar 0) (fCons (fC (.int 12)) fNil))) (fCons (fC (.int 0)) (fCons (f2 dMul (fVar 8) (fVar 2)) fNil))))))))
  (sSeq (sSet 10 (fCall phi__law_one (fCons (fVar 0) (fCons (f2 dAdd (fVar 9) (fLst (fCons (f2 dAdd (fC (.int 1)) (fCall phi__law_wide (fCons (fVar 0) (fCons (fVar 1) fNil)))) fNil))) fNil))))
  (sSeq (sIf (fAnd (fBool (f2 dEq (fVar 3) (fC (.str "in")))) (fAnd (fBool (f2 dEq (fVar 7) (f2 dMul (fC (.int 2)) (fVar 6)))) (fBool (f2 dEq (fVar 10) (fVar 6))))) (sSet 10 (f2 dAdd (fVar 10) (fC (.int 1)))) sSkip)
  (sSeq (sSet 11 (fCall phi__law_one (fCons (fVar 0) (fCons (fLst (fCons (fC (.int 0)) (fCons (fC (.int 1)) (fCons (fCall phi__law_sip (fCons (fVar 0) (fCons (fC (.int 40)) fNil))) (fCons (fCall phi__law_wide (fCons (fVar 0) (fCons (fVar 7) fNil))) (fCons (fVar 2) (fCons (f2 dSub (f2 dPow (fC (.int 10)) (fC (.int 30))) (fCall phi__law_sip (fCons (fVar 0) (fCons (fC (.int 9)) fNil)))) fNil))))))) fNil))))
  (sRet (fTup (fCons (fVar 3) (fCons (fVar 7) (fCons (fVar 6) (fCons (fVar 10) (fCons (fVar 11) fNil)))))))))))))))
theorem set_is : b__law_set = setW setA := rfl
theorem ints_mem {d : D} {l : List Int} (h : d ∈ l.map D.int) : ∃ i ∈ l, d = .int i := by
  obtain ⟨i, h1, h2⟩ := List.mem_map.mp h
  exact ⟨i, h1, h2.symm⟩
end LB
set_option maxRecDepth 100000
set_option maxHeartbeats 4000000
namespace LB
open PySem PySem.Spec PyProof.Rows L2 DL
theorem set_run {W : FS} {n : Nat} {M b r9 r12 rw a0 a r40 rW q9 t w R x : Int} {l h : Int} {sd : Sd} {g g1 g2 g3 g4 g5 g6 g7 g8 g9 g10 g11 g12 : Gs} (hb : 1 ≤ b) (sb : Sm b)
    (e1 : phi__law_wide [.cell n, .int M] g = .ok (.int (b - 1)) g1) (e2 : phi__law_one [.cell n, .lst sides4] g1 = .ok (.str sd.s) g2) (e3 : phi__law_speeds [.cell n, .int 7] g2 = .ok (.lst [.int l, .int h]) g3)
    (e4 : W [some (.cell n), some (.int M), some (.int (1 + (b - 1))), some (.str sd.s), some (.int l), some (.int h), none, none, none, none, none, none] g3 = .nx [some (.cell n), some (.int M), some (.int b), some (.str sd.s), some (.int l), some (.int h), some (.int w), some (.int R), none, none, none, none] g4)
    (hx : w / b = x) (e5 : phi__law_sip [.cell n, .int 9] g4 = .ok (.int r9) g5) (e6 : phi__law_sip [.cell n, .int 12] g5 = .ok (.int r12) g6) (e7 : phi__law_wide [.cell n, .int M] g6 = .ok (.int rw) g7)
    (hm1 : ∀ g, dMul (.int x) (.int (1 + r9)) g = .ok (.int (x * (1 + r9))) g) (hm2 : ∀ g, dMul (.int x) (.int b) g = .ok (.int (x * b)) g) (hm3 : ∀ g, dMul (.int 2) (.int w) g = .ok (.int (2 * w)) g)
    (e8 : phi__law_one [.cell n, .lst [.int w, .int x, .int (x * (1 + r9)), .int r12, .int 0, .int (x * b), .int (1 + rw)]] g7 = .ok (.int a0) g8)
    (ha : a = if sd = .i ∧ R = 2 * w ∧ a0 = w then a0 + 1 else a0)
    (e9 : phi__law_sip [.cell n, .int 40] g8 = .ok (.int r40) g9) (e10 : phi__law_wide [.cell n, .int R] g9 = .ok (.int rW) g10) (e11 : phi__law_sip [.cell n, .int 9] g10 = .ok (.int q9) g11)
    (e12 : phi__law_one [.cell n, .lst [.int 0, .int 1, .int r40, .int rW, .int b, .int (10 ^ 30 - q9)]] g11 = .ok (.int t) g12) :
    runDef 2 12 (setW W) [.cell n, .int M] g = .ok (stD ⟨sd, R, w, a, t⟩) g12 := by
  have hd : ∀ g, dFdiv (.int w) (.int b) g = .ok (.int x) g := fun g => by rw [dFdiv_ii (by omega) sb, hx]
  by_cases c1 : sd = .i
  · by_cases c2 : R = 2 * w
    · by_cases c3 : a0 = w
      · rw [if_pos ⟨c1, c2, c3⟩] at ha
        subst ha
        simp only [setW, ap_seq, ap_skip, ap_bad, ap_break, ap_cont, ap_if, ap_set, ap_par, ap_par3, ap_ret, ap_retN, ap_expr, ap_asg, ap_for, ap_var, ap_C, ap_f2, ap_f1, ap_nil, ap_cons, ap_tup, ap_lst, ap_cellL, ap_call, ap_fif, ap_bool, ap_tru, ap_and, ap_or, ap_not, ap_andV, ap_orV, ap_notV, ap_chain, ap_part, ap_nopart, ap_slice, ap_disp, ap_pnil, ap_pcons, ap_iter, ap_iterA, ap_lc, ap_gnam, ap_gtup, ap_glst, ap_gsnil, ap_gscons, ap_run, ap_yes, List.length_cons, List.length_nil, List.map_cons, List.map_nil, List.replicate_succ, List.replicate_zero, List.cons_append, List.nil_append, List.getElem?_cons_zero, List.getElem?_cons_succ, List.getElem?_nil, List.set_cons_zero, List.set_cons_succ, if_true, if_false, reduceIte, Nat.reduceAdd, Nat.reduceSub, Bool.false_eq_true, e1, e2, e3, e4, hd, e5, e6, e7, hm1, hm2, hm3, e8, e9, e10, e11, e12, dAdd_ii, dSub_ii, dEq_sin, dEq_ii, pow30, dLst_ok, dTup_ok, okSz1, okSz4, okSz5, okSz6, add_ll, okSz7, decide_eq_true c1, decide_eq_true c2, decide_eq_true c3]
      · rw [if_neg (fun z => c3 z.2.2)] at ha
        subst ha
        simp only [setW, ap_seq, ap_skip, ap_bad, ap_break, ap_cont, ap_if, ap_set, ap_par, ap_par3, ap_ret, ap_retN, ap_expr, ap_asg, ap_for, ap_var, ap_C, ap_f2, ap_f1, ap_nil, ap_cons, ap_tup, ap_lst, ap_cellL, ap_call, ap_fif, ap_bool, ap_tru, ap_and, ap_or, ap_not, ap_andV, ap_orV, ap_notV, ap_chain, ap_part, ap_nopart, ap_slice, ap_disp, ap_pnil, ap_pcons, ap_iter, ap_iterA, ap_lc, ap_gnam, ap_gtup, ap_glst, ap_gsnil, ap_gscons, ap_run, ap_yes, List.length_cons, List.length_nil, List.map_cons, List.map_nil, List.replicate_succ, List.replicate_zero, List.cons_append, List.nil_append, List.getElem?_cons_zero, List.getElem?_cons_succ, List.getElem?_nil, List.set_cons_zero, List.set_cons_succ, if_true, if_false, reduceIte, Nat.reduceAdd, Nat.reduceSub, Bool.false_eq_true, e1, e2, e3, e4, hd, e5, e6, e7, hm1, hm2, hm3, e8, e9, e10, e11, e12, dAdd_ii, dSub_ii, dEq_sin, dEq_ii, pow30, dLst_ok, dTup_ok, okSz1, okSz4, okSz5, okSz6, add_ll, okSz7, decide_eq_true c1, decide_eq_true c2, decide_eq_false c3]
    · rw [if_neg (fun z => c2 z.2.1)] at ha
      subst ha
      simp only [setW, ap_seq, ap_skip, ap_bad, ap_break, ap_cont, ap_if, ap_set, ap_par, ap_par3, ap_ret, ap_retN, ap_expr, ap_asg, ap_for, ap_var, ap_C, ap_f2, ap_f1, ap_nil, ap_cons, ap_tup, ap_lst, ap_cellL, ap_call, ap_fif, ap_bool, ap_tru, ap_and, ap_or, ap_not, ap_andV, ap_orV, ap_notV, ap_chain, ap_part, ap_nopart, ap_slice, ap_disp, ap_pnil, ap_pcons, ap_iter, ap_iterA, ap_lc, ap_gnam, ap_gtup, ap_glst, ap_gsnil, ap_gscons, ap_run, ap_yes, List.length_cons, List.length_nil, List.map_cons, List.map_nil, List.replicate_succ, List.replicate_zero, List.cons_append, List.nil_append, List.getElem?_cons_zero, List.getElem?_cons_succ, List.getElem?_nil, List.set_cons_zero, List.set_cons_succ, if_true, if_false, reduceIte, Nat.reduceAdd, Nat.reduceSub, Bool.false_eq_true, e1, e2, e3, e4, hd, e5, e6, e7, hm1, hm2, hm3, e8, e9, e10, e11, e12, dAdd_ii, dSub_ii, dEq_sin, dEq_ii, pow30, dLst_ok, dTup_ok, okSz1, okSz4, okSz5, okSz6, add_ll, okSz7, decide_eq_true c1, decide_eq_false c2]
  · rw [if_neg (fun z => c1 z.1)] at ha
    subst ha
    simp only [setW, ap_seq, ap_skip, ap_bad, ap_break, ap_cont, ap_if, ap_set, ap_par, ap_par3, ap_ret, ap_retN, ap_expr, ap_asg, ap_for, ap_var, ap_C, ap_f2, ap_f1, ap_nil, ap_cons, ap_tup, ap_lst, ap_cellL, ap_call, ap_fif, ap_bool, ap_tru, ap_and, ap_or, ap_not, ap_andV, ap_orV, ap_notV, ap_chain, ap_part, ap_nopart, ap_slice, ap_disp, ap_pnil, ap_pcons, ap_iter, ap_iterA, ap_lc, ap_gnam, ap_gtup, ap_glst, ap_gsnil, ap_gscons, ap_run, ap_yes, List.length_cons, List.length_nil, List.map_cons, List.map_nil, List.replicate_succ, List.replicate_zero, List.cons_append, List.nil_append, List.getElem?_cons_zero, List.getElem?_cons_succ, List.getElem?_nil, List.set_cons_zero, List.set_cons_succ, if_true, if_false, reduceIte, Nat.reduceAdd, Nat.reduceSub, Bool.false_eq_true, e1, e2, e3, e4, hd, e5, e6, e7, hm1, hm2, hm3, e8, e9, e10, e11, e12, dAdd_ii, dSub_ii, dEq_sin, dEq_ii, pow30, dLst_ok, dTup_ok, okSz1, okSz4, okSz5, okSz6, add_ll, okSz7, decide_eq_false c1]
end LB
set_option maxRecDepth 100000
set_option maxHeartbeats 4000000
namespace LB
open PySem PySem.Spec PyProof.Rows L2 DL
theorem set_eq {g : Gs} {n : Nat} {B M : Int} (j : Jar g n B) (hB : B ≤ 10 ^ 38) (m0 : 0 < M) (mB : M ≤ 10 ^ 27) :
    ∃ s g', phi__law_set [.cell n, .int M] g = .ok (stD s) g' ∧ Vd s ∧ s.stroke = false ∧ s.v1 ≤ 8 ∧ s.R ≤ 8 * M ∧ s.a ≤ 10 ^ 29 ∧ Jar g' n (B + 40) := by
  obtain ⟨r, g1, e1, r0, r1, j1⟩ := wide_eq j (by omega) m0
  obtain ⟨d, g2, e2, hd, j2⟩ := one_eq j1 (by omega) (l := sides4) (by simp) (by simp)
  obtain ⟨sd, rfl⟩ := sides_mem hd
  obtain ⟨l, h, g3, e3, l1, lh, h8, co, j3⟩ := speeds_eq j2 (by omega)
  obtain ⟨b, rfl⟩ : ∃ b, r = b - 1 := ⟨r + 1, by omega⟩
  have hb : 1 ≤ b := by omega
  have hb2 : b ≤ 10 ^ 27 := by omega
  obtain ⟨x, y, g4, e4, dr, j4⟩ := setA_eq (b := b) (sd := sd) (y1 := some (.int M)) (y8 := none) (y9 := none) (y10 := none) (y11 := none) j3 (by omega) hb hb2 l1 lh h8 co
  have bd := dr.bd
  have sb : Sm b := by unfold Sm; omega
  have hw := Int.mul_le_mul_of_nonneg_left (show x ≤ 8 by omega) (show 0 ≤ b by omega)
  have hw0 := Int.mul_pos (show 0 < b by omega) (show 0 < x by omega)
  have hR := Int.mul_le_mul_of_nonneg_left (show y ≤ 8 by omega) (show 0 ≤ b by omega)
  have hR0 := Int.mul_pos (show 0 < b by omega) (show 0 < y by omega)
  obtain ⟨r9, g5, e5, r90, r91, j5⟩ := sip_eq j4 (by omega) (m := 9) (by decide) (by decide)
  obtain ⟨r12, g6, e6, r120, r121, j6⟩ := sip_eq j5 (by omega) (m := 12) (by decide) (by decide)
  obtain ⟨rw_, g7, e7, rw0, rw1, j7⟩ := wide_eq j6 (by omega) m0
  have sx : Sm x := by unfold Sm; omega
  have h9 := Int.mul_le_mul_of_nonneg_left (show 1 + r9 ≤ 9 by omega) (show 0 ≤ x by omega)
  have h90 := Int.mul_nonneg (show 0 ≤ x by omega) (show 0 ≤ 1 + r9 by omega)
  have hxb : x * b = b * x := Int.mul_comm _ _
  obtain ⟨d8, g8, e8, hd8, j8⟩ := one_eq j7 (by omega) (l := [b * x, x, x * (1 + r9), r12, 0, x * b, 1 + rw_].map D.int) (by simp) (by simp)
  obtain ⟨a0, ha0, rfl⟩ := ints_mem hd8
  have a0B : 0 ≤ a0 ∧ a0 ≤ 10 ^ 28 := by
    simp only [List.mem_cons, List.not_mem_nil, or_false] at ha0
    rcases ha0 with q | q | q | q | q | q | q <;> omega
  obtain ⟨r40, g9, e9, r400, r401, j9⟩ := sip_eq j8 (by omega) (m := 40) (by decide) (by decide)
  obtain ⟨rW, g10, e10, rW0, rW1, j10⟩ := wide_eq j9 (by omega) hR0
  obtain ⟨q9, g11, e11, q90, q91, j11⟩ := sip_eq j10 (by omega) (m := 9) (by decide) (by decide)
  obtain ⟨d12, g12, e12, hd12, j12⟩ := one_eq j11 (by omega) (l := [0, 1, r40, rW, b, 10 ^ 30 - q9].map D.int) (by simp) (by simp)
  obtain ⟨t, ht, rfl⟩ := ints_mem hd12
  have tB : 0 ≤ t ∧ t ≤ 10 ^ 30 := by
    simp only [List.mem_cons, List.not_mem_nil, or_false] at ht
    rcases ht with q | q | q | q | q | q <;> omega
  have e4' : setA [some (.cell n), some (.int M), some (.int (1 + (b - 1))), some (.str sd.s), some (.int l), some (.int h), none, none, none, none, none, none] g3 = .nx [some (.cell n), some (.int M), some (.int b), some (.str sd.s), some (.int l), some (.int h), some (.int (b * x)), some (.int (b * y)), none, none, none, none] g4 := by
    rw [show 1 + (b - 1) = b by omega]; exact e4
  have run := set_run (W := setA) (a := if sd = .i ∧ b * y = 2 * (b * x) ∧ a0 = b * x then a0 + 1 else a0) hb sb e1 e2 e3 e4' (div_by (by omega)) e5 e6 e7 (fun g => dMul_ii (okMul_sm sx (by unfold Sm; omega)) g) (fun g => dMul_ii (okMul_sm sx sb) g)
    (fun g => dMul_ii (okMul_sm (show Sm 2 by decide) (by unfold Sm; omega)) g) e8 rfl e9 e10 e11 e12
  have l30 : L30 = 10 ^ 30 := rfl
  have aB : 0 ≤ (if sd = .i ∧ b * y = 2 * (b * x) ∧ a0 = b * x then a0 + 1 else a0) ∧ (if sd = .i ∧ b * y = 2 * (b * x) ∧ a0 = b * x then a0 + 1 else a0) ≤ 10 ^ 29 := by split <;> omega
  have V := dr.vd (b := b) (t := t) hb hb2 aB.1 (by rw [l30]; omega) tB.1 (by rw [l30]; omega)
  refine ⟨⟨sd, b * y, b * x, _, t⟩, g12, ?_, V.1, ?_, ?_, ?_, aB.2, j12.mono (by omega)⟩
  · unfold phi__law_set
    rw [set_is]
    exact run
  · unfold St5.stroke
    dsimp only
    by_cases c : sd = .i ∧ b * y = 2 * (b * x) ∧ a0 = b * x
    · rw [if_pos c, decide_eq_false (show ¬ a0 + 1 = b * x by omega), Bool.and_false, Bool.and_false]
    · rw [if_neg c]
      by_cases c1 : sd = .i
      · by_cases c2 : b * y = 2 * (b * x)
        · rw [decide_eq_false (fun z => c ⟨c1, c2, z⟩), Bool.and_false, Bool.and_false]
        · rw [decide_eq_false c2, Bool.false_and, Bool.and_false]
      · rw [decide_eq_false c1, Bool.false_and]
  · unfold St5.v1
    rw [V.2.2]
    split <;> omega
  · show b * y ≤ 8 * M
    omega
end LB
set_option maxRecDepth 100000
set_option maxHeartbeats 400000
namespace LB
open PySem PySem.Spec PyProof.Rows L2 DL
theorem shp_b (b : Bool) : SeqAt.shaped (.bool b) = true := by simp [SeqAt.shaped, PyData.canLay0, PyData.depth]
theorem dNe_bb (a b : Bool) (g : Gs) : dNe (.bl a) (.bl b) g = .ok (.bl (a != b)) g := by
  rw [dNe_of (x := .bl a) (y := .bl b) (p := .bool a) (q := .bool b) rfl rfl (shp_b a) (shp_b b)]
  simp only [PyData.eqv]
  cases a <;> cases b <;> rfl
theorem shp_nil : SeqAt.shaped (.tuple []) = true := by simp [SeqAt.shaped, PyData.canLay0, PyData.canLayAll0, PyData.depth, PyData.depthAll]
theorem dNe_00 (g : Gs) : dNe (.tup []) (.tup []) g = .ok (.bl false) g := by
  rw [dNe_of (x := .tup []) (y := .tup []) (p := .tuple []) (q := .tuple []) rfl rfl shp_nil shp_nil]
  simp [PyData.eqv, PyData.eqvAll]
end LB
set_option maxRecDepth 100000
set_option maxHeartbeats 4000000
namespace LB
open PySem PySem.Spec PyProof.Rows L2 DL
def St5.more (s : St5) : Int := s.a / s.q
def St5.isTwin (s : St5) : Prop := s.a ≠ 0 ∧ s.a % s.q = 0 ∧ (s.t * s.more) % s.g = 0
def St5.tt (s : St5) : Int := (s.t * s.more / s.g) % s.more
def St5.twin (s : St5) : St5 := match s.sd with
  | .i => ⟨.i, s.more * (s.q + s.m), s.more * s.m, s.mid, s.tt⟩
  | .o => ⟨.v, s.more * (s.m - s.q), s.more * s.m, s.mid, s.tt⟩
  | .v => ⟨.o, s.more * (s.q - s.m), s.more * s.m, s.mid, s.tt⟩
theorem twin_no {s : St5} (h : Vd s) (hn : ¬ s.isTwin) (g : Gs) : phi__law_twin [stD s] g = .ok (.tup []) g := by
  have r1 := h.r1; have w1 := h.w1; have a0 := h.a0; have t0 := h.t0; have rB := h.rB; have wB := h.wB; have aB := h.aB; have tB := h.tB
  have g1 := h.g1; have gR := h.gR; have mp := h.midp; have qB := h.qB; have mB := h.mB
  have l30 : 2 * L30 < line83 := by decide
  have l0 := L30_eq
  obtain ⟨r, F⟩ := fct h
  have qp := F.qp
  have hc : ∀ g : Gs, phi__law_shared [.int s.R, .int s.w] g = .ok (.int s.g) g := shared_eq (show 0 ≤ s.R by omega) (show 0 ≤ s.w by omega) (show s.w < line83 by omega)
  have hd := fun (i : Int) => dFdiv_ii (i := i) g1 (sm30 (i := s.g) (by omega) (by omega))
  have hq : ∀ g : Gs, dFdiv (.int s.w) (.int s.g) g = .ok (.int s.q) g := fun g => hd s.w g
  have hm : ∀ g : Gs, dFdiv (.int s.mid) (.int s.g) g = .ok (.int s.m) g := fun g => hd s.mid g
  have hmore : ∀ g : Gs, dFdiv (.int s.a) (.int s.q) g = .ok (.int s.more) g := fun g => dFdiv_ii qp (sm30 (by omega) (by omega)) g
  have mo0 : 0 ≤ s.more := Int.ediv_nonneg a0 (by omega)
  have mo1 : s.more ≤ s.a := Int.ediv_le_self _ a0
  have htm : ∀ g : Gs, dMul (.int s.t) (.int s.more) g = .ok (.int (s.t * s.more)) g := fun g => dMul_ii (okMul_sm (sm30 (by omega) (by omega)) (sm30 (by omega) (by omega))) g
  have emid : s.sd.pick (D.int (s.R - s.w)) (D.int (s.R + s.w)) (D.int (s.w - s.R)) = D.int s.mid := by
    unfold St5.mid Sd.pick
    cases s.sd <;> rfl
  have dm := fun (i : Int) (g : Gs) => dMod_ii (i := i) qp g
  have dm2 := fun (i : Int) (g : Gs) => dMod_ii (i := i) g1 g
  unfold phi__law_twin
  by_cases c1 : s.a = 0
  · simp only [b__law_twin, ap_seq, ap_skip, ap_bad, ap_break, ap_cont, ap_if, ap_set, ap_par, ap_par3, ap_ret, ap_retN, ap_expr, ap_asg, ap_for, ap_var, ap_C, ap_f2, ap_f1, ap_nil, ap_cons, ap_tup, ap_lst, ap_cellL, ap_call, ap_fif, ap_bool, ap_tru, ap_and, ap_or, ap_not, ap_andV, ap_orV, ap_notV, ap_chain, ap_part, ap_nopart, ap_slice, ap_disp, ap_pnil, ap_pcons, ap_iter, ap_iterA, ap_lc, ap_gnam, ap_gtup, ap_glst, ap_gsnil, ap_gscons, ap_run, ap_yes, List.length_cons, List.length_nil, List.map_cons, List.map_nil, List.replicate_succ, List.replicate_zero, List.cons_append, List.nil_append, List.getElem?_cons_zero, List.getElem?_cons_succ, List.getElem?_nil, List.set_cons_zero, List.set_cons_succ, if_true, if_false, reduceIte, Nat.reduceAdd, Nat.reduceSub, Bool.false_eq_true, hc, dSub_ii, dAdd_ii, disp3, dik_sd, emid, hq, hm, dEq_ii, decide_eq_true c1, dTup_ok, okSz0]
  · by_cases c2 : s.a % s.q = 0
    · have c3 : ¬ (s.t * s.more) % s.g = 0 := fun z => hn ⟨c1, c2, z⟩
      simp only [b__law_twin, ap_seq, ap_skip, ap_bad, ap_break, ap_cont, ap_if, ap_set, ap_par, ap_par3, ap_ret, ap_retN, ap_expr, ap_asg, ap_for, ap_var, ap_C, ap_f2, ap_f1, ap_nil, ap_cons, ap_tup, ap_lst, ap_cellL, ap_call, ap_fif, ap_bool, ap_tru, ap_and, ap_or, ap_not, ap_andV, ap_orV, ap_notV, ap_chain, ap_part, ap_nopart, ap_slice, ap_disp, ap_pnil, ap_pcons, ap_iter, ap_iterA, ap_lc, ap_gnam, ap_gtup, ap_glst, ap_gsnil, ap_gscons, ap_run, ap_yes, List.length_cons, List.length_nil, List.map_cons, List.map_nil, List.replicate_succ, List.replicate_zero, List.cons_append, List.nil_append, List.getElem?_cons_zero, List.getElem?_cons_succ, List.getElem?_nil, List.set_cons_zero, List.set_cons_succ, if_true, if_false, reduceIte, Nat.reduceAdd, Nat.reduceSub, Bool.false_eq_true, hc, dSub_ii, dAdd_ii, disp3, dik_sd, emid, hq, hm, dEq_ii, dNe_ii, dInt_i, dm, dm2, hmore, htm, decide_eq_false c1, decide_eq_true c2, decide_eq_false c3, Bool.not_true, Bool.not_false, dTup_ok, okSz0]
    · simp only [b__law_twin, ap_seq, ap_skip, ap_bad, ap_break, ap_cont, ap_if, ap_set, ap_par, ap_par3, ap_ret, ap_retN, ap_expr, ap_asg, ap_for, ap_var, ap_C, ap_f2, ap_f1, ap_nil, ap_cons, ap_tup, ap_lst, ap_cellL, ap_call, ap_fif, ap_bool, ap_tru, ap_and, ap_or, ap_not, ap_andV, ap_orV, ap_notV, ap_chain, ap_part, ap_nopart, ap_slice, ap_disp, ap_pnil, ap_pcons, ap_iter, ap_iterA, ap_lc, ap_gnam, ap_gtup, ap_glst, ap_gsnil, ap_gscons, ap_run, ap_yes, List.length_cons, List.length_nil, List.map_cons, List.map_nil, List.replicate_succ, List.replicate_zero, List.cons_append, List.nil_append, List.getElem?_cons_zero, List.getElem?_cons_succ, List.getElem?_nil, List.set_cons_zero, List.set_cons_succ, if_true, if_false, reduceIte, Nat.reduceAdd, Nat.reduceSub, Bool.false_eq_true, hc, dSub_ii, dAdd_ii, disp3, dik_sd, emid, hq, hm, dEq_ii, dNe_ii, dInt_i, dm, decide_eq_false c1, decide_eq_false c2, Bool.not_true, Bool.not_false, dTup_ok, okSz0]
end LB
set_option maxRecDepth 100000
set_option maxHeartbeats 4000000
namespace LB
open PySem PySem.Spec PyProof.Rows L2 DL
theorem twin_yes {s : St5} (h : Vd s) (hy : s.isTwin) (g : Gs) : phi__law_twin [stD s] g = .ok (stD s.twin) g := by
  have r1 := h.r1; have w1 := h.w1; have a0 := h.a0; have t0 := h.t0; have rB := h.rB; have wB := h.wB; have aB := h.aB; have tB := h.tB
  have g1 := h.g1; have gR := h.gR; have mp := h.midp; have qB := h.qB; have mB := h.mB
  have l30 : 2 * L30 < line83 := by decide
  have l0 := L30_eq
  obtain ⟨r, F⟩ := fct h
  have qp := F.qp
  have hc : ∀ g : Gs, phi__law_shared [.int s.R, .int s.w] g = .ok (.int s.g) g := shared_eq (show 0 ≤ s.R by omega) (show 0 ≤ s.w by omega) (show s.w < line83 by omega)
  have hd := fun (i : Int) => dFdiv_ii (i := i) g1 (sm30 (i := s.g) (by omega) (by omega))
  have hq : ∀ g : Gs, dFdiv (.int s.w) (.int s.g) g = .ok (.int s.q) g := fun g => hd s.w g
  have hm : ∀ g : Gs, dFdiv (.int s.mid) (.int s.g) g = .ok (.int s.m) g := fun g => hd s.mid g
  have hmore : ∀ g : Gs, dFdiv (.int s.a) (.int s.q) g = .ok (.int s.more) g := fun g => dFdiv_ii qp (sm30 (by omega) (by omega)) g
  have mo0 : 0 ≤ s.more := Int.ediv_nonneg a0 (by omega)
  have mo1 : s.more ≤ s.a := Int.ediv_le_self _ a0
  have htm : ∀ g : Gs, dMul (.int s.t) (.int s.more) g = .ok (.int (s.t * s.more)) g := fun g => dMul_ii (okMul_sm (sm30 (by omega) (by omega)) (sm30 (by omega) (by omega))) g
  have emid : s.sd.pick (D.int (s.R - s.w)) (D.int (s.R + s.w)) (D.int (s.w - s.R)) = D.int s.mid := by
    unfold St5.mid Sd.pick
    cases s.sd <;> rfl
  have dm := fun (i : Int) (g : Gs) => dMod_ii (i := i) qp g
  have dm2 := fun (i : Int) (g : Gs) => dMod_ii (i := i) g1 g
  obtain ⟨c1, c2, c3⟩ := hy
  have mo2 : 0 < s.more := by
    have e := Int.emod_add_mul_ediv s.a s.q
    unfold St5.more
    by_cases z : s.a / s.q = 0
    · rw [c2, z] at e; omega
    · have := Int.ediv_nonneg a0 (show 0 ≤ s.q by omega); omega
  have dt : ∀ g : Gs, dFdiv (.int (s.t * s.more)) (.int s.g) g = .ok (.int (s.t * s.more / s.g)) g := fun g => hd _ g
  have dm3 := fun (i : Int) (g : Gs) => dMod_ii (i := i) mo2 g
  have smo : Sm s.more := sm30 (by omega) (by omega)
  have k1 : ∀ g : Gs, dMul (.int s.more) (.int (s.q + s.m)) g = .ok (.int (s.more * (s.q + s.m))) g := fun g => dMul_ii (okMul_sm smo (sm30 (by omega) (by omega))) g
  have k2 : ∀ g : Gs, dMul (.int s.more) (.int s.m) g = .ok (.int (s.more * s.m)) g := fun g => dMul_ii (okMul_sm smo (sm30 (by omega) (by omega))) g
  have k3 : ∀ g : Gs, dMul (.int s.more) (.int (s.m - s.q)) g = .ok (.int (s.more * (s.m - s.q))) g := fun g => dMul_ii (okMul_sm smo (sm30 (by omega) (by omega))) g
  have k4 : ∀ g : Gs, dMul (.int s.more) (.int (s.q - s.m)) g = .ok (.int (s.more * (s.q - s.m))) g := fun g => dMul_ii (okMul_sm smo (sm30 (by omega) (by omega))) g
  unfold phi__law_twin St5.twin
  cases e : s.sd
  all_goals
    rw [e] at emid
    simp only [b__law_twin, ap_seq, ap_skip, ap_bad, ap_break, ap_cont, ap_if, ap_set, ap_par, ap_par3, ap_ret, ap_retN, ap_expr, ap_asg, ap_for, ap_var, ap_C, ap_f2, ap_f1, ap_nil, ap_cons, ap_tup, ap_lst, ap_cellL, ap_call, ap_fif, ap_bool, ap_tru, ap_and, ap_or, ap_not, ap_andV, ap_orV, ap_notV, ap_chain, ap_part, ap_nopart, ap_slice, ap_disp, ap_pnil, ap_pcons, ap_iter, ap_iterA, ap_lc, ap_gnam, ap_gtup, ap_glst, ap_gsnil, ap_gscons, ap_run, ap_yes, List.length_cons, List.length_nil, List.map_cons, List.map_nil, List.replicate_succ, List.replicate_zero, List.cons_append, List.nil_append, List.getElem?_cons_zero, List.getElem?_cons_succ, List.getElem?_nil, List.set_cons_zero, List.set_cons_succ, if_true, if_false, reduceIte, Nat.reduceAdd, Nat.reduceSub, Bool.false_eq_true, hc, dSub_ii, dAdd_ii, disp3, dik_sd, e, emid, hq, hm, dEq_ii, dNe_ii, dInt_i, dm, dm2, dm3, dt, hmore, htm, decide_eq_false c1, decide_eq_true c2, decide_eq_true c3, Bool.not_true, Bool.not_false, dTup_ok, okSz5, dEq_sin, dEq_sout, decide_true, decide_false, reduceCtorEq, k1, k2, k3, k4, St5.tt]
  all_goals rfl
end LB
set_option maxRecDepth 100000
set_option maxHeartbeats 4000000
namespace LB
open PySem PySem.Spec PyProof.Rows L2 DL
theorem Vd.w_ {s : St5} (h : Vd s) : s.w = s.g * s.q := by
  have d2 : s.g ∣ s.w := Int.gcd_dvd_right ..
  exact (Int.mul_ediv_cancel' d2).symm
theorem more_pos {s : St5} (h : Vd s) (hy : s.isTwin) : 0 < s.more ∧ s.a = s.q * s.more := by
  obtain ⟨c1, c2, c3⟩ := hy
  have a0 := h.a0
  have qB := h.qB
  have e := Int.emod_add_mul_ediv s.a s.q
  have e2 : s.a = s.q * s.more := by unfold St5.more; omega
  refine ⟨?_, e2⟩
  unfold St5.more at *
  by_cases z : s.a / s.q = 0
  · rw [c2, z] at e; omega
  · have := Int.ediv_nonneg a0 (show 0 ≤ s.q by omega); omega
theorem twin_R {s : St5} {r : Int} (F : Fct s s.g r s.q s.m) : s.twin.R = s.more * r ∧ s.twin.w = s.more * s.m ∧ s.twin.a = s.mid ∧ s.twin.t = s.tt := by
  unfold St5.twin
  rcases F.cs with ⟨e, em, es⟩ | ⟨e, em, es⟩ | ⟨e, em, es⟩
  all_goals
    rw [e]
    dsimp only
    refine ⟨?_, rfl, rfl, rfl⟩
    have er : ∀ x : Int, x = r → s.more * x = s.more * r := fun x hx => by rw [hx]
    exact er _ (by omega)
theorem tt_bd {s : St5} (m0 : 0 < s.more) : 0 ≤ s.tt ∧ s.tt < s.more := ⟨Int.emod_nonneg _ (by omega), Int.emod_lt_of_pos _ m0⟩
theorem twin_vd {s : St5} (h : Vd s) (hy : s.isTwin) (b1 : s.twin.R ≤ L30) (b2 : s.twin.w ≤ L30) (b3 : s.twin.a ≤ L30) (b4 : s.twin.t ≤ L30) : Vd s.twin := by
  obtain ⟨r, F⟩ := fct h
  have m0 := (more_pos h hy).1
  have T := twin_R F
  have rp := F.rp
  have mp := F.mp
  have p1 := Int.mul_pos m0 rp
  have p2 := Int.mul_pos m0 mp
  have md := h.midp
  have tb := tt_bd m0
  refine ⟨by omega, by omega, by omega, by omega, b1, b2, b3, b4, fun e => ?_, fun e => ?_⟩
  · have e2 : s.m < r := by
      rcases F.cs with ⟨e', em, es⟩ | ⟨e', em, es⟩ | ⟨e', em, es⟩
      · have := F.qp; omega
      · unfold St5.twin at e; rw [e'] at e; cases e
      · unfold St5.twin at e; rw [e'] at e; cases e
    have := Int.mul_lt_mul_of_pos_left e2 m0
    omega
  · have e2 : r < s.m := by
      rcases F.cs with ⟨e', em, es⟩ | ⟨e', em, es⟩ | ⟨e', em, es⟩
      · unfold St5.twin at e; rw [e'] at e; cases e
      · have := F.qp; omega
      · unfold St5.twin at e; rw [e'] at e; cases e
    have := Int.mul_lt_mul_of_pos_left e2 m0
    omega
theorem twin_stroke {s : St5} (h : Vd s) (hk : s.stroke = false) (hy : s.isTwin) : s.twin.stroke = false := by
  obtain ⟨r, F⟩ := fct h
  obtain ⟨m0, ea⟩ := more_pos h hy
  have T := twin_R F
  have ew := h.w_
  have mp := F.mp
  by_cases e : s.sd = .i
  · rcases F.cs with ⟨e', em, es⟩ | ⟨e', em, es⟩ | ⟨e', em, es⟩
    · unfold St5.stroke
      by_cases c1 : s.twin.R = 2 * s.twin.w
      · by_cases c2 : s.twin.a = s.twin.w
        · exfalso
          rw [T.1, T.2.1] at c1
          rw [T.2.2.1, T.2.1, F.mid] at c2
          have r2 : r = 2 * s.m := by
            have e3 : s.more * r = s.more * (2 * s.m) := by rw [c1]; grind
            exact Int.eq_of_mul_eq_mul_left (by omega) e3
          have g2 : s.g = s.more := Int.eq_of_mul_eq_mul_right (show s.m ≠ 0 by omega) c2
          have hq : s.q = s.m := by omega
          have z1 : s.R = 2 * s.w := by rw [F.R, ew, r2, hq]; grind
          have z2 : s.a = s.w := by rw [ea, ew, g2]; grind
          unfold St5.stroke at hk
          rw [decide_eq_true e, decide_eq_true z1, decide_eq_true z2] at hk
          cases hk
        · rw [decide_eq_false c2, Bool.and_false, Bool.and_false]
      · rw [decide_eq_false c1, Bool.false_and, Bool.and_false]
    · rw [e] at e'; cases e'
    · rw [e] at e'; cases e'
  · unfold St5.stroke
    have : s.twin.sd ≠ .i := by
      unfold St5.twin
      cases e' : s.sd
      · exact absurd e' e
      · exact fun z => nomatch z
      · exact fun z => nomatch z
    rw [decide_eq_false this, Bool.false_and]
theorem phs_dvd {n : St5} {M : Int} (h : Vd n) (e : ∃ k : Int, (M : Rat) * ((n.t : Rat) / (n.R : Rat)) = (k : Rat)) (hM : ∃ k : Int, M = 2 * k) : n.ph.2 ∣ M ∧ n.ac.2 ∣ M := by
  have r1 := h.r1
  refine ⟨pt_dvd (by omega) e, ?_⟩
  obtain ⟨k, e⟩ := e
  obtain ⟨l, rfl⟩ := hM
  refine pt_dvd (show 0 < 2 * n.R by omega) ⟨k + l, ?_⟩
  have h0 := ne0 (show n.R ≠ 0 by omega)
  have e2 : ((2 : Int) : Rat) = 2 := rfl
  rw [Rat.intCast_add k l, ← e]
  simp only [Rat.intCast_add, Rat.intCast_mul, e2]
  clear e
  generalize (n.t : Rat) = t at *
  generalize (n.R : Rat) = R at *
  generalize (l : Rat) = l at *
  grind
theorem own_dvd {n : St5} (h : Vd n) (d : Int) : n.ph.2 ∣ 2 * n.R * d ∧ n.ac.2 ∣ 2 * n.R * d := by
  have r1 := h.r1
  refine phs_dvd h ⟨2 * n.t * d, ?_⟩ ⟨n.R * d, by grind⟩
  have h0 := ne0 (show n.R ≠ 0 by omega)
  simp only [Rat.intCast_mul]
  generalize (n.t : Rat) = t at *
  generalize (n.R : Rat) = R at *
  generalize (d : Rat) = d at *
  grind
theorem twin_dvd {s : St5} (h : Vd s) (hy : s.isTwin) (hn : Vd s.twin) : s.twin.ph.2 ∣ 2 * s.R ∧ s.twin.ac.2 ∣ 2 * s.R := by
  obtain ⟨r, F⟩ := fct h
  obtain ⟨m0, ea⟩ := more_pos h hy
  have T := twin_R F
  have gp := F.gp
  have rp := F.rp
  obtain ⟨c1, c2, c3⟩ := hy
  have e1 : s.t * s.more = s.g * (s.t * s.more / s.g) := by
    have := Int.emod_add_mul_ediv (s.t * s.more) s.g
    omega
  have e2 := Int.emod_add_mul_ediv (s.t * s.more / s.g) s.more
  have e2 : s.tt = s.t * s.more / s.g - s.more * (s.t * s.more / s.g / s.more) := by unfold St5.tt; omega
  refine phs_dvd hn ⟨2 * (s.t - s.g * (s.t * s.more / s.g / s.more)), ?_⟩ ⟨s.R, rfl⟩
  generalize s.t * s.more / s.g / s.more = y at *
  generalize s.t * s.more / s.g = x at *
  have key : s.g * s.tt = s.more * (s.t - s.g * y) := by rw [e2]; grind
  rw [T.1, T.2.2.2, F.R]
  have h0 := ne0 (show s.g ≠ 0 by omega)
  have h1 := ne0 (show r ≠ 0 by omega)
  have h2 := ne0 (show s.more ≠ 0 by omega)
  have kq : (s.g : Rat) * (s.tt : Rat) = (s.more : Rat) * ((s.t - s.g * y : Int) : Rat) := by rw [← Rat.intCast_mul, ← Rat.intCast_mul, key]
  simp only [Rat.intCast_mul]
  generalize ((s.t - s.g * y : Int) : Rat) = z at *
  generalize (s.tt : Rat) = t at *
  generalize (s.more : Rat) = m at *
  generalize (s.g : Rat) = g at *
  generalize (r : Rat) = r at *
  have e2 : ((2 : Int) : Rat) = 2 := rfl
  rw [e2]
  grind
theorem far_dvd {n : St5} {L : Int} (h1 : n.ph.2 ∣ L) (h2 : n.ac.2 ∣ L) : n.p1.2 ∣ L ∧ (∀ c, (n.far c).2 ∣ L) ∧ n.p2.2 ∣ L := by
  have a : n.p1.2 ∣ L := by unfold St5.p1; split <;> assumption
  have b : n.p2.2 ∣ L := by unfold St5.p2; split <;> assumption
  refine ⟨a, fun c => ?_, b⟩
  unfold St5.far
  split <;> assumption
theorem pr_ring {s n : St5} (hs : Vd s) (hn : Vd n) (ks : s.stroke = false) (kn : n.stroke = false) (v : s.v1 ≤ 100) (hR : s.R ≤ 10 ^ 29) (d : n.ph.2 ∣ 2 * s.R ∧ n.ac.2 ∣ 2 * s.R) : Pr s n := by
  have o := own_dvd hs 1
  rw [Int.mul_one] at o
  have r1 := hs.r1
  exact ⟨hs, hn, ks, kn, v, 2 * s.R, by omega, by omega, (far_dvd o.1 o.2).1, (far_dvd d.1 d.2).2.1, (far_dvd o.1 o.2).2.2, (far_dvd d.1 d.2).1, (far_dvd d.1 d.2).2.2⟩
theorem pr_two {s n : St5} (hs : Vd s) (hn : Vd n) (ks : s.stroke = false) (kn : n.stroke = false) (v : s.v1 ≤ 100) (hR : s.R ≤ 10 ^ 29) (hR2 : n.R ≤ 400) : Pr s n := by
  have o := own_dvd hs n.R
  have o2 := own_dvd hn s.R
  rw [show 2 * n.R * s.R = 2 * s.R * n.R by grind] at o2
  have r1 := hs.r1
  have r2 := hn.r1
  have p := Int.mul_pos (show 0 < 2 * s.R by omega) (show 0 < n.R by omega)
  have q := Int.mul_le_mul_of_nonneg_left hR2 (show 0 ≤ 2 * s.R by omega)
  exact ⟨hs, hn, ks, kn, v, 2 * s.R * n.R, p, by omega, (far_dvd o.1 o.2).1, (far_dvd o2.1 o2.2).2.1, (far_dvd o.1 o.2).2.2, (far_dvd o2.1 o2.2).1, (far_dvd o2.1 o2.2).2.2⟩
end LB
set_option maxRecDepth 100000
set_option maxHeartbeats 4000000
namespace LB
open PySem PySem.Spec PyProof.Rows L2 DL
theorem shp_st (sd : Sd) (a b c d : Int) : SeqAt.shaped (.tuple [.str sd.s, .int a, .int b, .int c, .int d]) = true := by simp [SeqAt.shaped, PyData.canLay0, PyData.canLayAll0, PyData.depth, PyData.depthAll, sd_ok]
theorem dNe_st (s : St5) (g : Gs) : dNe (stD s) (.tup []) g = .ok (.bl true) g := by
  rw [dNe_of (x := stD s) (y := .tup []) (p := .tuple [.str s.sd.s, .int s.R, .int s.w, .int s.a, .int s.t]) (q := .tuple []) rfl rfl (shp_st ..) shp_nil]
  simp [PyData.eqv, PyData.eqvAll]
theorem dNe_sin (sd : Sd) (g : Gs) : dNe (.str sd.s) (.str "in") g = .ok (.bl (!decide (sd = .i))) g := by
  have hs : ∀ x : Str, PyData.strOk x = true → SeqAt.shaped (.str x) = true := fun x h => by simp [SeqAt.shaped, PyData.canLay0, PyData.depth, h]
  rw [dNe_of (x := .str sd.s) (y := .str "in") (p := .str sd.s) (q := .str "in") rfl rfl (hs _ (sd_ok sd)) (hs _ (by decide +kernel))]
  simp only [PyData.eqv]
  have h : (!(sd.s == ("in" : Str))) = (!decide (sd = .i)) := by cases sd <;> decide +kernel
  rw [h]
theorem max4 (a b c d X : Int) : PySem.W.maxOf a [b, c, d] ≤ X → a ≤ X ∧ b ≤ X ∧ c ≤ X ∧ d ≤ X := by
  unfold PySem.W.maxOf
  simp only [List.foldl_cons, List.foldl_nil]
  have hl : ∀ x y : Int, (PySem.W.DatumOrd.lt x y = true) = (x < y) := fun x y => by
    show (decide (x < y) = true) = (x < y)
    simp
  simp only [hl]
  intro h
  split at h <;> split at h <;> split at h <;> omega
theorem max1_4 (a b c d : Int) (g : Gs) : dMax1 [.tup [.int a, .int b, .int c, .int d]] g = .ok (.int (PySem.W.maxOf a [b, c, d])) g := (rfl)
theorem slc04 (a b c d e : D) (g : Gs) : dSlice (.tup [a, b, c, d, e]) none (some 4) g = .ok (.tup [a, b, c, d]) g := (rfl)
theorem slc03 (a b c d e : D) (g : Gs) : dSlice (.tup [a, b, c, d, e]) none (some 3) g = .ok (.tup [a, b, c]) g := (rfl)
theorem slc1 (a b c d e : D) (g : Gs) : dSlice (.tup [a, b, c, d, e]) (some 1) none g = .ok (.tup [b, c, d, e]) g := (rfl)
theorem slc4 (a b c d e : D) (g : Gs) : dSlice (.tup [a, b, c, d, e]) (some 4) none g = .ok (.tup [e]) g := (rfl)
theorem add_tt {a b : List D} (h : okSz (a.length + b.length) = true) (g : Gs) : dAdd (.tup a) (.tup b) g = .ok (.tup (a ++ b)) g := by
  unfold dAdd
  simp [h]
theorem ix3 (a b c d : D) (l : List D) (g : Gs) : dIx (.tup (a :: b :: c :: d :: l)) (.int 3) g = .ok d g := ixt (atI_nat (j := 3) rfl) g
theorem ix4 (a b c d e : D) (l : List D) (g : Gs) : dIx (.tup (a :: b :: c :: d :: e :: l)) (.int 4) g = .ok e g := ixt (atI_nat (j := 4) rfl) g
def St5.at_ (s : St5) (t : Int) : St5 := ⟨s.sd, s.R, s.w, s.a, t⟩
def St5.arm (s : St5) (a : Int) : St5 := ⟨s.sd, s.R, s.w, a, s.t⟩
def St5.out (s : St5) : St5 := ⟨.o, s.R, s.w, s.a, s.t⟩
/-- what comes of the way and the tooth -/
def mateOf (s : St5) (w t : Int) (tw : Option St5) (fr : St5) : St5 :=
  if w < 3 then s.at_ t else if w < 6 then (match tw with | some u => u | none => s.at_ t) else if w = 6 then (if s.sd = .i ∧ s.R = 2 * s.w ∧ s.a + 1 = s.w then s.at_ t else (s.at_ t).arm (s.a + 1))
  else if w = 7 then (if s.sd = .i then (s.at_ t).out else s.at_ t) else fr
theorem mate_run {n : Nat} {s fr : St5} {w rw t0 t : Int} {tw : Option St5} {g g1 g2 g3 g4 : Gs} (h : Vd s)
    (e1 : phi__law_sip [.cell n, .int 9] g = .ok (.int w) g1) (hc : ∀ g, phi__law_shared [.int s.R, .int s.w] g = .ok (.int s.g) g)
    (e2 : phi__law_wide [.cell n, .int s.g] g1 = .ok (.int rw) g2) (hm : ∀ g, dMul (.int 2) (.int s.g) g = .ok (.int (2 * s.g)) g) (hm2 : ∀ g, dMul (.int 2) (.int s.w) g = .ok (.int (2 * s.w)) g)
    (e3 : phi__law_one [.cell n, .lst [.int s.t, .int (s.t % s.g), .int (s.t + s.g), .int (s.t + 1), .int (rw + 2 * s.g)]] g2 = .ok (.int t0) g3)
    (ht : (if 10 ^ 30 < t0 then 10 ^ 30 else t0) = t)
    (et : (tw = none ∧ ∀ g, phi__law_twin [stD (s.at_ t)] g = .ok (.tup []) g) ∨ ∃ u, (∀ g, phi__law_twin [stD (s.at_ t)] g = .ok (stD u) g) ∧ tw = if PySem.W.maxOf u.R [u.w, u.a, u.t] ≤ 10 ^ 30 then some u else none)
    (e4 : w < 8 → g4 = g3) (e5 : ¬ w < 8 → phi__law_set [.cell n, .int 50] g3 = .ok (stD fr) g4) :
    phi__law_mate [.cell n, stD s] g = .ok (stD (mateOf s w t tw fr)) g4 := by
  have g1' := h.g1
  have mn : ∀ g : Gs, dMin2 [.int t0, .int (10 ^ 30)] g = .ok (.int t) g := fun g => by rw [min2_ii, ht]
  unfold phi__law_mate mateOf
  obtain ⟨sd, R, wh, a, ts⟩ := s
  simp only [St5.at_] at *
  by_cases c1 : w < 3
  · have := e4 (by omega)
    subst this
    simp only [b__law_mate, ap_seq, ap_skip, ap_bad, ap_break, ap_cont, ap_if, ap_set, ap_par, ap_par3, ap_ret, ap_retN, ap_expr, ap_asg, ap_for, ap_var, ap_C, ap_f2, ap_f1, ap_nil, ap_cons, ap_tup, ap_lst, ap_cellL, ap_call, ap_fif, ap_bool, ap_tru, ap_and, ap_or, ap_not, ap_andV, ap_orV, ap_notV, ap_chain, ap_part, ap_nopart, ap_slice, ap_disp, ap_pnil, ap_pcons, ap_iter, ap_iterA, ap_lc, ap_gnam, ap_gtup, ap_glst, ap_gsnil, ap_gscons, ap_run, ap_yes, List.length_cons, List.length_nil, List.map_cons, List.map_nil, List.replicate_succ, List.replicate_zero, List.cons_append, List.nil_append, List.getElem?_cons_zero, List.getElem?_cons_succ, List.getElem?_nil, List.set_cons_zero, List.set_cons_succ, if_true, if_false, reduceIte, Nat.reduceAdd, Nat.reduceSub, Bool.false_eq_true, e1, ix1, ix2, ix4, hc, e2, dInt_i, dMod_ii g1', dAdd_ii, hm, dLst_ok, okSz5, e3, slc04, pow30, mn, dTup_ok, okSz1, add_tt, dLt_ii, decide_true, decide_false, decide_eq_true c1, c1]
  · by_cases c2 : w < 6
    · have := e4 (by omega)
      subst this
      rcases et with ⟨rfl, et⟩ | ⟨u, et, rfl⟩
      · simp only [b__law_mate, ap_seq, ap_skip, ap_bad, ap_break, ap_cont, ap_if, ap_set, ap_par, ap_par3, ap_ret, ap_retN, ap_expr, ap_asg, ap_for, ap_var, ap_C, ap_f2, ap_f1, ap_nil, ap_cons, ap_tup, ap_lst, ap_cellL, ap_call, ap_fif, ap_bool, ap_tru, ap_and, ap_or, ap_not, ap_andV, ap_orV, ap_notV, ap_chain, ap_part, ap_nopart, ap_slice, ap_disp, ap_pnil, ap_pcons, ap_iter, ap_iterA, ap_lc, ap_gnam, ap_gtup, ap_glst, ap_gsnil, ap_gscons, ap_run, ap_yes, List.length_cons, List.length_nil, List.map_cons, List.map_nil, List.replicate_succ, List.replicate_zero, List.cons_append, List.nil_append, List.getElem?_cons_zero, List.getElem?_cons_succ, List.getElem?_nil, List.set_cons_zero, List.set_cons_succ, if_true, if_false, reduceIte, Nat.reduceAdd, Nat.reduceSub, Bool.false_eq_true, e1, ix1, ix2, ix4, hc, e2, dInt_i, dMod_ii g1', dAdd_ii, hm, dLst_ok, okSz5, e3, slc04, pow30, mn, dTup_ok, okSz1, add_tt, dLt_ii, decide_true, decide_false, decide_eq_false c1, decide_eq_true c2, c1, c2, et, okSz0, dNe_00]
      · have nst := dNe_st u
        by_cases c3 : PySem.W.maxOf u.R [u.w, u.a, u.t] ≤ 10 ^ 30
        · simp only [b__law_mate, ap_seq, ap_skip, ap_bad, ap_break, ap_cont, ap_if, ap_set, ap_par, ap_par3, ap_ret, ap_retN, ap_expr, ap_asg, ap_for, ap_var, ap_C, ap_f2, ap_f1, ap_nil, ap_cons, ap_tup, ap_lst, ap_cellL, ap_call, ap_fif, ap_bool, ap_tru, ap_and, ap_or, ap_not, ap_andV, ap_orV, ap_notV, ap_chain, ap_part, ap_nopart, ap_slice, ap_disp, ap_pnil, ap_pcons, ap_iter, ap_iterA, ap_lc, ap_gnam, ap_gtup, ap_glst, ap_gsnil, ap_gscons, ap_run, ap_yes, List.length_cons, List.length_nil, List.map_cons, List.map_nil, List.replicate_succ, List.replicate_zero, List.cons_append, List.nil_append, List.getElem?_cons_zero, List.getElem?_cons_succ, List.getElem?_nil, List.set_cons_zero, List.set_cons_succ, if_true, if_false, reduceIte, Nat.reduceAdd, Nat.reduceSub, Bool.false_eq_true, e1, ix1, ix2, ix4, hc, e2, dInt_i, dMod_ii g1', dAdd_ii, hm, dLst_ok, okSz5, e3, slc04, pow30, mn, dTup_ok, okSz1, add_tt, dLt_ii, decide_true, decide_false, decide_eq_false c1, decide_eq_true c2, c1, c2, et, okSz0, nst, slc1, max1_4, dLe_ii, decide_eq_true c3, c3]
        · simp only [b__law_mate, ap_seq, ap_skip, ap_bad, ap_break, ap_cont, ap_if, ap_set, ap_par, ap_par3, ap_ret, ap_retN, ap_expr, ap_asg, ap_for, ap_var, ap_C, ap_f2, ap_f1, ap_nil, ap_cons, ap_tup, ap_lst, ap_cellL, ap_call, ap_fif, ap_bool, ap_tru, ap_and, ap_or, ap_not, ap_andV, ap_orV, ap_notV, ap_chain, ap_part, ap_nopart, ap_slice, ap_disp, ap_pnil, ap_pcons, ap_iter, ap_iterA, ap_lc, ap_gnam, ap_gtup, ap_glst, ap_gsnil, ap_gscons, ap_run, ap_yes, List.length_cons, List.length_nil, List.map_cons, List.map_nil, List.replicate_succ, List.replicate_zero, List.cons_append, List.nil_append, List.getElem?_cons_zero, List.getElem?_cons_succ, List.getElem?_nil, List.set_cons_zero, List.set_cons_succ, if_true, if_false, reduceIte, Nat.reduceAdd, Nat.reduceSub, Bool.false_eq_true, e1, ix1, ix2, ix4, hc, e2, dInt_i, dMod_ii g1', dAdd_ii, hm, dLst_ok, okSz5, e3, slc04, pow30, mn, dTup_ok, okSz1, add_tt, dLt_ii, decide_true, decide_false, decide_eq_false c1, decide_eq_true c2, c1, c2, et, okSz0, nst, slc1, max1_4, dLe_ii, decide_eq_false c3, c3]
    · by_cases c3 : w = 6
      · have := e4 (by omega)
        subst this
        by_cases d1 : sd = .i
        · by_cases d2 : R = 2 * wh
          · by_cases d3 : a + 1 = wh
            · simp only [b__law_mate, ap_seq, ap_skip, ap_bad, ap_break, ap_cont, ap_if, ap_set, ap_par, ap_par3, ap_ret, ap_retN, ap_expr, ap_asg, ap_for, ap_var, ap_C, ap_f2, ap_f1, ap_nil, ap_cons, ap_tup, ap_lst, ap_cellL, ap_call, ap_fif, ap_bool, ap_tru, ap_and, ap_or, ap_not, ap_andV, ap_orV, ap_notV, ap_chain, ap_part, ap_nopart, ap_slice, ap_disp, ap_pnil, ap_pcons, ap_iter, ap_iterA, ap_lc, ap_gnam, ap_gtup, ap_glst, ap_gsnil, ap_gscons, ap_run, ap_yes, List.length_cons, List.length_nil, List.map_cons, List.map_nil, List.replicate_succ, List.replicate_zero, List.cons_append, List.nil_append, List.getElem?_cons_zero, List.getElem?_cons_succ, List.getElem?_nil, List.set_cons_zero, List.set_cons_succ, if_true, if_false, reduceIte, Nat.reduceAdd, Nat.reduceSub, Bool.false_eq_true, e1, ix0, ix1, ix2, ix3, ix4, hc, e2, dInt_i, dMod_ii g1', dAdd_ii, hm, hm2, dLst_ok, okSz5, e3, slc04, slc03, slc4, pow30, mn, dTup_ok, okSz1, okSz3, okSz4, add_tt, dLt_ii, decide_true, decide_false, dEq_ii, dEq_sin, decide_eq_false c1, decide_eq_false c2, decide_eq_true c3, c1, c2, if_pos c3, decide_eq_true d1, decide_eq_true d2, decide_eq_true d3, if_pos (show sd = .i ∧ R = 2 * wh ∧ a + 1 = wh from ⟨d1, d2, d3⟩)]
            · simp only [b__law_mate, ap_seq, ap_skip, ap_bad, ap_break, ap_cont, ap_if, ap_set, ap_par, ap_par3, ap_ret, ap_retN, ap_expr, ap_asg, ap_for, ap_var, ap_C, ap_f2, ap_f1, ap_nil, ap_cons, ap_tup, ap_lst, ap_cellL, ap_call, ap_fif, ap_bool, ap_tru, ap_and, ap_or, ap_not, ap_andV, ap_orV, ap_notV, ap_chain, ap_part, ap_nopart, ap_slice, ap_disp, ap_pnil, ap_pcons, ap_iter, ap_iterA, ap_lc, ap_gnam, ap_gtup, ap_glst, ap_gsnil, ap_gscons, ap_run, ap_yes, List.length_cons, List.length_nil, List.map_cons, List.map_nil, List.replicate_succ, List.replicate_zero, List.cons_append, List.nil_append, List.getElem?_cons_zero, List.getElem?_cons_succ, List.getElem?_nil, List.set_cons_zero, List.set_cons_succ, if_true, if_false, reduceIte, Nat.reduceAdd, Nat.reduceSub, Bool.false_eq_true, e1, ix0, ix1, ix2, ix3, ix4, hc, e2, dInt_i, dMod_ii g1', dAdd_ii, hm, hm2, dLst_ok, okSz5, e3, slc04, slc03, slc4, pow30, mn, dTup_ok, okSz1, okSz3, okSz4, add_tt, dLt_ii, decide_true, decide_false, dEq_ii, dEq_sin, decide_eq_false c1, decide_eq_false c2, decide_eq_true c3, c1, c2, if_pos c3, decide_eq_true d1, decide_eq_true d2, decide_eq_false d3, if_neg (show ¬ (sd = .i ∧ R = 2 * wh ∧ a + 1 = wh) from fun z => d3 z.2.2), St5.arm]
          · simp only [b__law_mate, ap_seq, ap_skip, ap_bad, ap_break, ap_cont, ap_if, ap_set, ap_par, ap_par3, ap_ret, ap_retN, ap_expr, ap_asg, ap_for, ap_var, ap_C, ap_f2, ap_f1, ap_nil, ap_cons, ap_tup, ap_lst, ap_cellL, ap_call, ap_fif, ap_bool, ap_tru, ap_and, ap_or, ap_not, ap_andV, ap_orV, ap_notV, ap_chain, ap_part, ap_nopart, ap_slice, ap_disp, ap_pnil, ap_pcons, ap_iter, ap_iterA, ap_lc, ap_gnam, ap_gtup, ap_glst, ap_gsnil, ap_gscons, ap_run, ap_yes, List.length_cons, List.length_nil, List.map_cons, List.map_nil, List.replicate_succ, List.replicate_zero, List.cons_append, List.nil_append, List.getElem?_cons_zero, List.getElem?_cons_succ, List.getElem?_nil, List.set_cons_zero, List.set_cons_succ, if_true, if_false, reduceIte, Nat.reduceAdd, Nat.reduceSub, Bool.false_eq_true, e1, ix0, ix1, ix2, ix3, ix4, hc, e2, dInt_i, dMod_ii g1', dAdd_ii, hm, hm2, dLst_ok, okSz5, e3, slc04, slc03, slc4, pow30, mn, dTup_ok, okSz1, okSz3, okSz4, add_tt, dLt_ii, decide_true, decide_false, dEq_ii, dEq_sin, decide_eq_false c1, decide_eq_false c2, decide_eq_true c3, c1, c2, if_pos c3, decide_eq_true d1, decide_eq_false d2, if_neg (show ¬ (sd = .i ∧ R = 2 * wh ∧ a + 1 = wh) from fun z => d2 z.2.1), St5.arm]
        · simp only [b__law_mate, ap_seq, ap_skip, ap_bad, ap_break, ap_cont, ap_if, ap_set, ap_par, ap_par3, ap_ret, ap_retN, ap_expr, ap_asg, ap_for, ap_var, ap_C, ap_f2, ap_f1, ap_nil, ap_cons, ap_tup, ap_lst, ap_cellL, ap_call, ap_fif, ap_bool, ap_tru, ap_and, ap_or, ap_not, ap_andV, ap_orV, ap_notV, ap_chain, ap_part, ap_nopart, ap_slice, ap_disp, ap_pnil, ap_pcons, ap_iter, ap_iterA, ap_lc, ap_gnam, ap_gtup, ap_glst, ap_gsnil, ap_gscons, ap_run, ap_yes, List.length_cons, List.length_nil, List.map_cons, List.map_nil, List.replicate_succ, List.replicate_zero, List.cons_append, List.nil_append, List.getElem?_cons_zero, List.getElem?_cons_succ, List.getElem?_nil, List.set_cons_zero, List.set_cons_succ, if_true, if_false, reduceIte, Nat.reduceAdd, Nat.reduceSub, Bool.false_eq_true, e1, ix0, ix1, ix2, ix3, ix4, hc, e2, dInt_i, dMod_ii g1', dAdd_ii, hm, hm2, dLst_ok, okSz5, e3, slc04, slc03, slc4, pow30, mn, dTup_ok, okSz1, okSz3, okSz4, add_tt, dLt_ii, decide_true, decide_false, dEq_ii, dEq_sin, decide_eq_false c1, decide_eq_false c2, decide_eq_true c3, c1, c2, if_pos c3, decide_eq_false d1, if_neg (show ¬ (sd = .i ∧ R = 2 * wh ∧ a + 1 = wh) from fun z => d1 z.1), St5.arm]
      · by_cases c4 : w = 7
        · have := e4 (by omega)
          subst this
          by_cases d1 : sd = .i
          · simp only [b__law_mate, ap_seq, ap_skip, ap_bad, ap_break, ap_cont, ap_if, ap_set, ap_par, ap_par3, ap_ret, ap_retN, ap_expr, ap_asg, ap_for, ap_var, ap_C, ap_f2, ap_f1, ap_nil, ap_cons, ap_tup, ap_lst, ap_cellL, ap_call, ap_fif, ap_bool, ap_tru, ap_and, ap_or, ap_not, ap_andV, ap_orV, ap_notV, ap_chain, ap_part, ap_nopart, ap_slice, ap_disp, ap_pnil, ap_pcons, ap_iter, ap_iterA, ap_lc, ap_gnam, ap_gtup, ap_glst, ap_gsnil, ap_gscons, ap_run, ap_yes, List.length_cons, List.length_nil, List.map_cons, List.map_nil, List.replicate_succ, List.replicate_zero, List.cons_append, List.nil_append, List.getElem?_cons_zero, List.getElem?_cons_succ, List.getElem?_nil, List.set_cons_zero, List.set_cons_succ, if_true, if_false, reduceIte, Nat.reduceAdd, Nat.reduceSub, Bool.false_eq_true, e1, ix0, ix1, ix2, ix3, ix4, hc, e2, dInt_i, dMod_ii g1', dAdd_ii, hm, dLst_ok, okSz5, e3, slc04, slc1, pow30, mn, dTup_ok, okSz1, okSz4, add_tt, dLt_ii, decide_true, decide_false, dEq_ii, dNe_sin, decide_eq_false c1, decide_eq_false c2, decide_eq_false c3, decide_eq_true c4, c1, c2, if_neg c3, if_pos c4, decide_eq_true d1, if_pos d1, Bool.not_true, Bool.not_false, St5.out]
            rfl
          · simp only [b__law_mate, ap_seq, ap_skip, ap_bad, ap_break, ap_cont, ap_if, ap_set, ap_par, ap_par3, ap_ret, ap_retN, ap_expr, ap_asg, ap_for, ap_var, ap_C, ap_f2, ap_f1, ap_nil, ap_cons, ap_tup, ap_lst, ap_cellL, ap_call, ap_fif, ap_bool, ap_tru, ap_and, ap_or, ap_not, ap_andV, ap_orV, ap_notV, ap_chain, ap_part, ap_nopart, ap_slice, ap_disp, ap_pnil, ap_pcons, ap_iter, ap_iterA, ap_lc, ap_gnam, ap_gtup, ap_glst, ap_gsnil, ap_gscons, ap_run, ap_yes, List.length_cons, List.length_nil, List.map_cons, List.map_nil, List.replicate_succ, List.replicate_zero, List.cons_append, List.nil_append, List.getElem?_cons_zero, List.getElem?_cons_succ, List.getElem?_nil, List.set_cons_zero, List.set_cons_succ, if_true, if_false, reduceIte, Nat.reduceAdd, Nat.reduceSub, Bool.false_eq_true, e1, ix0, ix1, ix2, ix3, ix4, hc, e2, dInt_i, dMod_ii g1', dAdd_ii, hm, dLst_ok, okSz5, e3, slc04, slc1, pow30, mn, dTup_ok, okSz1, okSz4, add_tt, dLt_ii, decide_true, decide_false, dEq_ii, dNe_sin, decide_eq_false c1, decide_eq_false c2, decide_eq_false c3, decide_eq_true c4, c1, c2, if_neg c3, if_pos c4, decide_eq_false d1, if_neg d1, Bool.not_true, Bool.not_false]
        · have e5 := e5 (by omega)
          simp only [b__law_mate, ap_seq, ap_skip, ap_bad, ap_break, ap_cont, ap_if, ap_set, ap_par, ap_par3, ap_ret, ap_retN, ap_expr, ap_asg, ap_for, ap_var, ap_C, ap_f2, ap_f1, ap_nil, ap_cons, ap_tup, ap_lst, ap_cellL, ap_call, ap_fif, ap_bool, ap_tru, ap_and, ap_or, ap_not, ap_andV, ap_orV, ap_notV, ap_chain, ap_part, ap_nopart, ap_slice, ap_disp, ap_pnil, ap_pcons, ap_iter, ap_iterA, ap_lc, ap_gnam, ap_gtup, ap_glst, ap_gsnil, ap_gscons, ap_run, ap_yes, List.length_cons, List.length_nil, List.map_cons, List.map_nil, List.replicate_succ, List.replicate_zero, List.cons_append, List.nil_append, List.getElem?_cons_zero, List.getElem?_cons_succ, List.getElem?_nil, List.set_cons_zero, List.set_cons_succ, if_true, if_false, reduceIte, Nat.reduceAdd, Nat.reduceSub, Bool.false_eq_true, e1, ix0, ix1, ix2, ix3, ix4, hc, e2, dInt_i, dMod_ii g1', dAdd_ii, hm, dLst_ok, okSz5, e3, slc04, slc1, pow30, mn, dTup_ok, okSz1, okSz4, add_tt, dLt_ii, decide_true, decide_false, dEq_ii, decide_eq_false c1, decide_eq_false c2, decide_eq_false c3, decide_eq_false c4, c1, c2, if_neg c3, if_neg c4, e5]
end LB
set_option maxRecDepth 100000
set_option maxHeartbeats 4000000
namespace LB
open PySem PySem.Spec PyProof.Rows L2 DL
theorem stroke_at (s : St5) (t : Int) : (s.at_ t).stroke = s.stroke := rfl
theorem vd_at {s : St5} (h : Vd s) {t : Int} (t0 : 0 ≤ t) (t1 : t ≤ L30) : Vd (s.at_ t) := ⟨h.r1, h.w1, h.a0, t0, h.rB, h.wB, h.aB, t1, h.fi, h.fv⟩
theorem stroke_ni {s : St5} (h : ¬ (s.sd = .i ∧ s.R = 2 * s.w ∧ s.a = s.w)) : s.stroke = false := by
  unfold St5.stroke
  by_cases c1 : s.sd = .i
  · by_cases c2 : s.R = 2 * s.w
    · rw [decide_eq_false (fun z => h ⟨c1, c2, z⟩), Bool.and_false, Bool.and_false]
    · rw [decide_eq_false c2, Bool.false_and, Bool.and_false]
  · rw [decide_eq_false c1, Bool.false_and]
theorem mate_eq {g : Gs} {n : Nat} {B : Int} {s : St5} (j : Jar g n B) (hB : B ≤ 10 ^ 37) (h : Vd s) (ks : s.stroke = false) (v : s.v1 ≤ 100) (hR : s.R ≤ 10 ^ 29) (ha : s.a ≤ 10 ^ 29) :
    ∃ u g', phi__law_mate [.cell n, stD s] g = .ok (stD u) g' ∧ Pr s u ∧ Jar g' n (B + 60) := by
  have l30 : L30 = 10 ^ 30 := rfl
  have r1 := h.r1; have w1 := h.w1; have wB := h.wB; have t0' := h.t0; have tB := h.tB; have rB := h.rB
  have g1' := h.g1; have gR := h.gR
  obtain ⟨w, g1, e1, w0, w9, j1⟩ := sip_eq j (by omega) (m := 9) (by decide) (by decide)
  obtain ⟨rw_, g2, e2, rw0, rw1, j2⟩ := wide_eq j1 (by omega) g1'
  obtain ⟨d, g3, e3, hd, j3⟩ := one_eq j2 (by omega) (l := [s.t, s.t % s.g, s.t + s.g, s.t + 1, rw_ + 2 * s.g].map D.int) (by simp) (by simp)
  obtain ⟨t0, ht0, rfl⟩ := ints_mem hd
  have tm := Int.emod_nonneg s.t (show s.g ≠ 0 by omega)
  have t0B : 0 ≤ t0 := by
    simp only [List.mem_cons, List.not_mem_nil, or_false] at ht0
    rcases ht0 with q | q | q | q | q <;> omega
  obtain ⟨t, ht⟩ : ∃ t, (if 10 ^ 30 < t0 then 10 ^ 30 else t0) = t := ⟨_, rfl⟩
  have tb : 0 ≤ t ∧ t ≤ 10 ^ 30 := by rw [← ht]; split <;> omega
  have hc : ∀ g, phi__law_shared [.int s.R, .int s.w] g = .ok (.int s.g) g := shared_eq (by omega) (by omega) (by have : 2 * L30 < line83 := by decide
                                                                                                                  omega)
  have hm : ∀ g, dMul (.int 2) (.int s.g) g = .ok (.int (2 * s.g)) g := fun g => dMul_ii (okMul_sm (show Sm 2 by decide) (sm30 (by omega) (by omega))) g
  have hm2 : ∀ g, dMul (.int 2) (.int s.w) g = .ok (.int (2 * s.w)) g := fun g => dMul_ii (okMul_sm (show Sm 2 by decide) (sm30 (by omega) (by omega))) g
  have V := vd_at h tb.1 (by omega : t ≤ L30)
  have near : Pr s (s.at_ t) := by
    have o := own_dvd V 1
    rw [Int.mul_one] at o
    exact pr_ring h V ks (by rw [stroke_at]; exact ks) v hR o
  have tw : ∃ tw : Option St5, ((tw = none ∧ ∀ g, phi__law_twin [stD (s.at_ t)] g = .ok (.tup []) g) ∨ ∃ u, (∀ g, phi__law_twin [stD (s.at_ t)] g = .ok (stD u) g) ∧ tw = if PySem.W.maxOf u.R [u.w, u.a, u.t] ≤ 10 ^ 30 then some u else none) ∧ ∀ u, tw = some u → Pr s u := by
    by_cases hy : (s.at_ t).isTwin
    · refine ⟨_, .inr ⟨(s.at_ t).twin, twin_yes V hy, rfl⟩, fun u hu => ?_⟩
      by_cases c : PySem.W.maxOf (s.at_ t).twin.R [(s.at_ t).twin.w, (s.at_ t).twin.a, (s.at_ t).twin.t] ≤ 10 ^ 30
      · rw [if_pos c] at hu
        cases hu
        have b := max4 _ _ _ _ _ c
        have V2 := twin_vd V hy (by omega) (by omega) (by omega) (by omega)
        exact pr_ring h V2 ks (twin_stroke V (by rw [stroke_at]; exact ks) hy) v hR (twin_dvd V hy V2)
      · rw [if_neg c] at hu; cases hu
    · exact ⟨none, .inl ⟨rfl, twin_no V hy⟩, fun u hu => nomatch hu⟩
  obtain ⟨tw, et, hu⟩ := tw
  by_cases c8 : w < 8
  · have run := mate_run (fr := s) (tw := tw) h e1 hc e2 hm hm2 e3 ht et (g4 := g3) (fun _ => rfl) (fun z => absurd c8 z)
    refine ⟨_, g3, run, ?_, j3.mono (by omega)⟩
    unfold mateOf
    by_cases c1 : w < 3
    · rw [if_pos c1]; exact near
    · rw [if_neg c1]
      by_cases c2 : w < 6
      · rw [if_pos c2]
        cases q : tw with
        | none => exact near
        | some u => exact hu u q
      · rw [if_neg c2]
        by_cases c3 : w = 6
        · rw [if_pos c3]
          by_cases c : s.sd = .i ∧ s.R = 2 * s.w ∧ s.a + 1 = s.w
          · rw [if_pos c]; exact near
          · rw [if_neg c]
            have a0 := h.a0
            have V3 : Vd ((s.at_ t).arm (s.a + 1)) := ⟨h.r1, h.w1, by show 0 ≤ s.a + 1; omega, V.t0, h.rB, h.wB, by show s.a + 1 ≤ L30; omega, V.tB, h.fi, h.fv⟩
            have o := own_dvd V3 1
            rw [Int.mul_one] at o
            exact pr_ring h V3 ks (stroke_ni c) v hR o
        · rw [if_neg c3]
          have c4 : w = 7 := by omega
          rw [if_pos c4]
          by_cases c : s.sd = .i
          · rw [if_pos c]
            have V3 : Vd (s.at_ t).out := ⟨h.r1, h.w1, h.a0, V.t0, h.rB, h.wB, h.aB, V.tB, (fun z => nomatch z), (fun z => nomatch z)⟩
            have o := own_dvd V3 1
            rw [Int.mul_one] at o
            exact pr_ring h V3 ks (stroke_ni fun z => nomatch z.1) v hR o
          · rw [if_neg c]; exact near
  · obtain ⟨fr, g4, e5, Vf, kf, vf, Rf, af, j4⟩ := set_eq j3 (by omega) (M := 50) (by decide) (by decide)
    have run := mate_run (fr := fr) (tw := tw) h e1 hc e2 hm hm2 e3 ht et (g4 := g4) (fun z => absurd z c8) (fun _ => e5)
    refine ⟨_, g4, run, ?_, j4.mono (by omega)⟩
    unfold mateOf
    rw [if_neg (by omega), if_neg (by omega), if_neg (by omega), if_neg (by omega)]
    exact pr_two h Vf ks kf v hR (by omega)
end LB
set_option maxRecDepth 100000
set_option maxHeartbeats 4000000
namespace LB
open PySem PySem.Spec PyProof.Rows L2 DL
theorem n2i : ((2 : Nat) : Int) = 2 := rfl
end LB
set_option maxRecDepth 100000
set_option maxHeartbeats 4000000
namespace LB
open PySem PySem.Spec PyProof.Rows L2 DL
end LB
set_option maxRecDepth 100000
set_option maxHeartbeats 4000000
namespace LB
open PySem PySem.Spec PyProof.Rows L2 DL
theorem shp_fm1 (m : Int) : SeqAt.shaped (.tuple [.str "circle", .int m]) = true := by
  have h : PyData.strOk "circle" = true := by decide +kernel
  simp [SeqAt.shaped, PyData.canLay0, PyData.canLayAll0, PyData.depth, PyData.depthAll, h]
theorem shp_fm5 (a b c d x y : Int) : SeqAt.shaped (.tuple [.int a, .int b, .int c, .int d, .tuple [.int x, .int y]]) = true := by simp [SeqAt.shaped, PyData.canLay0, PyData.canLayAll0, PyData.depth, PyData.depthAll]
def fmP : Fm → PyData
  | .circ m => .tuple [.str "circle", .int m]
  | .five a b c d p => .tuple [.int a, .int b, .int c, .int d, .tuple [.int p.1, .int p.2]]
theorem fm_pd (f : Fm) : pd (fmD f) = some (fmP f) := by cases f <;> rfl
theorem fm_shp (f : Fm) : SeqAt.shaped (fmP f) = true := by
  cases f
  · exact shp_fm1 _
  · exact shp_fm5 _ _ _ _ _ _
theorem fm_eqv (f h : Fm) : PyData.eqv (fmP f) (fmP h) = decide (f = h) := by
  cases f with
  | circ m => cases h with
    | circ m' => rw [Bool.eq_iff_iff]; simp [fmP, PyData.eqv, PyData.eqvAll]
    | five a b c d p => simp [fmP, PyData.eqv, PyData.eqvAll]
  | five a b c d p => cases h with
    | circ m' => simp [fmP, PyData.eqv, PyData.eqvAll]
    | five a' b' c' d' p' =>
      obtain ⟨x, y⟩ := p
      obtain ⟨x', y'⟩ := p'
      rw [Bool.eq_iff_iff]
      simp [fmP, PyData.eqv, PyData.eqvAll]
theorem dEq_fm (f h : Fm) (g : Gs) : dEq (fmD f) (fmD h) g = .ok (.bl (decide (f = h))) g := by
  rw [dEq_of (fm_pd f) (fm_pd h) (fm_shp f) (fm_shp h), fm_eqv]
abbrev askD (s n : St5) : D := .tup [.str "same line", stD s, stD n]
end LB
set_option maxRecDepth 100000
set_option maxHeartbeats 4000000
namespace LB
open PySem PySem.Spec PyProof.Rows L2 DL
abbrev tuB (W : FS) : FS := (sSeq (sSet 2 (fCall phi__law_set (fCons (fVar 0) (fCons (fCall phi__law_one (fCons (fVar 0) (fCons (fLst (fCons (fC (.int 6)) (fCons (fC (.int 40)) (fCons (f2 dPow (fC (.int 10)) (fC (.int 27))) fNil)))) fNil))) fNil))))
  (sFor (fIterA dRg1 (fCons (fC (.int 4)) fNil)) (gNam 3) W))
theorem pow27 (g : Gs) : dPow (.int 10) (.int 27) g = .ok (.int (10 ^ 27)) g := by
  show (match (if okPow 10 27 = true then some (D.int (10 ^ (27 : Int).toNat)) else none) with | some d => Out.ok d g | none => .bad) = _
  rw [if_pos (show okPow 10 27 = true by decide)]
  rfl
end LB
set_option maxRecDepth 100000
set_option maxHeartbeats 4000000
namespace LB
open PySem PySem.Spec PyProof.Rows L2 DL
def Bt (z : Int) : Prop := PySem.Builtin.Int.intBits z ≤ 1048576
theorem okMul_bt {a b : Int} (h : Bt a) (h2 : Bt b) : okMul a b = true := okMul_bits (Nat.le_trans h (by decide)) (Nat.le_trans h2 (by decide))
theorem bt_sm {a : Int} (h : Sm a) : Bt a := Nat.le_trans (sm_bits h) (by decide)
theorem cut_map (l : List Int) (lo hi : Option Int) : ∃ m : List Int, DL.cutD (l.map D.int) lo hi = m.map D.int ∧ ∀ z ∈ m, z ∈ l := by
  refine ⟨(l.drop (HT.sIx l.length 0 lo)).take (HT.sIx l.length l.length hi - HT.sIx l.length 0 lo), ?_, fun z hz => List.mem_of_mem_drop (List.mem_of_mem_take hz)⟩
  unfold DL.cutD
  rw [List.length_map, List.map_take, List.map_drop]
abbrev pouV (A B C P : Int) : FS := (sSet 3 (f2 dMod (fCall dInt (fCons (f2 dAdd (f2 dAdd (f2 dMul (fVar 3) (fC (.int A))) (f2 dMul (fVar 4) (fC (.int B)))) (fC (.int C))) fNil)) (fC (.int P))))
abbrev pouB (A P : Int) : FS := pouV A 9 23 P
theorem pou_one {y0 y1 y2 : Option D} {st z A B C P : Int} (h1 : okMul st A = true) (h2 : okMul z B = true) (hP : 0 < P) (g : Gs) :
    pouV A B C P [y0, y1, y2, some (.int st), some (.int z)] g = .nx [y0, y1, y2, some (.int ((st * A + z * B + C) % P)), some (.int z)] g := by
  simp only [pouV, ap_seq, ap_skip, ap_bad, ap_break, ap_cont, ap_if, ap_set, ap_par, ap_par3, ap_ret, ap_retN, ap_expr, ap_asg, ap_for, ap_var, ap_C, ap_f2, ap_f1, ap_nil, ap_cons, ap_tup, ap_lst, ap_cellL, ap_call, ap_fif, ap_bool, ap_tru, ap_and, ap_or, ap_not, ap_andV, ap_orV, ap_notV, ap_chain, ap_part, ap_nopart, ap_slice, ap_disp, ap_pnil, ap_pcons, ap_iter, ap_iterA, ap_lc, ap_gnam, ap_gtup, ap_glst, ap_gsnil, ap_gscons, ap_run, ap_yes, List.length_cons, List.length_nil, List.map_cons, List.map_nil, List.replicate_succ, List.replicate_zero, List.cons_append, List.nil_append, List.getElem?_cons_zero, List.getElem?_cons_succ, List.getElem?_nil, List.set_cons_zero, List.set_cons_succ, if_true, if_false, reduceIte, Nat.reduceAdd, Nat.reduceSub, Bool.false_eq_true, dMul_ii h1, dMul_ii h2, dAdd_ii, dInt_i, dMod_ii hP]
theorem pou_loop {y0 y1 y2 : Option D} {A P : Int} (hA : Sm A) (hP : 0 < P) (hP2 : P ≤ 10 ^ 18) (g : Gs) : ∀ (l : List Int) (st : Int) (y4 : Option D), (∀ z ∈ l, Bt z) → 0 ≤ st → st ≤ 10 ^ 18 →
    ∃ st' y4', forD (gNam 4) (pouB A P) (l.map D.int) [y0, y1, y2, some (.int st), y4] g = .nx [y0, y1, y2, some (.int st'), y4'] g ∧ 0 ≤ st' ∧ st' ≤ 10 ^ 18
  | [], st, y4, _, a, b => ⟨st, y4, rfl, a, b⟩
  | z :: l, st, y4, h, a, b => by
    have ss : Sm st := by unfold Sm; omega
    have e : pouB A P [y0, y1, y2, some (.int st), some (.int z)] g = _ := pou_one (y0 := y0) (y1 := y1) (y2 := y2) (st := st) (z := z) (A := A) (B := 9) (C := 23) (P := P) (okMul_sm ss hA) (okMul_bt (h z (by simp)) (bt_sm (show Sm 9 by decide))) hP g
    have m0 := Int.emod_nonneg (st * A + z * 9 + 23) (show P ≠ 0 by omega)
    have m1 := Int.emod_lt_of_pos (st * A + z * 9 + 23) hP
    obtain ⟨st', y4', e2, c, d⟩ := pou_loop hA hP hP2 g l _ (some (.int z)) (fun x hx => h x (by simp [hx])) m0 (by omega) (y0 := y0) (y1 := y1) (y2 := y2)
    refine ⟨st', y4', ?_, c, d⟩
    have e0 : gNam 4 (.int z) [y0, y1, y2, some (.int st), y4] g = .ok [y0, y1, y2, some (.int st), some (.int z)] g := rfl
    rw [List.map_cons, ap_for_cons, e0]
    dsimp only
    rw [e]
    exact e2
abbrev pouW (c0 c1 c2 P : Int) (W : FS) : FS := (sSeq (sSet 2 (fIf (fBool (f2 dLt (fVar 1) (fCall dLen (fCons (fVar 0) fNil)))) (f2 dIx (fVar 0) (fVar 1)) (fC (.int 0))))
  (sSeq (sSet 3 (f2 dAdd (fC (.int c0)) (f2 dMul (fC (.int c1)) (fVar 1))))
  (sSeq (sFor (fIter dIterB (fSlice (fVar 0) fNoPart (fPart (fC (.int 7))))) (gNam 4) W)
  (sRet (fCellL (fCons (fIf (fOr (fBool (f2 dLt (fVar 2) (fC (.int 0)))) (fBool (f2 dGe (fVar 2) (f2 dPow (fC (.int 10)) (fC (.int 18)))))) (fCall dAbs (fCons (fVar 2) fNil)) (fC (.int 0))) (fCons (f2 dMod (fCall dInt (fCons (f2 dAdd (f2 dAdd (f2 dMul (fVar 3) (fC (.int c2))) (f2 dMul (fVar 2) (fVar 2))) (f2 dMul (fC (.int 19)) (fVar 1))) fNil)) (fC (.int P))) (fCons (fC (.int 0)) fNil))))))))
theorem pow18 (g : Gs) : dPow (.int 10) (.int 18) g = .ok (.int (10 ^ 18)) g := by
  show (match (if okPow 10 18 = true then some (D.int (10 ^ (18 : Int).toNat)) else none) with | some d => Out.ok d g | none => .bad) = _
  rw [if_pos (show okPow 10 18 = true by decide)]
  rfl
theorem len_k (l : List D) (g : Gs) : dLen [.kst l] g = .ok (.int l.length) g := (rfl)
theorem slice_k (l : List D) (lo hi : Option Int) (g : Gs) : dSlice (.kst l) lo hi g = .ok (.lst (DL.cutD l lo hi)) g := (rfl)
theorem abs_i (i : Int) (g : Gs) : dAbs [.int i] g = .ok (.int (if i < 0 then -i else i)) g := (rfl)
theorem cellL3 (a b c : D) (g : Gs) : dCellL [a, b, c] g = .ok (.cell g.length) (g ++ [.lst [a, b, c]]) := by
  show (if okSz [a, b, c].length then Out.ok (D.cell g.length) (g ++ [.lst [a, b, c]]) else .bad) = _
  rw [if_pos (show okSz [a, b, c].length = true from okSz3)]
theorem pou_run {W : FS} {ds ms : List D} {c0 c1 c2 P t own st : Int} {y4 : Option D} {g : Gs}
    (e1 : (if t < (ds.length : Int) then dIx (.kst ds) (.int t) g else .ok (.int 0) g) = .ok (.int own) g) (k1 : okMul c1 t = true) (em : DL.cutD ds none (some 7) = ms)
    (e2 : forD (gNam 4) W ms [some (.kst ds), some (.int t), some (.int own), some (.int (c0 + c1 * t)), none] g = .nx [some (.kst ds), some (.int t), some (.int own), some (.int st), y4] g)
    (k2 : okMul st c2 = true) (k3 : okMul own own = true) (k4 : okMul 19 t = true) (hP : 0 < P) :
    ∃ a, runDef 2 5 (pouW c0 c1 c2 P W) [.kst ds, .int t] g = .ok (.cell g.length) (g ++ [.lst [.int a, .int ((st * c2 + own * own + 19 * t) % P), .int 0]]) ∧ 0 ≤ a := by
  have e1a : t < (ds.length : Int) → dIx (.kst ds) (.int t) g = .ok (.int own) g := fun h => by rw [if_pos h] at e1; exact e1
  have e1b : ¬ t < (ds.length : Int) → own = 0 := fun h => by rw [if_neg h] at e1; injection e1 with e1; injection e1 with e1; exact e1.symm
  by_cases h : t < (ds.length : Int)
  · have e1 := e1a h
    by_cases n1 : own < 0
    · refine ⟨-own, ?_, by omega⟩
      simp only [pouW, ap_seq, ap_skip, ap_bad, ap_break, ap_cont, ap_if, ap_set, ap_par, ap_par3, ap_ret, ap_retN, ap_expr, ap_asg, ap_for, ap_var, ap_C, ap_f2, ap_f1, ap_nil, ap_cons, ap_tup, ap_lst, ap_cellL, ap_call, ap_fif, ap_bool, ap_tru, ap_and, ap_or, ap_not, ap_andV, ap_orV, ap_notV, ap_chain, ap_part, ap_nopart, ap_slice, ap_disp, ap_pnil, ap_pcons, ap_iter, ap_iterA, ap_lc, ap_gnam, ap_gtup, ap_glst, ap_gsnil, ap_gscons, ap_run, ap_yes, List.length_cons, List.length_nil, List.map_cons, List.map_nil, List.replicate_succ, List.replicate_zero, List.cons_append, List.nil_append, List.getElem?_cons_zero, List.getElem?_cons_succ, List.getElem?_nil, List.set_cons_zero, List.set_cons_succ, if_true, if_false, reduceIte, Nat.reduceAdd, Nat.reduceSub, Bool.false_eq_true, len_k, dLt_ii, decide_eq_true h, e1, dMul_ii k1, dAdd_ii, slice_k, em, iterB_l, e2, decide_eq_true n1, abs_i, if_pos n1, dMul_ii k2, dMul_ii k3, dMul_ii k4, dInt_i, dMod_ii hP, cellL3]
    · by_cases n2 : 10 ^ 18 ≤ own
      · refine ⟨own, ?_, by omega⟩
        simp only [pouW, ap_seq, ap_skip, ap_bad, ap_break, ap_cont, ap_if, ap_set, ap_par, ap_par3, ap_ret, ap_retN, ap_expr, ap_asg, ap_for, ap_var, ap_C, ap_f2, ap_f1, ap_nil, ap_cons, ap_tup, ap_lst, ap_cellL, ap_call, ap_fif, ap_bool, ap_tru, ap_and, ap_or, ap_not, ap_andV, ap_orV, ap_notV, ap_chain, ap_part, ap_nopart, ap_slice, ap_disp, ap_pnil, ap_pcons, ap_iter, ap_iterA, ap_lc, ap_gnam, ap_gtup, ap_glst, ap_gsnil, ap_gscons, ap_run, ap_yes, List.length_cons, List.length_nil, List.map_cons, List.map_nil, List.replicate_succ, List.replicate_zero, List.cons_append, List.nil_append, List.getElem?_cons_zero, List.getElem?_cons_succ, List.getElem?_nil, List.set_cons_zero, List.set_cons_succ, if_true, if_false, reduceIte, Nat.reduceAdd, Nat.reduceSub, Bool.false_eq_true, len_k, dLt_ii, decide_eq_true h, e1, dMul_ii k1, dAdd_ii, slice_k, em, iterB_l, e2, decide_eq_false n1, pow18, dGe_ii, decide_eq_true n2, abs_i, if_neg n1, dMul_ii k2, dMul_ii k3, dMul_ii k4, dInt_i, dMod_ii hP, cellL3]
      · refine ⟨0, ?_, by omega⟩
        simp only [pouW, ap_seq, ap_skip, ap_bad, ap_break, ap_cont, ap_if, ap_set, ap_par, ap_par3, ap_ret, ap_retN, ap_expr, ap_asg, ap_for, ap_var, ap_C, ap_f2, ap_f1, ap_nil, ap_cons, ap_tup, ap_lst, ap_cellL, ap_call, ap_fif, ap_bool, ap_tru, ap_and, ap_or, ap_not, ap_andV, ap_orV, ap_notV, ap_chain, ap_part, ap_nopart, ap_slice, ap_disp, ap_pnil, ap_pcons, ap_iter, ap_iterA, ap_lc, ap_gnam, ap_gtup, ap_glst, ap_gsnil, ap_gscons, ap_run, ap_yes, List.length_cons, List.length_nil, List.map_cons, List.map_nil, List.replicate_succ, List.replicate_zero, List.cons_append, List.nil_append, List.getElem?_cons_zero, List.getElem?_cons_succ, List.getElem?_nil, List.set_cons_zero, List.set_cons_succ, if_true, if_false, reduceIte, Nat.reduceAdd, Nat.reduceSub, Bool.false_eq_true, len_k, dLt_ii, decide_eq_true h, e1, dMul_ii k1, dAdd_ii, slice_k, em, iterB_l, e2, decide_eq_false n1, pow18, dGe_ii, decide_eq_false n2, dMul_ii k2, dMul_ii k3, dMul_ii k4, dInt_i, dMod_ii hP, cellL3]
  · have e0 := e1b h
    subst e0
    refine ⟨0, ?_, by omega⟩
    simp only [pouW, ap_seq, ap_skip, ap_bad, ap_break, ap_cont, ap_if, ap_set, ap_par, ap_par3, ap_ret, ap_retN, ap_expr, ap_asg, ap_for, ap_var, ap_C, ap_f2, ap_f1, ap_nil, ap_cons, ap_tup, ap_lst, ap_cellL, ap_call, ap_fif, ap_bool, ap_tru, ap_and, ap_or, ap_not, ap_andV, ap_orV, ap_notV, ap_chain, ap_part, ap_nopart, ap_slice, ap_disp, ap_pnil, ap_pcons, ap_iter, ap_iterA, ap_lc, ap_gnam, ap_gtup, ap_glst, ap_gsnil, ap_gscons, ap_run, ap_yes, List.length_cons, List.length_nil, List.map_cons, List.map_nil, List.replicate_succ, List.replicate_zero, List.cons_append, List.nil_append, List.getElem?_cons_zero, List.getElem?_cons_succ, List.getElem?_nil, List.set_cons_zero, List.set_cons_succ, if_true, if_false, reduceIte, Nat.reduceAdd, Nat.reduceSub, Bool.false_eq_true, len_k, dLt_ii, decide_eq_false h, e1, dMul_ii k1, dAdd_ii, slice_k, em, iterB_l, e2, show decide ((0 : Int) < 0) = false from rfl, pow18, dGe_ii, show decide ((10 : Int) ^ 18 ≤ 0) = false from by decide, dMul_ii k2, dMul_ii k3, dMul_ii k4, dInt_i, dMod_ii hP, cellL3]
theorem atI_map (l : List Int) (t : Nat) (h : t < l.length) : atI (l.map D.int) (t : Int) = some (.int l[t]) := by
  refine atI_nat ?_
  rw [List.getElem?_map, List.getElem?_eq_getElem h]
  rfl
theorem pou_eq {ns : List Int} (hb : ∀ z ∈ ns, Bt z) {c0 c1 c2 A P : Int} {t : Nat} (ht : t < 63) (a0 : 0 ≤ c0) (a1 : c0 ≤ 10 ^ 9) (b0 : 0 ≤ c1) (b1 : c1 ≤ 10 ^ 9) (sc : Sm c2) (hA : Sm A) (hP : 0 < P) (hP2 : P ≤ 2147483587) (g : Gs) :
    ∃ g', runDef 2 5 (pouW c0 c1 c2 P (pouB A P)) [scriptD ns, .int t] g = .ok (.cell g.length) g' ∧ Jar g' g.length 0 := by
  have st : Sm (t : Int) := by unfold Sm; omega
  have s1 : Sm c1 := by unfold Sm; omega
  have tc := Int.mul_le_mul b1 (show (t : Int) ≤ 63 by omega) (by omega) (by decide)
  have tc0 := Int.mul_nonneg b0 (show 0 ≤ (t : Int) by omega)
  obtain ⟨m, em, hm⟩ := cut_map ns none (some 7)
  have own : ∃ own, (if (t : Int) < ((ns.map D.int).length : Int) then dIx (.kst (ns.map D.int)) (.int t) g else .ok (.int 0) g) = .ok (.int own) g ∧ Bt own := by
    by_cases h : t < ns.length
    · refine ⟨ns[t], ?_, hb _ (List.getElem_mem h)⟩
      rw [if_pos (by rw [List.length_map]; omega)]
      show (match atI (ns.map D.int) (t : Int) with | some d => Out.ok d g | none => .bad) = _
      rw [atI_map ns t h]
    · refine ⟨0, ?_, bt_sm (show Sm 0 by decide)⟩
      rw [if_neg (by rw [List.length_map]; omega)]
  obtain ⟨own, e1, bo⟩ := own
  obtain ⟨st', y4, e2, c, d⟩ := pou_loop (y0 := some (scriptD ns)) (y1 := some (.int (t : Int))) (y2 := some (.int own)) hA hP (by omega) g m (c0 + c1 * t) none (fun z hz => hb z (hm z hz)) (by omega) (by omega)
  obtain ⟨a, e, ap⟩ := pou_run (c2 := c2) e1 (okMul_sm s1 st) em e2 (okMul_sm (by unfold Sm; omega) sc) (okMul_bt bo bo) (okMul_sm (show Sm 19 by decide) st) hP
  refine ⟨_, e, ⟨a, _, 0, by rw [List.getElem?_append_right (Nat.le_refl _), Nat.sub_self]; rfl, ap, Int.emod_nonneg _ (by omega), ?_, by omega, by omega⟩⟩
  have := Int.emod_lt_of_pos (st' * c2 + own * own + 19 * (t : Int)) hP
  omega
abbrev lawW (R P : Den) (lo hi : Int) : FS := (sRet (fCall dAll (fCons (fLc (fIterA dRg1 (fCons (fCall dMax2 (fCons (fC (.int lo)) (fCons (fCall dMin2 (fCons (fCall dLen (fCons (fVar 0) fNil)) (fCons (fC (.int hi)) fNil))) fNil))) fNil)) (.one 1) ftYes (fCall R (fCons (fCall P (fCons (fVar 0) (fCons (fVar 1) fNil))) fNil))) fNil)))
theorem law_lc {R P : Den} {x : D} (h : ∀ (t : Nat) (g : Gs), t < 63 → ∃ g', (match P [x, .int t] g with | .ok d g1 => R [d] g1 | .exc e g1 => .exc e g1 | .bad => .bad) = .ok (.bl true) g') : ∀ (l : List Nat) (acc : List D) (y : Option D) (g : Gs), (∀ t ∈ l, t < 63) → acc.length + l.length < 63 → (∃ bs, blsD acc = some bs ∧ bs.all (fun b => b) = true) →
    ∃ r bs g', lcD (.one 1) ftYes (fCall R (fCons (fCall P (fCons (fVar 0) (fCons (fVar 1) fNil))) fNil)) [some x, y] (l.map fun (t : Nat) => D.int (t : Int)) acc g = .ok r g' ∧ blsD r = some bs ∧ bs.all (fun b => b) = true
  | [], acc, y, g, _, _, hb => by
    obtain ⟨bs, b1, b2⟩ := hb
    exact ⟨acc, bs, g, rfl, b1, b2⟩
  | t :: l, acc, y, g, ht, hl, hb => by
    rw [List.length_cons] at hl
    obtain ⟨g', e⟩ := h t g (ht t (by simp))
    obtain ⟨bs, b1, b2⟩ := hb
    have happ : ∀ (acc : List D) (bs : List Bool), blsD acc = some bs → blsD (acc ++ [.bl true]) = some (bs ++ [true]) := by
      intro acc
      induction acc with
      | nil => intro bs h; cases h; rfl
      | cons d ds ih =>
        intro bs h
        cases d with
        | bl b =>
          rw [blsD] at h
          cases q : blsD ds with
          | none => rw [q] at h; cases h
          | some cs =>
            rw [q] at h
            cases h
            rw [List.cons_append, blsD, ih cs q]
            rfl
        | _ => cases h
    obtain ⟨r, cs, g2, e2, c1, c2⟩ := law_lc h l (acc ++ [.bl true]) y g' (fun t' h' => ht t' (by simp [h'])) (by rw [List.length_append]; show acc.length + 1 + l.length < 63; omega) ⟨_, happ acc bs b1, by rw [List.all_append, b2]; rfl⟩
    refine ⟨r, cs, g2, ?_, c1, c2⟩
    rw [List.map_cons, lc_cons, pts_one]
    dsimp only
    have ef : (fCall R (fCons (fCall P (fCons (fVar 0) (fCons (fVar 1) fNil))) fNil)) ([some x, y].set 1 (some (.int (t : Int)))) g = .ok (.bl true) g' := by
      have es : [some x, y].set 1 (some (D.int (t : Int))) = [some x, some (.int (t : Int))] := rfl
      rw [es]
      simp only [ap_seq, ap_skip, ap_bad, ap_break, ap_cont, ap_if, ap_set, ap_par, ap_par3, ap_ret, ap_retN, ap_expr, ap_asg, ap_for, ap_var, ap_C, ap_f2, ap_f1, ap_nil, ap_cons, ap_tup, ap_lst, ap_cellL, ap_call, ap_fif, ap_bool, ap_tru, ap_and, ap_or, ap_not, ap_andV, ap_orV, ap_notV, ap_chain, ap_part, ap_nopart, ap_slice, ap_disp, ap_pnil, ap_pcons, ap_iter, ap_iterA, ap_lc, ap_gnam, ap_gtup, ap_glst, ap_gsnil, ap_gscons, ap_run, ap_yes, List.length_cons, List.length_nil, List.map_cons, List.map_nil, List.replicate_succ, List.replicate_zero, List.cons_append, List.nil_append, List.getElem?_cons_zero, List.getElem?_cons_succ, List.getElem?_nil, List.set_cons_zero, List.set_cons_succ, if_true, if_false, reduceIte, Nat.reduceAdd, Nat.reduceSub, Bool.false_eq_true]
      cases q : P [x, .int t] g with
      | ok d g1 =>
        rw [q] at e
        exact e
      | exc _ _ => rw [q] at e; cases e
      | bad => rw [q] at e; cases e
    rw [ap_yes]
    dsimp only
    rw [ef]
    dsimp only
    rw [if_pos (by unfold sizeLine; omega)]
    exact e2
theorem law_run {R P : Den} {x : D} {lo hi k : Int} {n : Nat} {ds r : List D} {bs : List Bool} {g g' : Gs} (e0 : dLen [x] g = .ok (.int n) g) (hk : (if (if hi < (n : Int) then hi else (n : Int)) > lo then (if hi < (n : Int) then hi else (n : Int)) else lo) = k) (e1 : dRg1 [.int k] g = .ok ds g)
    (e2 : lcD (.one 1) ftYes (fCall R (fCons (fCall P (fCons (fVar 0) (fCons (fVar 1) fNil))) fNil)) [some x, none] ds [] g = .ok r g') (h1 : blsD r = some bs) (h2 : bs.all (fun b => b) = true) : runDef 1 2 (lawW R P lo hi) [x] g = .ok (.bl true) g' := by
  have m2 : dMin2 [.int (n : Int), .int hi] g = .ok (.int (if hi < (n : Int) then hi else (n : Int))) g := rfl
  have m3 : dMax2 [.int lo, .int (if hi < (n : Int) then hi else (n : Int))] g = .ok (.int k) g := by rw [← hk]; rfl
  have a1 : dAll [.lst r] g' = .ok (.bl true) g' := by
    show (match blsD r with | some bs => Out.ok (D.bl (bs.all (fun b => b))) g' | none => .bad) = _
    rw [h1]
    dsimp only
    rw [h2]
  have hw : wipeD [some x, none] [1] = [some x, none] := rfl
  simp only [lawW, ap_seq, ap_skip, ap_bad, ap_break, ap_cont, ap_if, ap_set, ap_par, ap_par3, ap_ret, ap_retN, ap_expr, ap_asg, ap_for, ap_var, ap_C, ap_f2, ap_f1, ap_nil, ap_cons, ap_tup, ap_lst, ap_cellL, ap_call, ap_fif, ap_bool, ap_tru, ap_and, ap_or, ap_not, ap_andV, ap_orV, ap_notV, ap_chain, ap_part, ap_nopart, ap_slice, ap_disp, ap_pnil, ap_pcons, ap_iter, ap_iterA, ap_lc, ap_gnam, ap_gtup, ap_glst, ap_gsnil, ap_gscons, ap_run, ap_yes, List.length_cons, List.length_nil, List.map_cons, List.map_nil, List.replicate_succ, List.replicate_zero, List.cons_append, List.nil_append, List.getElem?_cons_zero, List.getElem?_cons_succ, List.getElem?_nil, List.set_cons_zero, List.set_cons_succ, if_true, if_false, reduceIte, Nat.reduceAdd, Nat.reduceSub, Bool.false_eq_true, e0, m2, m3, e1, ptIx_one, hw, e2, a1]
theorem law_eq {R P : Den} {ns : List Int} {lo hi : Int} (h0 : 0 ≤ lo) (h1 : lo ≤ 62) (h2 : hi ≤ 62) (h : ∀ (t : Nat) (g : Gs), t < 63 → ∃ g', (match P [scriptD ns, .int t] g with | .ok d g1 => R [d] g1 | .exc e g1 => .exc e g1 | .bad => .bad) = .ok (.bl true) g') : ∃ g, runDef 1 2 (lawW R P lo hi) [scriptD ns] [] = .ok (.bl true) g := by
  obtain ⟨k, hk⟩ : ∃ k : Int, (if (if hi < ((ns.map D.int).length : Int) then hi else ((ns.map D.int).length : Int)) > lo then (if hi < ((ns.map D.int).length : Int) then hi else ((ns.map D.int).length : Int)) else lo) = k := ⟨_, rfl⟩
  have kb : 0 ≤ k ∧ k ≤ 62 := by rw [← hk]; split <;> split <;> omega
  have er : (List.range k.toNat).map (fun t => D.int ((t : Nat) : Int)) = rangeD 0 k.toNat := by rw [rangeI, List.map_map]; rfl
  obtain ⟨r, bs, g', e, b1, b2⟩ := law_lc h (List.range k.toNat) [] none [] (fun t ht => by have := List.mem_range.mp ht; omega) (by rw [List.length_range]; show 0 + k.toNat < 63; omega) ⟨[], rfl, rfl⟩
  refine ⟨g', law_run (n := (ns.map D.int).length) (k := k) rfl hk ?_ e b1 b2⟩
  rw [er]
  show (if okRg k = true then Out.ok (rangeD 0 k.toNat) [] else Out.bad) = _
  rw [if_pos (show okRg k = true from decide_eq_true (by omega))]
end LB
set_option maxRecDepth 100000
set_option maxHeartbeats 4000000
namespace LC
open PySem PySem.Spec PyProof.Rows L2 DL LB
abbrev b_Line___init__ : FS := (sSeq (sIf (fNot (fTru (fCall phi_is_one_of (fCons (fVar 1) (fCons (fC (.ktp (ks_SIDES.map D.str))) fNil))))) sBad sSkip)
  (sSeq (sIf (fNot (fTru (fCall phi_is_between (fCons (fVar 2) (fCons (fC (.int 1)) (fCons (fC (.int (10 ^ 30))) fNil)))))) sBad sSkip)
  (sSeq (sIf (fOr (fNot (fTru (fCall phi_is_between (fCons (fVar 3) (fCons (fC (.int 1)) (fCons (fC (.int (10 ^ 30))) fNil)))))) (fNot (fTru (fCall phi_wheel_fits (fCons (fVar 1) (fCons (fVar 2) (fCons (fVar 3) fNil))))))) sBad sSkip)
  (sSeq (sIf (fOr (fNot (fTru (fCall phi_is_between (fCons (fVar 4) (fCons (fC (.int 0)) (fCons (fC (.int (10 ^ 30))) fNil)))))) (fTru (fCall phi_is_stroke (fCons (fVar 1) (fCons (fVar 2) (fCons (fVar 3) (fCons (fVar 4) fNil))))))) sBad sSkip)
  (sSeq (sIf (fNot (fTru (fCall phi_is_between (fCons (fVar 5) (fCons (fC (.int 0)) (fCons (fC (.int (10 ^ 30))) fNil)))))) sBad sSkip)
  (sSeq (sFld "Line" "side" (fVar 0) (fVar 1))
  (sSeq (sFld "Line" "ring" (fVar 0) (fVar 2))
  (sSeq (sFld "Line" "wheel" (fVar 0) (fVar 3))
  (sSeq (sFld "Line" "arm" (fVar 0) (fVar 4))
  (sFld "Line" "tooth" (fVar 0) (fVar 5)))))))))))
def phi_Line___init__ : Den := runDef 6 6 b_Line___init__
noncomputable abbrev b__law_line : FS := (sRet (fCall (dMake "Line" phi_Line___init__) (fCons (f2 dIx (fVar 0) (fC (.int 0))) (fCons (f2 dIx (fVar 0) (fC (.int 1))) (fCons (f2 dIx (fVar 0) (fC (.int 2))) (fCons (f2 dIx (fVar 0) (fC (.int 3))) (fCons (f2 dIx (fVar 0) (fC (.int 4))) fNil)))))))
noncomputable def phi__law_line : Den := runDef 1 1 b__law_line
abbrev b_Line_setting : FS := (sRet (fTup (fCons (f1 (dFld "Line" "side") (fVar 0)) (fCons (f1 (dFld "Line" "ring") (fVar 0)) (fCons (f1 (dFld "Line" "wheel") (fVar 0)) (fCons (f1 (dFld "Line" "arm") (fVar 0)) (fCons (f1 (dFld "Line" "tooth") (fVar 0)) fNil)))))))
def phi_Line_setting : Den := runDef 1 1 b_Line_setting
abbrev b_inverse : FS := (sSeq (sAsg (fTup (fCons (fC (.int 0)) (fCons (fC (.int 1)) fNil))) (gTup 2 (gsCons (gNam 2) (gsCons (gNam 3) gsNil))))
  (sSeq (sPar 4 5 (fCons (fVar 1) (fCons (f2 dMod (fCall dInt (fCons (fVar 0) fNil)) (fVar 1)) fNil)))
  (sSeq (sWhile (fBool (f2 dGt (fVar 5) (fC (.int 0)))) (sSeq (sSet 6 (f2 dFdiv (fVar 4) (fVar 5)))
  (sSeq (sPar 4 5 (fCons (fVar 5) (fCons (f2 dSub (fVar 4) (f2 dMul (fVar 6) (fVar 5))) fNil)))
  (sPar 2 3 (fCons (fVar 3) (fCons (f2 dSub (fVar 2) (f2 dMul (fVar 6) (fVar 3))) fNil))))))
  (sRet (f2 dMod (fCall dInt (fCons (fVar 2) fNil)) (fVar 1))))))
def phi_inverse : Den := runDef 2 7 b_inverse
abbrev b_shift_of : FS := (sSeq (sSet 2 (fLc (fIterA dZip (fCons (fVar 0) (fCons (fVar 1) fNil))) (.tup [3, 4]) ftYes (fCall phi_summed (fCons (f2 dIx (fVar 3) (fC (.int 2))) (fCons (fCall phi_scaled (fCons (f1 dNeg (fC (.int 1))) (fCons (f2 dIx (fVar 4) (fC (.int 2))) fNil))) fNil)))))
  (sSeq (sIf (fBool (f2 dEq (fCall dLen (fCons (fVar 0) fNil)) (fC (.int 1)))) (sRet (fCall phi_scaled (fCons (f2 dIx (f2 dIx (fVar 0) (fC (.int 0))) (fC (.int 1))) (fCons (f2 dIx (fVar 2) (fC (.int 0))) fNil)))) sSkip)
  (sSeq (sPar 3 4 (fCons (f2 dIx (f2 dIx (fVar 0) (fC (.int 0))) (fC (.int 1))) (fCons (f2 dIx (f2 dIx (fVar 0) (fC (.int 1))) (fC (.int 1))) fNil)))
  (sSeq (sSet 5 (fIf (fBool (f2 dGt (fCall dAbs (fCons (fVar 4) fNil)) (fC (.int 1)))) (fCall phi_inverse (fCons (fVar 3) (fCons (fCall dAbs (fCons (fVar 4) fNil)) fNil))) (fC (.int 0))))
  (sSeq (sSet 6 (f2 dFdiv (f2 dSub (fC (.int 1)) (f2 dMul (fVar 5) (fVar 3))) (fVar 4)))
  (sRet (fCall phi_summed (fCons (fCall phi_scaled (fCons (fVar 5) (fCons (f2 dIx (fVar 2) (fC (.int 0))) fNil))) (fCons (fCall phi_scaled (fCons (fVar 6) (fCons (f2 dIx (fVar 2) (fC (.int 1))) fNil))) fNil)))))))))
def phi_shift_of : Den := runDef 2 7 b_shift_of
abbrev b_paper_for : FS := (sSeq (sFor (fIter dIterB (fTup (fCons (fC (.bl false)) (fCons (fC (.bl true)) fNil)))) (gNam 2) (sFor (fIter dIterB (fTup (fCons (fC (.bl false)) (fCons (fC (.bl true)) fNil)))) (gNam 3) (sSeq (sSet 4 (fIf (fTru (fVar 2)) (f1 dRev2 (fCall phi_terms_of (fCons (fVar 1) fNil))) (fCall phi_terms_of (fCons (fVar 1) fNil))))
  (sSeq (sIf (fTru (fVar 3)) (sSet 4 (fCall dTupOf (fCons (fLc (fIter dIterB (fVar 4)) (.tup [7, 8, 9]) ftYes (fTup (fCons (fVar 7) (fCons (f1 dNeg (fVar 8)) (fCons (fVar 9) fNil))))) fNil))) sSkip)
  (sIf (fBool (f2 dEq (fLc (fIter dIterB (fCall phi_terms_of (fCons (fVar 0) fNil))) (.one 6) ftYes (fSlice (fVar 6) fNoPart (fPart (fC (.int 2))))) (fLc (fIter dIterB (fVar 4)) (.one 6) ftYes (fSlice (fVar 6) fNoPart (fPart (fC (.int 2))))))) (sSeq (sSet 5 (fTup (fCons (fVar 2) (fCons (fVar 3) (fCons (fCall phi_shift_of (fCons (fCall phi_terms_of (fCons (fVar 0) fNil)) (fCons (fVar 4) fNil))) fNil)))))
  (sIf (fTru (fCall phi_is_same_line (fCons (fVar 0) (fCons (fVar 1) (fCons (fVar 5) fNil))))) (sRet (fVar 5)) sSkip)) sSkip)))))
  (sRet (fC .non)))
def phi_paper_for : Den := runDef 2 10 b_paper_for
abbrev b_signed : FS := (sSeq (sAsg (fIf (fBool (f2 dGe (f2 dIx (f2 dIx (fVar 0) (fC (.int 0))) (fC (.int 0))) (f2 dIx (f2 dIx (fVar 0) (fC (.int 1))) (fC (.int 0))))) (fVar 0) (fTup (fCons (f2 dIx (fVar 0) (fC (.int 1))) (fCons (f2 dIx (fVar 0) (fC (.int 0))) fNil)))) (gTup 2 (gsCons (gNam 1) (gsCons (gNam 2) gsNil))))
  (sRet (fTup (fCons (fTup (fCons (f2 dIx (fVar 1) (fC (.int 0))) (fCons (fC (.int 1)) (fCons (f2 dIx (fVar 1) (fC (.int 2))) fNil)))) (fCons (fTup (fCons (f2 dIx (fVar 2) (fC (.int 0))) (fCons (f1 dNeg (fC (.int 1))) (fCons (f2 dIx (fVar 2) (fC (.int 2))) fNil)))) fNil)))))
def phi_signed : Den := runDef 1 3 b_signed
abbrev b_plain_of : FS := (sSeq (sSet 1 (fCall phi_terms_of (fCons (fVar 0) fNil)))
  (sSeq (sIf (fBool (f2 dEq (fCall dLen (fCons (fVar 1) fNil)) (fC (.int 1)))) (sRet (fTup (fCons (fC (.str "circle")) (fCons (f2 dIx (f2 dIx (fVar 1) (fC (.int 0))) (fC (.int 0))) fNil)))) sSkip)
  (sSeq (sSet 2 (f2 dAdd (f2 dIx (f2 dIx (fVar 1) (fC (.int 0))) (fC (.int 1))) (f2 dIx (f2 dIx (fVar 1) (fC (.int 1))) (fC (.int 1)))))
  (sSeq (sIf (fBool (f2 dLt (fVar 2) (fC (.int 0)))) (sSet 1 (fCall dTupOf (fCons (fLc (fIter dIterB (fVar 1)) (.tup [6, 7, 8]) ftYes (fTup (fCons (fVar 6) (fCons (f1 dNeg (fVar 7)) (fCons (fVar 8) fNil))))) fNil))) sSkip)
  (sSeq (sIf (fBool (f2 dEq (fVar 2) (fC (.int 0)))) (sSet 1 (fCall phi_signed (fCons (fVar 1) fNil))) sSkip)
  (sSeq (sAsg (fIf (fBool (f2 dGt (f2 dIx (f2 dIx (fVar 1) (fC (.int 0))) (fC (.int 1))) (f2 dIx (f2 dIx (fVar 1) (fC (.int 1))) (fC (.int 1))))) (fVar 1) (fTup (fCons (f2 dIx (fVar 1) (fC (.int 1))) (fCons (f2 dIx (fVar 1) (fC (.int 0))) fNil)))) (gTup 2 (gsCons (gNam 3) (gsCons (gNam 4) gsNil))))
  (sSeq (sSet 5 (fCall phi_summed (fCons (fCall phi_scaled (fCons (f2 dIx (fVar 3) (fC (.int 1))) (fCons (f2 dIx (fVar 4) (fC (.int 2))) fNil))) (fCons (fCall phi_scaled (fCons (f1 dNeg (f2 dIx (fVar 4) (fC (.int 1)))) (fCons (f2 dIx (fVar 3) (fC (.int 2))) fNil))) fNil))))
  (sRet (fTup (fCons (f2 dIx (fVar 3) (fC (.int 0))) (fCons (f2 dIx (fVar 3) (fC (.int 1))) (fCons (f2 dIx (fVar 4) (fC (.int 0))) (fCons (f2 dIx (fVar 4) (fC (.int 1))) (fCons (fVar 5) fNil))))))))))))))
def phi_plain_of : Den := runDef 1 9 b_plain_of
abbrev b_Line_plain : FS := (sRet (fCall phi_plain_of (fCons (f1 (dProp "Line" phi_Line_setting) (fVar 0)) fNil)))
def phi_Line_plain : Den := runDef 1 1 b_Line_plain
abbrev b_check_line : FS := (sIf (fNot (fTru (fCall (dIsC "Line") (fCons (fVar 0) (fCons (fC (.glo "Line")) fNil))))) sBad sSkip)
def phi_check_line : Den := runDef 1 1 b_check_line
abbrev b_same : FS := (sSeq (sExpr (fCall phi_check_line (fCons (fVar 0) fNil)))
  (sSeq (sExpr (fCall phi_check_line (fCons (fVar 1) fNil)))
  (sRet (f2 dEq (f1 (dProp "Line" phi_Line_plain) (fVar 0)) (f1 (dProp "Line" phi_Line_plain) (fVar 1))))))
def phi_same : Den := runDef 2 2 b_same
abbrev b_certify_same : FS := (sSeq (sIf (fNot (fTru (fCall phi_same (fCons (fVar 0) (fCons (fVar 1) fNil))))) (sRet (fC .non)) sSkip)
  (sRet (fTup (fCons (fTup (fCons (fC (.str "same line")) (fCons (f1 (dProp "Line" phi_Line_setting) (fVar 0)) (fCons (f1 (dProp "Line" phi_Line_setting) (fVar 1)) fNil)))) (fCons (fCall phi_paper_for (fCons (f1 (dProp "Line" phi_Line_setting) (fVar 0)) (fCons (f1 (dProp "Line" phi_Line_setting) (fVar 1)) fNil))) fNil)))))
def phi_certify_same : Den := runDef 2 2 b_certify_same
end LC
set_option maxRecDepth 100000
set_option maxHeartbeats 4000000
namespace LC
open PySem PySem.Spec PyProof.Rows L2 DL LB
section
variable (ρ : DL.Env) (g : Gs) (fo fv fa : FE) (fs : FA) (c f m : Str) (phi : Den)
/-- what a store does with the values -/
def stF (c f : Str) (ρ : DL.Env) (d ob : D) (g2 : Gs) : OutS := match ob with
  | .cell n => (match g2[n]? with
    | some (.ins c' l) => if c' = c ∧ l.length < 1000 then .nx ρ (g2.set n (.ins c (putD f d l))) else .bad
    | _ => .bad)
  | _ => .bad
theorem ap_sfld : sFld c f fo fv ρ g = match fv ρ g with
  | .ok d g1 => (match fo ρ g1 with
    | .ok ob g2 => stF c f ρ d ob g2
    | .exc x g' => .ex x ρ g'
    | .bad => .bad)
  | .exc x g' => .ex x ρ g'
  | .bad => .bad := by
  show sOf (fv ρ g) ρ _ = _
  cases fv ρ g with
  | ok d g1 => show sOf (fo ρ g1) ρ _ = _; dsimp only; cases fo ρ g1 <;> rfl
  | exc x g' => rfl
  | bad => rfl
end
theorem fld_step {c f : Str} {ρ : DL.Env} {i : Nat} {d : D} {fs fs' : List (Str × D)} {g : Gs} (h0 : ρ[0]? = some (some (.cell g.length))) (hi : ρ[i]? = some (some d)) (hl : fs.length < 1000) (hp : putD f d fs = fs') :
    sFld c f (fVar 0) (fVar i) ρ (g ++ [.ins c fs]) = .nx ρ (g ++ [.ins c fs']) := by
  rw [ap_sfld, ap_var, hi]
  dsimp only
  rw [ap_var, h0]
  dsimp only
  unfold stF
  dsimp only
  have e1 : (g ++ [CO.ins c fs])[g.length]? = some (.ins c fs) := by rw [List.getElem?_append_right (Nat.le_refl _), Nat.sub_self]; rfl
  rw [e1]
  dsimp only
  rw [if_pos ⟨rfl, hl⟩, hp]
  congr 1
  rw [List.set_append_right _ _ (Nat.le_refl _), Nat.sub_self]
  rfl
/-- a new instance is what __init__ has made of it -/
theorem make_of {c : Str} {phi : Den} {ds : List D} {fs : List (Str × D)} {g : Gs} (h : phi (.cell g.length :: ds) (g ++ [.ins c []]) = .ok .non (g ++ [.ins c fs])) (ho : okCF g.length fs = true) : dMake c phi ds g = .ok (.ins c fs) g := by
  unfold dMake
  rw [h]
  dsimp only
  have e1 : (g ++ [CO.ins c fs])[g.length]? = some (.ins c fs) := by rw [List.getElem?_append_right (Nat.le_refl _), Nat.sub_self]; rfl
  rw [e1]
  dsimp only
  rw [if_pos ⟨rfl, rfl, ho⟩]
abbrev lineF (a b c d e : D) : List (Str × D) := [("side", a), ("ring", b), ("wheel", c), ("arm", d), ("tooth", e)]
abbrev lineD (s : St5) : D := .ins "Line" (lineF (.str s.sd.s) (.int s.R) (.int s.w) (.int s.a) (.int s.t))
theorem put1 (a : D) : putD "side" a [] = ([("side", a)] : List (Str × D)) := rfl
theorem put2 (a b : D) : putD "ring" b [("side", a)] = ([("side", a), ("ring", b)] : List (Str × D)) := rfl
theorem put3 (a b c : D) : putD "wheel" c [("side", a), ("ring", b)] = ([("side", a), ("ring", b), ("wheel", c)] : List (Str × D)) := rfl
theorem put4 (a b c d : D) : putD "arm" d [("side", a), ("ring", b), ("wheel", c)] = ([("side", a), ("ring", b), ("wheel", c), ("arm", d)] : List (Str × D)) := rfl
theorem put5 (a b c d e : D) : putD "tooth" e [("side", a), ("ring", b), ("wheel", c), ("arm", d)] = lineF a b c d e := rfl
theorem init_eq {s : St5} (h : Vd s) (ks : s.stroke = false) (g : Gs) :
    phi_Line___init__ [.cell g.length, .str s.sd.s, .int s.R, .int s.w, .int s.a, .int s.t] (g ++ [.ins "Line" []]) = .ok .non (g ++ [.ins "Line" (lineF (.str s.sd.s) (.int s.R) (.int s.w) (.int s.a) (.int s.t))]) := by
  have st := stroke_eq h
  have ft := fits_eq h
  rw [ks] at st
  have r1 := h.r1; have w1 := h.w1; have a0 := h.a0; have t0 := h.t0; have rB := h.rB; have wB := h.wB; have aB := h.aB; have tB := h.tB
  unfold L30 at rB wB aB tB
  have f1 := fld_step (c := "Line") (ρ := [some (.cell g.length), some (.str s.sd.s), some (.int s.R), some (.int s.w), some (.int s.a), some (.int s.t)]) (i := 1) (g := g) rfl rfl (by decide) (put1 (.str s.sd.s))
  have f2 := fld_step (c := "Line") (ρ := [some (.cell g.length), some (.str s.sd.s), some (.int s.R), some (.int s.w), some (.int s.a), some (.int s.t)]) (i := 2) (g := g) rfl rfl (by simp) (put2 (.str s.sd.s) (.int s.R))
  have f3 := fld_step (c := "Line") (ρ := [some (.cell g.length), some (.str s.sd.s), some (.int s.R), some (.int s.w), some (.int s.a), some (.int s.t)]) (i := 3) (g := g) rfl rfl (by simp) (put3 (.str s.sd.s) (.int s.R) (.int s.w))
  have f4 := fld_step (c := "Line") (ρ := [some (.cell g.length), some (.str s.sd.s), some (.int s.R), some (.int s.w), some (.int s.a), some (.int s.t)]) (i := 4) (g := g) rfl rfl (by simp) (put4 (.str s.sd.s) (.int s.R) (.int s.w) (.int s.a))
  have f5 := fld_step (c := "Line") (ρ := [some (.cell g.length), some (.str s.sd.s), some (.int s.R), some (.int s.w), some (.int s.a), some (.int s.t)]) (i := 5) (g := g) rfl rfl (by simp) (put5 (.str s.sd.s) (.int s.R) (.int s.w) (.int s.a) (.int s.t))
  unfold phi_Line___init__
  simp only [b_Line___init__, ap_seq, ap_skip, ap_bad, ap_break, ap_cont, ap_if, ap_set, ap_par, ap_par3, ap_ret, ap_retN, ap_expr, ap_asg, ap_for, ap_var, ap_C, ap_f2, ap_f1, ap_nil, ap_cons, ap_tup, ap_lst, ap_cellL, ap_call, ap_fif, ap_bool, ap_tru, ap_and, ap_or, ap_not, ap_andV, ap_orV, ap_notV, ap_chain, ap_part, ap_nopart, ap_slice, ap_disp, ap_pnil, ap_pcons, ap_iter, ap_iterA, ap_lc, ap_gnam, ap_gtup, ap_glst, ap_gsnil, ap_gscons, ap_run, ap_yes, List.length_cons, List.length_nil, List.map_cons, List.map_nil, List.replicate_succ, List.replicate_zero, List.cons_append, List.nil_append, List.getElem?_cons_zero, List.getElem?_cons_succ, List.getElem?_nil, List.set_cons_zero, List.set_cons_succ, if_true, if_false, reduceIte, Nat.reduceAdd, Nat.reduceSub, Bool.false_eq_true, one_of_eq, tru_b, between_eq, decide_eq_true r1, decide_eq_true w1, decide_eq_true a0, decide_eq_true t0, decide_eq_true rB, decide_eq_true wB, decide_eq_true aB, decide_eq_true tB, Bool.not_true, Bool.not_false, Bool.and_self, ft, st, f1, f2, f3, f4, f5]
theorem line_eq {s : St5} (h : Vd s) (ks : s.stroke = false) (g : Gs) : phi__law_line [stD s] g = .ok (lineD s) g := by
  have e := make_of (c := "Line") (init_eq h ks g) (by simp [okCF, okC])
  unfold phi__law_line
  simp only [b__law_line, ap_seq, ap_skip, ap_bad, ap_break, ap_cont, ap_if, ap_set, ap_par, ap_par3, ap_ret, ap_retN, ap_expr, ap_asg, ap_for, ap_var, ap_C, ap_f2, ap_f1, ap_nil, ap_cons, ap_tup, ap_lst, ap_cellL, ap_call, ap_fif, ap_bool, ap_tru, ap_and, ap_or, ap_not, ap_andV, ap_orV, ap_notV, ap_chain, ap_part, ap_nopart, ap_slice, ap_disp, ap_pnil, ap_pcons, ap_iter, ap_iterA, ap_lc, ap_gnam, ap_gtup, ap_glst, ap_gsnil, ap_gscons, ap_run, ap_yes, List.length_cons, List.length_nil, List.map_cons, List.map_nil, List.replicate_succ, List.replicate_zero, List.cons_append, List.nil_append, List.getElem?_cons_zero, List.getElem?_cons_succ, List.getElem?_nil, List.set_cons_zero, List.set_cons_succ, if_true, if_false, reduceIte, Nat.reduceAdd, Nat.reduceSub, Bool.false_eq_true, ix0, ix1, ix2, ix3, ix4, e]
theorem fld_side (a b c d e : D) (g : Gs) : dFld "Line" "side" (.ins "Line" (lineF a b c d e)) g = .ok a g := rfl
theorem fld_ring (a b c d e : D) (g : Gs) : dFld "Line" "ring" (.ins "Line" (lineF a b c d e)) g = .ok b g := rfl
theorem fld_wheel (a b c d e : D) (g : Gs) : dFld "Line" "wheel" (.ins "Line" (lineF a b c d e)) g = .ok c g := rfl
theorem fld_arm (a b c d e : D) (g : Gs) : dFld "Line" "arm" (.ins "Line" (lineF a b c d e)) g = .ok d g := rfl
theorem fld_tooth (a b c d e : D) (g : Gs) : dFld "Line" "tooth" (.ins "Line" (lineF a b c d e)) g = .ok e g := rfl
theorem setting_of (s : St5) (g : Gs) : phi_Line_setting [lineD s] g = .ok (stD s) g := by
  unfold phi_Line_setting
  simp only [b_Line_setting, ap_seq, ap_skip, ap_bad, ap_break, ap_cont, ap_if, ap_set, ap_par, ap_par3, ap_ret, ap_retN, ap_expr, ap_asg, ap_for, ap_var, ap_C, ap_f2, ap_f1, ap_nil, ap_cons, ap_tup, ap_lst, ap_cellL, ap_call, ap_fif, ap_bool, ap_tru, ap_and, ap_or, ap_not, ap_andV, ap_orV, ap_notV, ap_chain, ap_part, ap_nopart, ap_slice, ap_disp, ap_pnil, ap_pcons, ap_iter, ap_iterA, ap_lc, ap_gnam, ap_gtup, ap_glst, ap_gsnil, ap_gscons, ap_run, ap_yes, List.length_cons, List.length_nil, List.map_cons, List.map_nil, List.replicate_succ, List.replicate_zero, List.cons_append, List.nil_append, List.getElem?_cons_zero, List.getElem?_cons_succ, List.getElem?_nil, List.set_cons_zero, List.set_cons_succ, if_true, if_false, reduceIte, Nat.reduceAdd, Nat.reduceSub, Bool.false_eq_true, fld_side, fld_ring, fld_wheel, fld_arm, fld_tooth, dTup_ok, okSz5]
theorem prop_of {s : St5} {phi : Den} {d : D} {g g' : Gs} (h : phi [lineD s] g = .ok d g') : dProp "Line" phi (lineD s) g = .ok d g' := by
  show (match phi [lineD s] g with | .ok d g' => Out.ok d g' | _ => .bad) = _
  rw [h]
theorem prop_setting (s : St5) (g : Gs) : dProp "Line" phi_Line_setting (lineD s) g = .ok (stD s) g := prop_of (setting_of s g)
theorem isC_line (s : St5) (g : Gs) : dIsC "Line" [lineD s, .glo "Line"] g = .ok (.bl true) g := rfl
theorem check_line_eq (s : St5) (g : Gs) : phi_check_line [lineD s] g = .ok .non g := by
  unfold phi_check_line
  simp only [b_check_line, ap_seq, ap_skip, ap_bad, ap_break, ap_cont, ap_if, ap_set, ap_par, ap_par3, ap_ret, ap_retN, ap_expr, ap_asg, ap_for, ap_var, ap_C, ap_f2, ap_f1, ap_nil, ap_cons, ap_tup, ap_lst, ap_cellL, ap_call, ap_fif, ap_bool, ap_tru, ap_and, ap_or, ap_not, ap_andV, ap_orV, ap_notV, ap_chain, ap_part, ap_nopart, ap_slice, ap_disp, ap_pnil, ap_pcons, ap_iter, ap_iterA, ap_lc, ap_gnam, ap_gtup, ap_glst, ap_gsnil, ap_gscons, ap_run, ap_yes, List.length_cons, List.length_nil, List.map_cons, List.map_nil, List.replicate_succ, List.replicate_zero, List.cons_append, List.nil_append, List.getElem?_cons_zero, List.getElem?_cons_succ, List.getElem?_nil, List.set_cons_zero, List.set_cons_succ, if_true, if_false, reduceIte, Nat.reduceAdd, Nat.reduceSub, Bool.false_eq_true, isC_line, tru_b, Bool.not_true]
end LC
set_option maxRecDepth 100000
set_option maxHeartbeats 4000000
namespace LC
open PySem PySem.Spec PyProof.Rows L2 DL LB
def sc (u : Int) (P : Int × Int) : Int × Int := pt (u * P.1) P.2
def lin (u : Int) (P : Int × Int) (v : Int) (Q : Int × Int) : Int × Int := pt ((sc u P).1 * (sc v Q).2 + (sc v Q).1 * (sc u P).2) ((sc u P).2 * (sc v Q).2)
theorem sc_cn {u : Int} {P : Int × Int} (h : Cn P) : Cn (sc u P) := pt_cn h.pos
theorem sc_val {u : Int} {P : Int × Int} (h : Cn P) : EqZ (vl (sc u P)) ((u : Rat) * vl P) := by
  refine (pt_val (a := u * P.1) h.pos).trans (.of_eq ?_)
  unfold vl
  rw [Rat.intCast_mul]
  have h0 := ne0 (show P.2 ≠ 0 by have := h.pos; omega)
  generalize (P.1 : Rat) = x at *
  generalize (P.2 : Rat) = y at *
  generalize (u : Rat) = u at *
  grind
theorem lin_cn {u v : Int} {P Q : Int × Int} (h : Cn P) (h' : Cn Q) : Cn (lin u P v Q) := pt_cn (Int.mul_pos (sc_cn h).pos (sc_cn h').pos)
theorem lin_val {u v : Int} {P Q : Int × Int} (h : Cn P) (h' : Cn Q) : EqZ (vl (lin u P v Q)) ((u : Rat) * vl P + (v : Rat) * vl Q) := by
  have a := (sc_cn (u := u) h).pos
  have b := (sc_cn (u := v) h').pos
  refine (pt_val (Int.mul_pos a b)).trans (EqZ.trans (.of_eq ?_) ((sc_val h).add (sc_val h')))
  have h0 := ne0 (show (sc u P).2 ≠ 0 by omega)
  have h1 := ne0 (show (sc v Q).2 ≠ 0 by omega)
  unfold vl
  simp only [Rat.intCast_add, Rat.intCast_mul]
  generalize ((sc u P).1 : Rat) = x at *
  generalize ((sc u P).2 : Rat) = y at *
  generalize ((sc v Q).1 : Rat) = z at *
  generalize ((sc v Q).2 : Rat) = w at *
  grind
theorem sc_le {u : Int} {P : Int × Int} (h : Cn P) : (sc u P).2 ≤ P.2 := pt_le h.pos
theorem md_cn {P : Int × Int} (h : Cn P) (hb : P.2 ≤ 10 ^ 98) : Md P.1 ∧ Md P.2 := by
  have a := h.1
  have b := h.2.1
  exact ⟨by unfold Md; omega, by unfold Md; omega⟩
theorem sc_eq {u : Int} {P : Int × Int} (h : Cn P) (hu : Md u) (hb : P.2 ≤ 10 ^ 98) (g : Gs) : phi_scaled [.int u, pD P] g = .ok (pD (sc u P)) g := by
  have m := md_cn h hb
  exact scaled_eq h.pos hu m.1 m.2 g
theorem lin_eq {u v : Int} {P Q : Int × Int} (h : Cn P) (h' : Cn Q) (hb : P.2 ≤ 10 ^ 98) (hb' : Q.2 ≤ 10 ^ 98) (g : Gs) : phi_summed [pD (sc u P), pD (sc v Q)] g = .ok (pD (lin u P v Q)) g := by
  have a := sc_cn (u := u) h
  have b := sc_cn (u := v) h'
  have l := sc_le (u := u) h
  have l' := sc_le (u := v) h'
  have m := md_cn a (by omega)
  have m' := md_cn b (by omega)
  exact summed_eq a.pos b.pos m.1 m.2 m'.1 m'.2 g
theorem lin_mark {s : St5} (h : Vd s) {u v : Int} {P Q : Int × Int} (hP : Cn P) (hQ : Cn Q) (e : EqZ ((u : Rat) * vl P + (v : Rat) * vl Q) (vl s.mark)) : lin u P v Q = s.mark := cn_uniq (lin_cn hP hQ) (mark_cn h) ((lin_val hP hQ).trans e)
theorem neg1 (g : Gs) : dNeg (.int 1) g = .ok (.int (-1)) g := (rfl)
theorem signed_eq (a b p q : Int) (x y : D) (g : Gs) : phi_signed [.tup [.tup [.int a, .int p, x], .tup [.int b, .int q, y]]] g = .ok (if b ≤ a then .tup [.tup [.int a, .int 1, x], .tup [.int b, .int (-1), y]] else .tup [.tup [.int b, .int 1, y], .tup [.int a, .int (-1), x]]) g := by
  unfold phi_signed
  by_cases c : b ≤ a
  · simp only [b_signed, ap_seq, ap_skip, ap_bad, ap_break, ap_cont, ap_if, ap_set, ap_par, ap_par3, ap_ret, ap_retN, ap_expr, ap_asg, ap_for, ap_var, ap_C, ap_f2, ap_f1, ap_nil, ap_cons, ap_tup, ap_lst, ap_cellL, ap_call, ap_fif, ap_bool, ap_tru, ap_and, ap_or, ap_not, ap_andV, ap_orV, ap_notV, ap_chain, ap_part, ap_nopart, ap_slice, ap_disp, ap_pnil, ap_pcons, ap_iter, ap_iterA, ap_lc, ap_gnam, ap_gtup, ap_glst, ap_gsnil, ap_gscons, ap_run, ap_yes, List.length_cons, List.length_nil, List.map_cons, List.map_nil, List.replicate_succ, List.replicate_zero, List.cons_append, List.nil_append, List.getElem?_cons_zero, List.getElem?_cons_succ, List.getElem?_nil, List.set_cons_zero, List.set_cons_succ, if_true, if_false, reduceIte, Nat.reduceAdd, Nat.reduceSub, Bool.false_eq_true, ix0, ix1, ix2, dGe_ii, decide_eq_true c, neg1, dTup_ok, okSz2, okSz3, if_pos c]
  · simp only [b_signed, ap_seq, ap_skip, ap_bad, ap_break, ap_cont, ap_if, ap_set, ap_par, ap_par3, ap_ret, ap_retN, ap_expr, ap_asg, ap_for, ap_var, ap_C, ap_f2, ap_f1, ap_nil, ap_cons, ap_tup, ap_lst, ap_cellL, ap_call, ap_fif, ap_bool, ap_tru, ap_and, ap_or, ap_not, ap_andV, ap_orV, ap_notV, ap_chain, ap_part, ap_nopart, ap_slice, ap_disp, ap_pnil, ap_pcons, ap_iter, ap_iterA, ap_lc, ap_gnam, ap_gtup, ap_glst, ap_gsnil, ap_gscons, ap_run, ap_yes, List.length_cons, List.length_nil, List.map_cons, List.map_nil, List.replicate_succ, List.replicate_zero, List.cons_append, List.nil_append, List.getElem?_cons_zero, List.getElem?_cons_succ, List.getElem?_nil, List.set_cons_zero, List.set_cons_succ, if_true, if_false, reduceIte, Nat.reduceAdd, Nat.reduceSub, Bool.false_eq_true, ix0, ix1, ix2, dGe_ii, decide_eq_false c, neg1, dTup_ok, okSz2, okSz3, if_neg c]
/-- the end of plain_of, from two terms -/
abbrev plE : FS := (sSeq (sAsg (fIf (fBool (f2 dGt (f2 dIx (f2 dIx (fVar 1) (fC (.int 0))) (fC (.int 1))) (f2 dIx (f2 dIx (fVar 1) (fC (.int 1))) (fC (.int 1))))) (fVar 1) (fTup (fCons (f2 dIx (fVar 1) (fC (.int 1))) (fCons (f2 dIx (fVar 1) (fC (.int 0))) fNil)))) (gTup 2 (gsCons (gNam 3) (gsCons (gNam 4) gsNil))))
  (sSeq (sSet 5 (fCall phi_summed (fCons (fCall phi_scaled (fCons (f2 dIx (fVar 3) (fC (.int 1))) (fCons (f2 dIx (fVar 4) (fC (.int 2))) fNil))) (fCons (fCall phi_scaled (fCons (f1 dNeg (f2 dIx (fVar 4) (fC (.int 1)))) (fCons (f2 dIx (fVar 3) (fC (.int 2))) fNil))) fNil))))
  (sRet (fTup (fCons (f2 dIx (fVar 3) (fC (.int 0))) (fCons (f2 dIx (fVar 3) (fC (.int 1))) (fCons (f2 dIx (fVar 4) (fC (.int 0))) (fCons (f2 dIx (fVar 4) (fC (.int 1))) (fCons (fVar 5) fNil)))))))))
theorem plE_eq {s : St5} (h : Vd s) {y0 y2 y3 y4 y5 y6 y7 y8 : Option D} {a b u v : Int} {P Q : Int × Int} (hP : Cn P) (hQ : Cn Q) (bP : P.2 ≤ 2 * L30) (bQ : Q.2 ≤ 2 * L30) (hu : Md u) (hv : Md v) (hv2 : Md (-v)) (hu2 : Md (-u)) (g : Gs)
    (e : EqZ ((u : Rat) * vl Q - (v : Rat) * vl P) (vl s.mark)) (e2 : ¬ v < u → EqZ ((v : Rat) * vl P - (u : Rat) * vl Q) (vl s.mark)) :
    v < u → plE [y0, some (.tup [.tup [.int a, .int u, pD P], .tup [.int b, .int v, pD Q]]), y2, y3, y4, y5, y6, y7, y8] g = .rt (.tup [.int a, .int u, .int b, .int v, pD s.mark]) g := by
  intro c
  rw [L30_eq] at bP bQ
  have k1 := fun g => sc_eq (u := u) hQ hu (by omega) g
  have k2 := fun g => sc_eq (u := -v) hP hv2 (by omega) g
  have k3 := fun g => lin_eq (u := u) (v := -v) hQ hP (by omega) (by omega) g
  have k4 : lin u Q (-v) P = s.mark := lin_mark h hQ hP (by
    refine EqZ.trans (.of_eq ?_) e
    rw [Rat.intCast_neg]
    grind)
  rw [k4] at k3
  simp only [plE, ap_seq, ap_skip, ap_bad, ap_break, ap_cont, ap_if, ap_set, ap_par, ap_par3, ap_ret, ap_retN, ap_expr, ap_asg, ap_for, ap_var, ap_C, ap_f2, ap_f1, ap_nil, ap_cons, ap_tup, ap_lst, ap_cellL, ap_call, ap_fif, ap_bool, ap_tru, ap_and, ap_or, ap_not, ap_andV, ap_orV, ap_notV, ap_chain, ap_part, ap_nopart, ap_slice, ap_disp, ap_pnil, ap_pcons, ap_iter, ap_iterA, ap_lc, ap_gnam, ap_gtup, ap_glst, ap_gsnil, ap_gscons, ap_run, ap_yes, List.length_cons, List.length_nil, List.map_cons, List.map_nil, List.replicate_succ, List.replicate_zero, List.cons_append, List.nil_append, List.getElem?_cons_zero, List.getElem?_cons_succ, List.getElem?_nil, List.set_cons_zero, List.set_cons_succ, if_true, if_false, reduceIte, Nat.reduceAdd, Nat.reduceSub, Bool.false_eq_true, ix0, ix1, ix2, dGt_ii, decide_eq_true c, k1, k2, k3, dNeg_i, dTup_ok, okSz5]
theorem plE_eq' {s : St5} (h : Vd s) {y0 y2 y3 y4 y5 y6 y7 y8 : Option D} {a b u v : Int} {P Q : Int × Int} (hP : Cn P) (hQ : Cn Q) (bP : P.2 ≤ 2 * L30) (bQ : Q.2 ≤ 2 * L30) (hv : Md v) (hu2 : Md (-u)) (g : Gs)
    (e : EqZ ((v : Rat) * vl P - (u : Rat) * vl Q) (vl s.mark)) :
    ¬ v < u → plE [y0, some (.tup [.tup [.int a, .int u, pD P], .tup [.int b, .int v, pD Q]]), y2, y3, y4, y5, y6, y7, y8] g = .rt (.tup [.int b, .int v, .int a, .int u, pD s.mark]) g := by
  intro c
  rw [L30_eq] at bP bQ
  have k1 := fun g => sc_eq (u := v) hP hv (by omega) g
  have k2 := fun g => sc_eq (u := -u) hQ hu2 (by omega) g
  have k3 := fun g => lin_eq (u := v) (v := -u) hP hQ (by omega) (by omega) g
  have k4 : lin v P (-u) Q = s.mark := lin_mark h hP hQ (by
    refine EqZ.trans (.of_eq ?_) e
    rw [Rat.intCast_neg]
    grind)
  rw [k4] at k3
  simp only [plE, ap_seq, ap_skip, ap_bad, ap_break, ap_cont, ap_if, ap_set, ap_par, ap_par3, ap_ret, ap_retN, ap_expr, ap_asg, ap_for, ap_var, ap_C, ap_f2, ap_f1, ap_nil, ap_cons, ap_tup, ap_lst, ap_cellL, ap_call, ap_fif, ap_bool, ap_tru, ap_and, ap_or, ap_not, ap_andV, ap_orV, ap_notV, ap_chain, ap_part, ap_nopart, ap_slice, ap_disp, ap_pnil, ap_pcons, ap_iter, ap_iterA, ap_lc, ap_gnam, ap_gtup, ap_glst, ap_gsnil, ap_gscons, ap_run, ap_yes, List.length_cons, List.length_nil, List.map_cons, List.map_nil, List.replicate_succ, List.replicate_zero, List.cons_append, List.nil_append, List.getElem?_cons_zero, List.getElem?_cons_succ, List.getElem?_nil, List.set_cons_zero, List.set_cons_succ, if_true, if_false, reduceIte, Nat.reduceAdd, Nat.reduceSub, Bool.false_eq_true, ix0, ix1, ix2, dGt_ii, decide_eq_false c, k1, k2, k3, dNeg_i, dTup_ok, okSz2, okSz5]
abbrev plW (W : FS) : FS := (sSeq (sSet 1 (fCall phi_terms_of (fCons (fVar 0) fNil)))
  (sSeq (sIf (fBool (f2 dEq (fCall dLen (fCons (fVar 1) fNil)) (fC (.int 1)))) (sRet (fTup (fCons (fC (.str "circle")) (fCons (f2 dIx (f2 dIx (fVar 1) (fC (.int 0))) (fC (.int 0))) fNil)))) sSkip)
  (sSeq (sSet 2 (f2 dAdd (f2 dIx (f2 dIx (fVar 1) (fC (.int 0))) (fC (.int 1))) (f2 dIx (f2 dIx (fVar 1) (fC (.int 1))) (fC (.int 1)))))
  (sSeq (sIf (fBool (f2 dLt (fVar 2) (fC (.int 0)))) (sSet 1 (fCall dTupOf (fCons (fLc (fIter dIterB (fVar 1)) (.tup [6, 7, 8]) ftYes (fTup (fCons (fVar 6) (fCons (f1 dNeg (fVar 7)) (fCons (fVar 8) fNil))))) fNil))) sSkip)
  (sSeq (sIf (fBool (f2 dEq (fVar 2) (fC (.int 0)))) (sSet 1 (fCall phi_signed (fCons (fVar 1) fNil))) sSkip)
  W)))))
theorem pl_is : b_plain_of = plW plE := rfl
theorem pl_run {W : FS} {s : St5} {z a u v : Int} {P Q : D} {r : D} {T : D} {g : Gs} (et : phi_terms_of [stD s] g = .ok (.tup [.tup [.int z, .int u, P], .tup [.int a, .int v, Q]]) g)
    (eT : T = if u + v < 0 then .tup [.tup [.int z, .int (-u), P], .tup [.int a, .int (-v), Q]] else if u + v = 0 then (if a ≤ z then .tup [.tup [.int z, .int 1, P], .tup [.int a, .int (-1), Q]] else .tup [.tup [.int a, .int 1, Q], .tup [.int z, .int (-1), P]]) else .tup [.tup [.int z, .int u, P], .tup [.int a, .int v, Q]])
    (e : W [some (stD s), some T, some (.int (u + v)), none, none, none, none, none, none] g = .rt r g) : runDef 1 9 (plW W) [stD s] g = .ok r g := by
  have n2 : decide ((2 : Int) = 1) = false := rfl
  by_cases c1 : u + v < 0
  · rw [if_pos c1] at eT
    subst eT
    simp only [plW, ap_seq, ap_skip, ap_bad, ap_break, ap_cont, ap_if, ap_set, ap_par, ap_par3, ap_ret, ap_retN, ap_expr, ap_asg, ap_for, ap_var, ap_C, ap_f2, ap_f1, ap_nil, ap_cons, ap_tup, ap_lst, ap_cellL, ap_call, ap_fif, ap_bool, ap_tru, ap_and, ap_or, ap_not, ap_andV, ap_orV, ap_notV, ap_chain, ap_part, ap_nopart, ap_slice, ap_disp, ap_pnil, ap_pcons, ap_iter, ap_iterA, ap_lc, ap_gnam, ap_gtup, ap_glst, ap_gsnil, ap_gscons, ap_run, ap_yes, List.length_cons, List.length_nil, List.map_cons, List.map_nil, List.replicate_succ, List.replicate_zero, List.cons_append, List.nil_append, List.getElem?_cons_zero, List.getElem?_cons_succ, List.getElem?_nil, List.set_cons_zero, List.set_cons_succ, if_true, if_false, reduceIte, Nat.reduceAdd, Nat.reduceSub, Bool.false_eq_true, et, len_t, n2i, dEq_ii, n2, ix0, ix1, dAdd_ii, dLt_ii, decide_eq_true c1, iterB_t, lc_cons, lc_nil, pts_tup, sets_cons, sets_nil, wipe_cons, wipe_nil, ptIx_tup, szl0, szl1, szl2, dTup_ok, okSz3, dNeg_i, tupOf_l, decide_eq_false (show ¬ u + v = 0 by omega), e]
  · rw [if_neg c1] at eT
    by_cases c2 : u + v = 0
    · rw [if_pos c2] at eT
      subst eT
      have sg := signed_eq z a u v P Q g
      simp only [plW, ap_seq, ap_skip, ap_bad, ap_break, ap_cont, ap_if, ap_set, ap_par, ap_par3, ap_ret, ap_retN, ap_expr, ap_asg, ap_for, ap_var, ap_C, ap_f2, ap_f1, ap_nil, ap_cons, ap_tup, ap_lst, ap_cellL, ap_call, ap_fif, ap_bool, ap_tru, ap_and, ap_or, ap_not, ap_andV, ap_orV, ap_notV, ap_chain, ap_part, ap_nopart, ap_slice, ap_disp, ap_pnil, ap_pcons, ap_iter, ap_iterA, ap_lc, ap_gnam, ap_gtup, ap_glst, ap_gsnil, ap_gscons, ap_run, ap_yes, List.length_cons, List.length_nil, List.map_cons, List.map_nil, List.replicate_succ, List.replicate_zero, List.cons_append, List.nil_append, List.getElem?_cons_zero, List.getElem?_cons_succ, List.getElem?_nil, List.set_cons_zero, List.set_cons_succ, if_true, if_false, reduceIte, Nat.reduceAdd, Nat.reduceSub, Bool.false_eq_true, et, len_t, n2i, dEq_ii, n2, ix0, ix1, dAdd_ii, dLt_ii, decide_eq_false c1, decide_eq_true c2, sg, e]
    · rw [if_neg c2] at eT
      subst eT
      simp only [plW, ap_seq, ap_skip, ap_bad, ap_break, ap_cont, ap_if, ap_set, ap_par, ap_par3, ap_ret, ap_retN, ap_expr, ap_asg, ap_for, ap_var, ap_C, ap_f2, ap_f1, ap_nil, ap_cons, ap_tup, ap_lst, ap_cellL, ap_call, ap_fif, ap_bool, ap_tru, ap_and, ap_or, ap_not, ap_andV, ap_orV, ap_notV, ap_chain, ap_part, ap_nopart, ap_slice, ap_disp, ap_pnil, ap_pcons, ap_iter, ap_iterA, ap_lc, ap_gnam, ap_gtup, ap_glst, ap_gsnil, ap_gscons, ap_run, ap_yes, List.length_cons, List.length_nil, List.map_cons, List.map_nil, List.replicate_succ, List.replicate_zero, List.cons_append, List.nil_append, List.getElem?_cons_zero, List.getElem?_cons_succ, List.getElem?_nil, List.set_cons_zero, List.set_cons_succ, if_true, if_false, reduceIte, Nat.reduceAdd, Nat.reduceSub, Bool.false_eq_true, et, len_t, n2i, dEq_ii, n2, ix0, ix1, dAdd_ii, dLt_ii, decide_eq_false c1, decide_eq_false c2, e]
theorem pl_circ {W : FS} {s : St5} {z : Int} {x y : D} {g : Gs} (et : phi_terms_of [stD s] g = .ok (.tup [.tup [.int z, x, y]]) g) : runDef 1 9 (plW W) [stD s] g = .ok (.tup [.str "circle", .int z]) g := by
  have n1 : ((1 : Nat) : Int) = 1 := rfl
  simp only [plW, ap_seq, ap_skip, ap_bad, ap_break, ap_cont, ap_if, ap_set, ap_par, ap_par3, ap_ret, ap_retN, ap_expr, ap_asg, ap_for, ap_var, ap_C, ap_f2, ap_f1, ap_nil, ap_cons, ap_tup, ap_lst, ap_cellL, ap_call, ap_fif, ap_bool, ap_tru, ap_and, ap_or, ap_not, ap_andV, ap_orV, ap_notV, ap_chain, ap_part, ap_nopart, ap_slice, ap_disp, ap_pnil, ap_pcons, ap_iter, ap_iterA, ap_lc, ap_gnam, ap_gtup, ap_glst, ap_gsnil, ap_gscons, ap_run, ap_yes, List.length_cons, List.length_nil, List.map_cons, List.map_nil, List.replicate_succ, List.replicate_zero, List.cons_append, List.nil_append, List.getElem?_cons_zero, List.getElem?_cons_succ, List.getElem?_nil, List.set_cons_zero, List.set_cons_succ, if_true, if_false, reduceIte, Nat.reduceAdd, Nat.reduceSub, Bool.false_eq_true, et, len_t, n1, dEq_ii, decide_true, ix0, dTup_ok, okSz2]
theorem plain_eq {s : St5} (h : Vd s) (g : Gs) : phi_plain_of [stD s] g = .ok (fmD s.form) g := by
  have et := terms_eq h g
  obtain ⟨r, F⟩ := fct h
  have J := J_val h
  have c1 := p1_ok h
  have c2 := p2_ok h
  have qp := F.qp
  have mp := F.mp
  have qB := h.qB
  have mB := h.mB
  have L := L30_eq
  have md : ∀ i : Int, -(3 * L30) ≤ i → i ≤ 3 * L30 → Md i := fun i a b => md_of (by omega) (by omega)
  unfold phi_plain_of
  rw [pl_is]
  by_cases ha : s.a = 0
  · rw [ars_0 ha] at et
    unfold St5.form
    rw [if_pos ha]
    exact pl_circ et
  · rw [ars_2 ha] at et
    have e1 : ((1 : Int) : Rat) = 1 := rfl
    have en : ((-1 : Int) : Rat) = -1 := rfl
    unfold St5.form
    rw [if_neg ha]
    rcases F.cs with ⟨e, em, es⟩ | ⟨e, em, es⟩ | ⟨e, em, es⟩
    · have sg : s.sg = -1 := by unfold St5.sg; rw [e]; rfl
      rw [sg, es, en, Rat.intCast_neg] at J
      have J' : EqZ ((s.m : Rat) * vl s.p1 + (s.q : Rat) * vl s.p2) (vl s.mark) := by
        have := J.neg
        refine EqZ.trans (.of_eq ?_) (this.trans (.of_eq ?_)) <;> grind
      rw [e]
      dsimp only
      by_cases k1 : s.m < s.q
      · rw [if_pos (.inl k1)]
        refine pl_run (z := s.mid) (a := s.a) (u := s.q) (v := s.sl) (P := pD s.p1) (Q := pD s.p2) (T := .tup [.tup [.int s.mid, .int s.q, pD s.p1], .tup [.int s.a, .int s.sl, pD s.p2]]) et (by rw [if_neg (by omega), if_neg (by omega)]) ?_
        rw [es]
        refine plE_eq h c1.1 c2.1 c1.2 c2.2 (md _ (by omega) (by omega)) (md _ (by omega) (by omega)) (md _ (by omega) (by omega)) (md _ (by omega) (by omega)) g ?_ (fun z => absurd (by omega) z) (by omega)
        rw [Rat.intCast_neg]
        refine EqZ.trans (.of_eq ?_) J'
        grind
      · by_cases k2 : s.q = s.m
        · have q1 : s.q = 1 := by
            have co := F.co
            rw [← k2] at co
            have : (Int.gcd s.q s.q : Int) = s.q := by rw [Int.gcd_self, Int.natAbs_of_nonneg (by omega)]
            omega
          by_cases k3 : s.a ≤ s.mid
          · refine pl_run (z := s.mid) (a := s.a) (u := s.q) (v := s.sl) (P := pD s.p1) (Q := pD s.p2) (r := fmD (if s.m < s.q ∨ s.q = s.m ∧ s.a < s.mid then .five s.mid s.q s.a (-s.m) s.mark else .five s.a s.m s.mid (-s.q) s.mark)) (T := .tup [.tup [.int s.mid, .int 1, pD s.p1], .tup [.int s.a, .int (-1), pD s.p2]]) et (by rw [if_neg (by omega), if_pos (by omega), if_pos k3]) ?_
            have er : fmD (if s.m < s.q ∨ s.q = s.m ∧ s.a < s.mid then .five s.mid s.q s.a (-s.m) s.mark else .five s.a s.m s.mid (-s.q) s.mark) = .tup [.int s.mid, .int 1, .int s.a, .int (-1), pD s.mark] := by
              by_cases k4 : s.a < s.mid
              · rw [if_pos (.inr ⟨k2, k4⟩)]
                rw [← k2, q1]
                rfl
              · rw [if_neg (fun z => z.elim k1 (fun y => k4 y.2))]
                rw [← k2, q1, show s.a = s.mid by omega]
                rfl
            rw [er]
            refine plE_eq h c1.1 c2.1 c1.2 c2.2 (md _ (by omega) (by omega)) (md _ (by omega) (by omega)) (md _ (by omega) (by omega)) (md _ (by omega) (by omega)) g ?_ (fun z => absurd (by decide) z) (by decide)
            rw [← k2, q1, e1] at J'
            rw [e1, en]
            refine EqZ.trans (.of_eq ?_) J'
            grind
          · rw [if_neg (fun z => z.elim k1 (fun y => by omega))]
            refine pl_run (z := s.mid) (a := s.a) (u := s.q) (v := s.sl) (P := pD s.p1) (Q := pD s.p2) (T := .tup [.tup [.int s.a, .int 1, pD s.p2], .tup [.int s.mid, .int (-1), pD s.p1]]) et (by rw [if_neg (by omega), if_pos (by omega), if_neg k3]) ?_
            rw [← k2, q1]
            refine plE_eq h c2.1 c1.1 c2.2 c1.2 (md _ (by omega) (by omega)) (md _ (by omega) (by omega)) (md _ (by omega) (by omega)) (md _ (by omega) (by omega)) g ?_ (fun z => absurd (by decide) z) (by decide)
            rw [← k2, q1, e1] at J'
            rw [e1, en]
            refine EqZ.trans (.of_eq ?_) J'
            grind
        · rw [if_neg (fun z => z.elim k1 (fun y => k2 y.1))]
          refine pl_run (z := s.mid) (a := s.a) (u := s.q) (v := s.sl) (P := pD s.p1) (Q := pD s.p2) (T := .tup [.tup [.int s.mid, .int (-s.q), pD s.p1], .tup [.int s.a, .int s.m, pD s.p2]]) et (by rw [if_pos (by omega), es, Int.neg_neg]) ?_
          refine plE_eq' h c1.1 c2.1 c1.2 c2.2 (md _ (by omega) (by omega)) (md _ (by omega) (by omega)) g ?_ (by omega)
          rw [Rat.intCast_neg]
          refine EqZ.trans (.of_eq ?_) J'
          grind
    · have sg : s.sg = 1 := by unfold St5.sg; rw [e]; rfl
      rw [sg, es, e1] at J
      rw [e]
      dsimp only
      refine pl_run (z := s.mid) (a := s.a) (u := s.q) (v := s.sl) (P := pD s.p1) (Q := pD s.p2) (T := .tup [.tup [.int s.mid, .int s.q, pD s.p1], .tup [.int s.a, .int s.sl, pD s.p2]]) et (by rw [if_neg (by omega), if_neg (by omega)]) ?_
      rw [es]
      refine plE_eq' h c1.1 c2.1 c1.2 c2.2 (md _ (by omega) (by omega)) (md _ (by omega) (by omega)) g ?_ (by have := F.rp; omega)
      refine J.trans (.of_eq ?_)
      grind
    · have sg : s.sg = -1 := by unfold St5.sg; rw [e]; rfl
      rw [sg, es, en] at J
      rw [e]
      dsimp only
      refine pl_run (z := s.mid) (a := s.a) (u := s.q) (v := s.sl) (P := pD s.p1) (Q := pD s.p2) (T := .tup [.tup [.int s.mid, .int s.q, pD s.p1], .tup [.int s.a, .int s.sl, pD s.p2]]) et (by rw [if_neg (by omega), if_neg (by omega)]) ?_
      rw [es]
      refine plE_eq h c1.1 c2.1 c1.2 c2.2 (md _ (by omega) (by omega)) (md _ (by omega) (by omega)) (md _ (by omega) (by omega)) (md _ (by omega) (by omega)) g ?_ (fun z => absurd (by have := F.rp; omega) z) (by have := F.rp; omega)
      have := J.neg
      refine EqZ.trans (.of_eq ?_) (this.trans (.of_eq ?_)) <;> grind
theorem prop_plain {s : St5} (h : Vd s) (g : Gs) : dProp "Line" phi_Line_plain (lineD s) g = .ok (fmD s.form) g := by
  refine prop_of ?_
  have e := plain_eq h g
  unfold phi_Line_plain
  simp only [b_Line_plain, ap_seq, ap_skip, ap_bad, ap_break, ap_cont, ap_if, ap_set, ap_par, ap_par3, ap_ret, ap_retN, ap_expr, ap_asg, ap_for, ap_var, ap_C, ap_f2, ap_f1, ap_nil, ap_cons, ap_tup, ap_lst, ap_cellL, ap_call, ap_fif, ap_bool, ap_tru, ap_and, ap_or, ap_not, ap_andV, ap_orV, ap_notV, ap_chain, ap_part, ap_nopart, ap_slice, ap_disp, ap_pnil, ap_pcons, ap_iter, ap_iterA, ap_lc, ap_gnam, ap_gtup, ap_glst, ap_gsnil, ap_gscons, ap_run, ap_yes, List.length_cons, List.length_nil, List.map_cons, List.map_nil, List.replicate_succ, List.replicate_zero, List.cons_append, List.nil_append, List.getElem?_cons_zero, List.getElem?_cons_succ, List.getElem?_nil, List.set_cons_zero, List.set_cons_succ, if_true, if_false, reduceIte, Nat.reduceAdd, Nat.reduceSub, Bool.false_eq_true, prop_setting, e]
theorem same_eq {s n : St5} (hs : Vd s) (hn : Vd n) (g : Gs) : phi_same [lineD s, lineD n] g = .ok (.bl (decide (s.form = n.form))) g := by
  have a := prop_plain hs g
  have b := prop_plain hn g
  unfold phi_same
  simp only [b_same, ap_seq, ap_skip, ap_bad, ap_break, ap_cont, ap_if, ap_set, ap_par, ap_par3, ap_ret, ap_retN, ap_expr, ap_asg, ap_for, ap_var, ap_C, ap_f2, ap_f1, ap_nil, ap_cons, ap_tup, ap_lst, ap_cellL, ap_call, ap_fif, ap_bool, ap_tru, ap_and, ap_or, ap_not, ap_andV, ap_orV, ap_notV, ap_chain, ap_part, ap_nopart, ap_slice, ap_disp, ap_pnil, ap_pcons, ap_iter, ap_iterA, ap_lc, ap_gnam, ap_gtup, ap_glst, ap_gsnil, ap_gscons, ap_run, ap_yes, List.length_cons, List.length_nil, List.map_cons, List.map_nil, List.replicate_succ, List.replicate_zero, List.cons_append, List.nil_append, List.getElem?_cons_zero, List.getElem?_cons_succ, List.getElem?_nil, List.set_cons_zero, List.set_cons_succ, if_true, if_false, reduceIte, Nat.reduceAdd, Nat.reduceSub, Bool.false_eq_true, check_line_eq, a, b, dEq_fm]
end LC
set_option maxRecDepth 100000
set_option maxHeartbeats 4000000
namespace LC
open PySem PySem.Spec PyProof.Rows L2 DL LB
abbrev ivT : FT := (fBool (f2 dGt (fVar 5) (fC (.int 0))))
abbrev ivB : FS := (sSeq (sSet 6 (f2 dFdiv (fVar 4) (fVar 5)))
  (sSeq (sPar 4 5 (fCons (fVar 5) (fCons (f2 dSub (fVar 4) (f2 dMul (fVar 6) (fVar 5))) fNil)))
  (sPar 2 3 (fCons (fVar 3) (fCons (f2 dSub (fVar 2) (f2 dMul (fVar 6) (fVar 3))) fNil)))))
theorem iv_body {N M o w a b : Int} {y6 : Option D} {g : Gs} (hb : 0 < b) (sb : Sm b) (k1 : okMul (a / b) b = true) (k2 : okMul (a / b) w = true) :
    ivB [some (.int N), some (.int M), some (.int o), some (.int w), some (.int a), some (.int b), y6] g = .nx [some (.int N), some (.int M), some (.int w), some (.int (o - a / b * w)), some (.int b), some (.int (a - a / b * b)), some (.int (a / b))] g := by
  simp only [ivB, ap_seq, ap_skip, ap_bad, ap_break, ap_cont, ap_if, ap_set, ap_par, ap_par3, ap_ret, ap_retN, ap_expr, ap_asg, ap_for, ap_var, ap_C, ap_f2, ap_f1, ap_nil, ap_cons, ap_tup, ap_lst, ap_cellL, ap_call, ap_fif, ap_bool, ap_tru, ap_and, ap_or, ap_not, ap_andV, ap_orV, ap_notV, ap_chain, ap_part, ap_nopart, ap_slice, ap_disp, ap_pnil, ap_pcons, ap_iter, ap_iterA, ap_lc, ap_gnam, ap_gtup, ap_glst, ap_gsnil, ap_gscons, ap_run, ap_yes, List.length_cons, List.length_nil, List.map_cons, List.map_nil, List.replicate_succ, List.replicate_zero, List.cons_append, List.nil_append, List.getElem?_cons_zero, List.getElem?_cons_succ, List.getElem?_nil, List.set_cons_zero, List.set_cons_succ, if_true, if_false, reduceIte, Nat.reduceAdd, Nat.reduceSub, Bool.false_eq_true, dFdiv_ii hb sb, dMul_ii k1, dMul_ii k2, dSub_ii]
theorem while_step {ft : FT} {body : FS} {n : Nat} {ρ ρ2 : DL.Env} {g g1 g2 : Gs} (h1 : ft ρ g = .ok true g1) (h2 : body ρ g1 = .nx ρ2 g2) : whileN ft body (n + 1) ρ g = whileN ft body n ρ2 g2 := by
  simp only [whileN, h1, h2]
structure Iv (N M o w a b : Int) : Prop where
  a0 : 0 < a
  b0 : 0 ≤ b
  co : Int.gcd a b = 1
  d1 : M ∣ o * N - a
  d2 : M ∣ w * N - b
  s : ∃ e A B : Int, (e = 1 ∨ e = -1) ∧ o = -e * A ∧ w = e * B ∧ 0 ≤ A ∧ 0 ≤ B ∧ A * b + B * a = M
theorem Iv.step {N M o w a b : Int} (i : Iv N M o w a b) (hb : 0 < b) : Iv N M w (o - a / b * w) b (a - a / b * b) := by
  have e := Int.emod_add_mul_ediv a b
  have em : a - a / b * b = a % b := by rw [Int.mul_comm]; omega
  have r0 := Int.emod_nonneg a (show b ≠ 0 by omega)
  obtain ⟨e', A, B, he, ho, hw, hA, hB, hs⟩ := i.s
  have q0 : 0 ≤ a / b := Int.ediv_nonneg (by have := i.a0; omega) (by omega)
  refine ⟨hb, by omega, ?_, i.d2, ?_, ⟨-e', B, A + a / b * B, by omega, by rw [hw]; grind, by rw [ho, hw]; grind, hB, ?_, ?_⟩⟩
  · rw [em, ← gcd_step]; exact i.co
  · obtain ⟨x, hx⟩ := i.d1
    obtain ⟨y, hy⟩ := i.d2
    refine ⟨x - a / b * y, ?_⟩
    have h1 : (o - a / b * w) * N - (a - a / b * b) = (o * N - a) - a / b * (w * N - b) := by grind
    rw [h1, hx, hy]
    grind
  · have := Int.mul_nonneg q0 hB; omega
  · rw [← hs]; grind
theorem iv_loop : ∀ (n : Nat) (N M o w a b : Int) (y6 : Option D) (g : Gs), Iv N M o w a b → b < (n : Int) → a < 10 ^ 90 → M < 10 ^ 90 → b < 10 ^ 90 →
    ∃ o' w' a' y', whileN ivT ivB n [some (.int N), some (.int M), some (.int o), some (.int w), some (.int a), some (.int b), y6] g = .nx [some (.int N), some (.int M), some (.int o'), some (.int w'), some (.int a'), some (.int 0), y'] g ∧ M ∣ o' * N - 1
  | 0, N, M, o, w, a, b, y6, g, i, h, _, _, _ => by have := i.b0; omega
  | n + 1, N, M, o, w, a, b, y6, g, i, h, ha, hM, hbb => by
    by_cases e : b = 0
    · subst e
      have h1 := i.co
      have h2 := gcd_zero (show 0 ≤ a by have := i.a0; omega)
      have h3 : a = 1 := by omega
      refine ⟨o, w, a, y6, ?_, by have := i.d1; rw [h3] at this; exact this⟩
      simp only [whileN, ivT, ap_seq, ap_skip, ap_bad, ap_break, ap_cont, ap_if, ap_set, ap_par, ap_par3, ap_ret, ap_retN, ap_expr, ap_asg, ap_for, ap_var, ap_C, ap_f2, ap_f1, ap_nil, ap_cons, ap_tup, ap_lst, ap_cellL, ap_call, ap_fif, ap_bool, ap_tru, ap_and, ap_or, ap_not, ap_andV, ap_orV, ap_notV, ap_chain, ap_part, ap_nopart, ap_slice, ap_disp, ap_pnil, ap_pcons, ap_iter, ap_iterA, ap_lc, ap_gnam, ap_gtup, ap_glst, ap_gsnil, ap_gscons, ap_run, ap_yes, List.length_cons, List.length_nil, List.map_cons, List.map_nil, List.replicate_succ, List.replicate_zero, List.cons_append, List.nil_append, List.getElem?_cons_zero, List.getElem?_cons_succ, List.getElem?_nil, List.set_cons_zero, List.set_cons_succ, if_true, if_false, reduceIte, Nat.reduceAdd, Nat.reduceSub, Bool.false_eq_true, dGt_ii, show decide ((0 : Int) < 0) = false from rfl]
    · have b0 := i.b0
      have a0 := i.a0
      have hb : 0 < b := by omega
      have q0 : 0 ≤ a / b := Int.ediv_nonneg (by omega) (by omega)
      have q1 : a / b ≤ a := Int.ediv_le_self _ (by omega)
      obtain ⟨e', A, B, he, ho, hw, hA, hB, hs⟩ := i.s
      have hBM : B ≤ M := by
        have p1 := Int.mul_nonneg hA b0
        have p2 := Int.mul_le_mul_of_nonneg_left (show 1 ≤ a by omega) hB
        omega
      have sw : Sm w := by rcases he with q | q <;> rw [q] at hw <;> unfold Sm <;> omega
      have sq : Sm (a / b) := by unfold Sm; omega
      have sb : Sm b := by unfold Sm; omega
      have body := iv_body (N := N) (M := M) (o := o) (w := w) (y6 := y6) (g := g) hb sb (okMul_sm sq sb) (okMul_sm sq sw)
      have st := i.step hb
      have em : a - a / b * b = a % b := by have e := Int.emod_add_mul_ediv a b; rw [Int.mul_comm]; omega
      have r1 := Int.emod_lt_of_pos a hb
      obtain ⟨o', w', a', y', e2, d⟩ := iv_loop n N M w (o - a / b * w) b (a - a / b * b) (some (.int (a / b))) g st (by omega) hbb hM (by omega)
      refine ⟨o', w', a', y', ?_, d⟩
      rw [← e2]
      refine while_step (g1 := g) ?_ body
      simp only [ivT, ap_seq, ap_skip, ap_bad, ap_break, ap_cont, ap_if, ap_set, ap_par, ap_par3, ap_ret, ap_retN, ap_expr, ap_asg, ap_for, ap_var, ap_C, ap_f2, ap_f1, ap_nil, ap_cons, ap_tup, ap_lst, ap_cellL, ap_call, ap_fif, ap_bool, ap_tru, ap_and, ap_or, ap_not, ap_andV, ap_orV, ap_notV, ap_chain, ap_part, ap_nopart, ap_slice, ap_disp, ap_pnil, ap_pcons, ap_iter, ap_iterA, ap_lc, ap_gnam, ap_gtup, ap_glst, ap_gsnil, ap_gscons, ap_run, ap_yes, List.length_cons, List.length_nil, List.map_cons, List.map_nil, List.replicate_succ, List.replicate_zero, List.cons_append, List.nil_append, List.getElem?_cons_zero, List.getElem?_cons_succ, List.getElem?_nil, List.set_cons_zero, List.set_cons_succ, if_true, if_false, reduceIte, Nat.reduceAdd, Nat.reduceSub, Bool.false_eq_true, dGt_ii, decide_eq_true hb]
theorem inverse_eq {N M : Int} (hM : 0 < M) (hM2 : M < 10 ^ 90) (co : Int.gcd N M = 1) (g : Gs) : ∃ i, phi_inverse [.int N, .int M] g = .ok (.int i) g ∧ 0 ≤ i ∧ i < M ∧ M ∣ i * N - 1 := by
  have r0 := Int.emod_nonneg N (show M ≠ 0 by omega)
  have r1 := Int.emod_lt_of_pos N hM
  have iv : Iv N M 0 1 M (N % M) := by
    refine ⟨hM, r0, by rw [← gcd_step]; exact co, ⟨-1, by omega⟩, ⟨N / M, ?_⟩, ⟨1, 0, 1, .inl rfl, by omega, by omega, by omega, by omega, by omega⟩⟩
    have e := Int.emod_add_mul_ediv N M
    omega
  obtain ⟨o', w', a', y', e, k, hk⟩ := iv_loop FUEL N M 0 1 M (N % M) none g iv (by unfold FUEL; omega) hM2 hM2 (by omega)
  refine ⟨o' % M, ?_, Int.emod_nonneg _ (by omega), Int.emod_lt_of_pos _ hM, ⟨k - N * (o' / M), ?_⟩⟩
  · unfold phi_inverse
    simp only [b_inverse, ap_seq, ap_skip, ap_bad, ap_break, ap_cont, ap_if, ap_set, ap_par, ap_par3, ap_ret, ap_retN, ap_expr, ap_asg, ap_for, ap_var, ap_C, ap_f2, ap_f1, ap_nil, ap_cons, ap_tup, ap_lst, ap_cellL, ap_call, ap_fif, ap_bool, ap_tru, ap_and, ap_or, ap_not, ap_andV, ap_orV, ap_notV, ap_chain, ap_part, ap_nopart, ap_slice, ap_disp, ap_pnil, ap_pcons, ap_iter, ap_iterA, ap_lc, ap_gnam, ap_gtup, ap_glst, ap_gsnil, ap_gscons, ap_run, ap_yes, List.length_cons, List.length_nil, List.map_cons, List.map_nil, List.replicate_succ, List.replicate_zero, List.cons_append, List.nil_append, List.getElem?_cons_zero, List.getElem?_cons_succ, List.getElem?_nil, List.set_cons_zero, List.set_cons_succ, if_true, if_false, reduceIte, Nat.reduceAdd, Nat.reduceSub, Bool.false_eq_true, dTup_ok, okSz2, dInt_i, dMod_ii hM, sWhile, e]
  · have e2 := Int.emod_add_mul_ediv o' M
    have e3 : o' % M = o' - M * (o' / M) := by omega
    rw [e3]
    have h1 : (o' - M * (o' / M)) * N - 1 = (o' * N - 1) - M * (o' / M) * N := by grind
    rw [h1, hk]
    grind
def aw (P Q : Int × Int) : Int × Int := pt (P.1 * (sc (-1) Q).2 + (sc (-1) Q).1 * P.2) (P.2 * (sc (-1) Q).2)
theorem aw_cn {P Q : Int × Int} (h : Cn P) (h' : Cn Q) : Cn (aw P Q) := pt_cn (Int.mul_pos h.pos (sc_cn h').pos)
theorem aw_val {P Q : Int × Int} (h : Cn P) (h' : Cn Q) : EqZ (vl (aw P Q)) (vl P - vl Q) := by
  have b := (sc_cn (u := -1) h').pos
  have hv := sc_val (u := -1) h'
  have en : ((-1 : Int) : Rat) = -1 := rfl
  rw [en] at hv
  refine (pt_val (Int.mul_pos h.pos b)).trans (EqZ.trans (.of_eq ?_) (((EqZ.refl (vl P)).add hv).trans (.of_eq (by grind))))
  have h0 := ne0 (show P.2 ≠ 0 by have := h.pos; omega)
  have h1 := ne0 (show (sc (-1) Q).2 ≠ 0 by omega)
  unfold vl
  simp only [Rat.intCast_add, Rat.intCast_mul]
  clear hv
  generalize ((sc (-1) Q).1 : Rat) = x at *
  generalize ((sc (-1) Q).2 : Rat) = y at *
  generalize (P.1 : Rat) = z at *
  generalize (P.2 : Rat) = w at *
  grind
theorem aw_eq {P Q : Int × Int} (h : Cn P) (h' : Cn Q) (hb : P.2 ≤ 10 ^ 98) (hb' : Q.2 ≤ 10 ^ 98) (g : Gs) : phi_summed [pD P, pD (sc (-1) Q)] g = .ok (pD (aw P Q)) g := by
  have b := sc_cn (u := -1) h'
  have l' := sc_le (u := -1) h'
  have m := md_cn h hb
  have m' := md_cn b (by omega)
  exact summed_eq h.pos b.pos m.1 m.2 m'.1 m'.2 g
/-- the bottom divides what makes it whole -/
theorem cn_dvd {z : Int × Int} {w : Rat} {L : Int} (h : Cn z) (e : EqZ (vl z) w) (k : ∃ k : Int, (L : Rat) * w = (k : Rat)) : z.2 ∣ L := by
  obtain ⟨j, e⟩ := e
  obtain ⟨k, hk⟩ := k
  have := pt_dvd (a := z.1) (n := L) h.pos ⟨k + L * j, by
    rw [Rat.intCast_add, Rat.intCast_mul, ← hk]
    have e' : (z.1 : Rat) / (z.2 : Rat) = w + (j : Rat) := e
    rw [e']
    grind⟩
  rw [pt_self h] at this
  exact this
theorem dFdiv_g {i j : Int} (h : j ≠ 0) (hs : Sm j) (g : Gs) : dFdiv (.int i) (.int j) g = .ok (.int (i.fdiv j)) g := by
  unfold dFdiv dII
  dsimp only
  rw [if_pos (show okDiv j = true from decide_eq_true ⟨h, Nat.lt_trans (sm_log hs) (by decide)⟩)]
theorem zip2 (a b c d : D) (g : Gs) : dZip [.tup [a, b], .tup [c, d]] g = .ok [.tup [a, c], .tup [b, d]] g := (rfl)
theorem zip1 (a b : D) (g : Gs) : dZip [.tup [a], .tup [b]] g = .ok [.tup [a, b]] g := (rfl)
theorem shift1_eq {a1 : Ar} {x y : D} {Q : Int × Int} {L : Int} (hv : a1.v = 1) (c1 : Cn a1.p) (c2 : Cn Q) (b1 : a1.p.2 ≤ 2 * L30) (b2 : Q.2 ≤ 2 * L30) (L0 : 0 < L) (L1 : L ≤ 10 ^ 40) (d1 : a1.p.2 ∣ L) (d2 : Q.2 ∣ L) (g : Gs) :
    ∃ S, phi_shift_of [.tup [arD a1], .tup [.tup [x, y, pD Q]]] g = .ok (pD S) g ∧ Cn S ∧ S.2 ≤ 10 ^ 40 ∧ ∀ p, EqZ (vl Q + (a1.v : Rat) * vl p) (vl a1.p) → EqZ (vl S) (vl p) := by
  rw [L30_eq] at b1 b2
  have ca := aw_cn c1 c2
  have va := aw_val c1 c2
  have k1 := fun g => sc_eq (u := -1) c2 (by unfold Md; omega) (by omega) g
  have k2 := fun g => aw_eq c1 c2 (by omega) (by omega) g
  obtain ⟨e, he⟩ := dvd_whole c1.pos d1
  obtain ⟨e', he'⟩ := dvd_whole c2.pos d2
  have da := cn_dvd (L := L) ca va ⟨e - e', by rw [Rat.intCast_sub, ← he, ← he']; grind⟩
  have la := Int.le_of_dvd L0 da
  have k3 := fun g => sc_eq (u := a1.v) ca (by unfold Md; omega) (by omega) g
  have n1 : ((1 : Nat) : Int) = 1 := rfl
  have v1 := sc_val (u := a1.v) ca
  have le := sc_le (u := a1.v) ca
  refine ⟨sc a1.v (aw a1.p Q), ?_, sc_cn ca, by omega, fun p hp => ?_⟩
  · unfold phi_shift_of
    simp only [b_shift_of, ap_seq, ap_skip, ap_bad, ap_break, ap_cont, ap_if, ap_set, ap_par, ap_par3, ap_ret, ap_retN, ap_expr, ap_asg, ap_for, ap_var, ap_C, ap_f2, ap_f1, ap_nil, ap_cons, ap_tup, ap_lst, ap_cellL, ap_call, ap_fif, ap_bool, ap_tru, ap_and, ap_or, ap_not, ap_andV, ap_orV, ap_notV, ap_chain, ap_part, ap_nopart, ap_slice, ap_disp, ap_pnil, ap_pcons, ap_iter, ap_iterA, ap_lc, ap_gnam, ap_gtup, ap_glst, ap_gsnil, ap_gscons, ap_run, ap_yes, List.length_cons, List.length_nil, List.map_cons, List.map_nil, List.replicate_succ, List.replicate_zero, List.cons_append, List.nil_append, List.getElem?_cons_zero, List.getElem?_cons_succ, List.getElem?_nil, List.set_cons_zero, List.set_cons_succ, if_true, if_false, reduceIte, Nat.reduceAdd, Nat.reduceSub, Bool.false_eq_true, zip1, lc_cons, lc_nil, pts_tup, sets_cons, sets_nil, wipe_cons, wipe_nil, ptIx_tup, szl0, szl1, ix0, ix1, ix2, ixl0, neg1, k1, k2, k3, len_t, n1, dEq_ii, decide_true]
  · refine v1.trans ?_
    rw [hv] at hp ⊢
    have e1 : ((1 : Int) : Rat) = 1 := rfl
    rw [e1] at hp ⊢
    refine EqZ.trans (.of_eq (by grind : (1 : Rat) * vl (aw a1.p Q) = vl (aw a1.p Q))) (va.trans ?_)
    refine ((hp.symm.sub (EqZ.refl (vl Q)))).trans (.of_eq ?_)
    grind
theorem ixl1 (a b : D) (l : List D) (g : Gs) : dIx (.lst (a :: b :: l)) (.int 1) g = .ok b g := ixl (atI_nat (j := 1) rfl) g
theorem shift2_run {a1 a2 : Ar} {x1 y1 x2 y2 : D} {Q1 Q2 S0 S1 A0 A1 B0 B1 T : Int × Int} {x y : Int} {g : Gs}
    (k1 : ∀ g, phi_scaled [.int (-1), pD Q1] g = .ok (pD B0) g) (k2 : ∀ g, phi_scaled [.int (-1), pD Q2] g = .ok (pD B1) g) (k3 : ∀ g, phi_summed [pD a1.p, pD B0] g = .ok (pD A0) g) (k4 : ∀ g, phi_summed [pD a2.p, pD B1] g = .ok (pD A1) g)
    (hx : (if 1 < (if a2.v < 0 then -a2.v else a2.v) then phi_inverse [.int a1.v, .int (if a2.v < 0 then -a2.v else a2.v)] g else .ok (.int 0) g) = .ok (.int x) g) (hm : okMul x a1.v = true) (hd : dFdiv (.int (1 - x * a1.v)) (.int a2.v) g = .ok (.int y) g)
    (k5 : ∀ g, phi_scaled [.int x, pD A0] g = .ok (pD S0) g) (k6 : ∀ g, phi_scaled [.int y, pD A1] g = .ok (pD S1) g) (k7 : ∀ g, phi_summed [pD S0, pD S1] g = .ok (pD T) g) :
    phi_shift_of [.tup [arD a1, arD a2], .tup [.tup [x1, y1, pD Q1], .tup [x2, y2, pD Q2]]] g = .ok (pD T) g := by
  have n2 : decide ((2 : Int) = 1) = false := rfl
  unfold phi_shift_of
  by_cases c : 1 < (if a2.v < 0 then -a2.v else a2.v)
  · rw [if_pos c] at hx
    simp only [b_shift_of, ap_seq, ap_skip, ap_bad, ap_break, ap_cont, ap_if, ap_set, ap_par, ap_par3, ap_ret, ap_retN, ap_expr, ap_asg, ap_for, ap_var, ap_C, ap_f2, ap_f1, ap_nil, ap_cons, ap_tup, ap_lst, ap_cellL, ap_call, ap_fif, ap_bool, ap_tru, ap_and, ap_or, ap_not, ap_andV, ap_orV, ap_notV, ap_chain, ap_part, ap_nopart, ap_slice, ap_disp, ap_pnil, ap_pcons, ap_iter, ap_iterA, ap_lc, ap_gnam, ap_gtup, ap_glst, ap_gsnil, ap_gscons, ap_run, ap_yes, List.length_cons, List.length_nil, List.map_cons, List.map_nil, List.replicate_succ, List.replicate_zero, List.cons_append, List.nil_append, List.getElem?_cons_zero, List.getElem?_cons_succ, List.getElem?_nil, List.set_cons_zero, List.set_cons_succ, if_true, if_false, reduceIte, Nat.reduceAdd, Nat.reduceSub, Bool.false_eq_true, zip2, lc_cons, lc_nil, pts_tup, sets_cons, sets_nil, wipe_cons, wipe_nil, ptIx_tup, szl0, szl1, szl2, ix0, ix1, ix2, ixl0, ixl1, neg1, k1, k2, k3, k4, len_t, n2i, dEq_ii, n2, abs_i, dGt_ii, decide_eq_true c, hx, dMul_ii hm, dSub_ii, hd, k5, k6, k7]
  · rw [if_neg c] at hx
    injection hx with hx
    injection hx with hx
    subst hx
    simp only [b_shift_of, ap_seq, ap_skip, ap_bad, ap_break, ap_cont, ap_if, ap_set, ap_par, ap_par3, ap_ret, ap_retN, ap_expr, ap_asg, ap_for, ap_var, ap_C, ap_f2, ap_f1, ap_nil, ap_cons, ap_tup, ap_lst, ap_cellL, ap_call, ap_fif, ap_bool, ap_tru, ap_and, ap_or, ap_not, ap_andV, ap_orV, ap_notV, ap_chain, ap_part, ap_nopart, ap_slice, ap_disp, ap_pnil, ap_pcons, ap_iter, ap_iterA, ap_lc, ap_gnam, ap_gtup, ap_glst, ap_gsnil, ap_gscons, ap_run, ap_yes, List.length_cons, List.length_nil, List.map_cons, List.map_nil, List.replicate_succ, List.replicate_zero, List.cons_append, List.nil_append, List.getElem?_cons_zero, List.getElem?_cons_succ, List.getElem?_nil, List.set_cons_zero, List.set_cons_succ, if_true, if_false, reduceIte, Nat.reduceAdd, Nat.reduceSub, Bool.false_eq_true, zip2, lc_cons, lc_nil, pts_tup, sets_cons, sets_nil, wipe_cons, wipe_nil, ptIx_tup, szl0, szl1, szl2, ix0, ix1, ix2, ixl0, ixl1, neg1, k1, k2, k3, k4, len_t, n2i, dEq_ii, n2, abs_i, dGt_ii, decide_eq_false c, dMul_ii hm, dSub_ii, hd, k5, k6, k7]
theorem shift2_eq {a1 a2 : Ar} {x1 y1 x2 y2 : D} {Q1 Q2 : Int × Int} {L : Int} (c1 : Cn a1.p) (c2 : Cn a2.p) (c3 : Cn Q1) (c4 : Cn Q2) (b1 : a1.p.2 ≤ 2 * L30) (b2 : a2.p.2 ≤ 2 * L30) (b3 : Q1.2 ≤ 2 * L30) (b4 : Q2.2 ≤ 2 * L30)
    (v1 : -(2 * L30) ≤ a1.v ∧ a1.v ≤ 2 * L30) (v2 : -(2 * L30) ≤ a2.v ∧ a2.v ≤ 2 * L30) (vn : a2.v ≠ 0) (co : Int.gcd a1.v a2.v = 1)
    (L0 : 0 < L) (L1 : L ≤ 10 ^ 40) (d1 : a1.p.2 ∣ L) (d2 : a2.p.2 ∣ L) (d3 : Q1.2 ∣ L) (d4 : Q2.2 ∣ L) (g : Gs) :
    ∃ S, phi_shift_of [.tup [arD a1, arD a2], .tup [.tup [x1, y1, pD Q1], .tup [x2, y2, pD Q2]]] g = .ok (pD S) g ∧ Cn S ∧ S.2 ≤ 10 ^ 40 ∧
      ∀ p, EqZ (vl Q1 + (a1.v : Rat) * vl p) (vl a1.p) → EqZ (vl Q2 + (a2.v : Rat) * vl p) (vl a2.p) → EqZ (vl S) (vl p) := by
  rw [L30_eq] at b1 b2 b3 b4 v1 v2
  have ca := aw_cn c1 c3
  have va := aw_val c1 c3
  have cb := aw_cn c2 c4
  have vb := aw_val c2 c4
  obtain ⟨e1, he1⟩ := dvd_whole c1.pos d1
  obtain ⟨e2, he2⟩ := dvd_whole c2.pos d2
  obtain ⟨e3, he3⟩ := dvd_whole c3.pos d3
  obtain ⟨e4, he4⟩ := dvd_whole c4.pos d4
  have la := Int.le_of_dvd L0 (cn_dvd (L := L) ca va ⟨e1 - e3, by rw [Rat.intCast_sub, ← he1, ← he3]; grind⟩)
  have lb := Int.le_of_dvd L0 (cn_dvd (L := L) cb vb ⟨e2 - e4, by rw [Rat.intCast_sub, ← he2, ← he4]; grind⟩)
  have hxy : ∃ x y : Int, (if 1 < (if a2.v < 0 then -a2.v else a2.v) then phi_inverse [.int a1.v, .int (if a2.v < 0 then -a2.v else a2.v)] g else .ok (.int 0) g) = .ok (.int x) g ∧ 0 ≤ x ∧ x ≤ 2 * 10 ^ 30 ∧ y * a2.v = 1 - x * a1.v := by
    by_cases c : 1 < (if a2.v < 0 then -a2.v else a2.v)
    · rw [if_pos c]
      have hb : (if a2.v < 0 then -a2.v else a2.v) ≤ 2 * 10 ^ 30 := by split <;> omega
      have hd : a2.v ∣ (if a2.v < 0 then -a2.v else a2.v) := by
        split
        · exact ⟨-1, by omega⟩
        · exact Int.dvd_refl _
      have hco : Int.gcd a1.v (if a2.v < 0 then -a2.v else a2.v) = 1 := by
        split
        · rw [Int.gcd_neg]; exact co
        · exact co
      obtain ⟨i, ei, i0, i1, hi⟩ := inverse_eq (by omega) (by omega) hco g
      obtain ⟨k, hk⟩ := Int.dvd_trans hd hi
      exact ⟨i, -k, ei, i0, by omega, by rw [Int.neg_mul, Int.mul_comm, ← hk]; omega⟩
    · rw [if_neg c]
      refine ⟨0, a2.v, rfl, by omega, by omega, ?_⟩
      have : a2.v = 1 ∨ a2.v = -1 := by
        by_cases q : a2.v < 0
        · rw [if_pos q] at c; omega
        · rw [if_neg q] at c; omega
      rcases this with q | q <;> rw [q] <;> omega
  obtain ⟨x, y, hx, x0, xB, hy⟩ := hxy
  have nx : x.natAbs ≤ 2 * 10 ^ 30 := by omega
  have nu : a1.v.natAbs ≤ 2 * 10 ^ 30 := by omega
  have pxu : (x * a1.v).natAbs ≤ (2 * 10 ^ 30) * (2 * 10 ^ 30) := by
    rw [Int.natAbs_mul]; exact Nat.mul_le_mul nx nu
  have yB : y.natAbs ≤ 1 + (2 * 10 ^ 30) * (2 * 10 ^ 30) := by
    have h1 : y.natAbs * 1 ≤ y.natAbs * a2.v.natAbs := Nat.mul_le_mul_left _ (by omega)
    rw [← Int.natAbs_mul, hy] at h1
    omega
  have my : Md y := by unfold Md; omega
  have mx : Md x := by unfold Md; omega
  have hd : dFdiv (.int (1 - x * a1.v)) (.int a2.v) g = .ok (.int y) g := by
    rw [dFdiv_g vn (by unfold Sm; omega), ← hy]
    rw [Int.fdiv_eq_ediv_of_dvd ⟨y, Int.mul_comm _ _⟩, Int.mul_ediv_cancel _ vn]
  have n1m : Md (-1) := by unfold Md; omega
  refine ⟨lin x (aw a1.p Q1) y (aw a2.p Q2), shift2_run (fun g => sc_eq c3 n1m (by omega) g) (fun g => sc_eq c4 n1m (by omega) g) (fun g => aw_eq c1 c3 (by omega) (by omega) g) (fun g => aw_eq c2 c4 (by omega) (by omega) g) hx (okMul_sm mx.sm (by unfold Sm; omega)) hd
    (fun g => sc_eq ca mx (by omega) g) (fun g => sc_eq cb my (by omega) g) (fun g => lin_eq ca cb (by omega) (by omega) g), lin_cn ca cb, ?_, fun p h1 h2 => ?_⟩
  · refine Int.le_trans (Int.le_of_dvd L0 (cn_dvd (L := L) (lin_cn ca cb) ((lin_val ca cb).trans ((va.mul x).add (vb.mul y))) ⟨x * (e1 - e3) + y * (e2 - e4), ?_⟩)) L1
    rw [Rat.intCast_add, Rat.intCast_mul, Rat.intCast_mul, Rat.intCast_sub, Rat.intCast_sub, ← he1, ← he2, ← he3, ← he4]
    grind
  · have hxy : (x : Rat) * (a1.v : Rat) + (y : Rat) * (a2.v : Rat) = 1 := by
      rw [← Rat.intCast_mul, ← Rat.intCast_mul, ← Rat.intCast_add, hy]
      have : x * a1.v + (1 - x * a1.v) = 1 := by omega
      rw [this]; rfl
    have f1 : EqZ (vl a1.p - vl Q1) ((a1.v : Rat) * vl p) := (h1.symm.sub (EqZ.refl (vl Q1))).trans (.of_eq (by grind))
    have f2 : EqZ (vl a2.p - vl Q2) ((a2.v : Rat) * vl p) := (h2.symm.sub (EqZ.refl (vl Q2))).trans (.of_eq (by grind))
    refine ((lin_val ca cb).trans (((va.trans f1).mul x).add ((vb.trans f2).mul y))).trans (.of_eq ?_)
    have : (x : Rat) * ((a1.v : Rat) * vl p) + (y : Rat) * ((a2.v : Rat) * vl p) = ((x : Rat) * (a1.v : Rat) + (y : Rat) * (a2.v : Rat)) * vl p := by grind
    rw [this, hxy]
    grind
end LC
set_option maxRecDepth 100000
set_option maxHeartbeats 4000000
namespace LC
open PySem PySem.Spec PyProof.Rows L2 DL LB
def oth (n : St5) (c k : Bool) : List Ar := (if c then n.ars.reverse else n.ars).map (Ar.neg k)
def mB (p : Int × Int) (a b : Ar) : Bool := decide (a.z = b.z) && (decide (a.v = b.v) && decide (pt (b.p.1 * p.2 + a.v * p.1 * b.p.2) (b.p.2 * p.2) = a.p))
theorem mB_neg (k : Bool) (p : Int × Int) (a b : Ar) : mB p a (b.neg k) = matchB k p a b := match_neg k p a b
theorem all_zip_map (f : Ar → Ar) (q : Ar → Ar → Bool) : ∀ (A l : List Ar), (A.zip (l.map f)).all (fun x => q x.1 x.2) = (A.zip l).all (fun x => q x.1 (f x.2))
  | [], _ => by simp
  | _ :: _, [] => by simp
  | a :: A, b :: l => by
    rw [List.map_cons, List.zip_cons_cons, List.zip_cons_cons, List.all_cons, List.all_cons, all_zip_map f q A l]
theorem shown_oth (A : List Ar) (n : St5) (c k : Bool) (p : Int × Int) : shownB A n.ars c k p = (isP p && (decide (A.length = (oth n c k).length) && (!(c && decide (A.length = 1)) && ((A.zip (oth n c k)).all fun q => mB p q.1 q.2)))) := by
  have hl : (oth n c k).length = n.ars.length := by unfold oth; rw [List.length_map]; cases c <;> simp
  have hz : ((A.zip (oth n c k)).all fun q => mB p q.1 q.2) = ((A.zip (if c then n.ars.reverse else n.ars)).all fun q => matchB k p q.1 q.2) := by
    unfold oth
    rw [all_zip_map (Ar.neg k) (fun a b => mB p a b)]
    simp only [mB_neg]
  unfold shownB
  rw [hl, hz]
theorem mB_iff {p : Int × Int} {a b : Ar} (h2 : 0 < p.2) (ca : Cn a.p) (cb : Cn b.p) : mB p a b = true ↔ a.z = b.z ∧ a.v = b.v ∧ EqZ (vl b.p + (a.v : Rat) * vl p) (vl a.p) := by
  have h := match_iff (k := false) (a := a) (b := b) h2 ca cb
  have e : matchB false p a b = mB p a b := by
    unfold matchB mB
    simp
  rw [e] at h
  simpa using h
abbrev hdD (a : Ar) : D := .tup [.int a.z, .int a.v]
def hdP (a : Ar) : PyData := .tuple [.int a.z, .int a.v]
theorem shp_h1 (a : Ar) : SeqAt.shaped (.list [hdP a]) = true := by simp [hdP, SeqAt.shaped, PyData.canLay0, PyData.canLayAll0, PyData.depth, PyData.depthAll]
theorem shp_h2 (a b : Ar) : SeqAt.shaped (.list [hdP a, hdP b]) = true := by simp [hdP, SeqAt.shaped, PyData.canLay0, PyData.canLayAll0, PyData.depth, PyData.depthAll]
theorem dEq_11 (a b : Ar) (g : Gs) : dEq (.lst [hdD a]) (.lst [hdD b]) g = .ok (.bl (decide (a.z = b.z ∧ a.v = b.v))) g := by
  rw [dEq_of (x := .lst [hdD a]) (y := .lst [hdD b]) (p := .list [hdP a]) (q := .list [hdP b]) rfl rfl (shp_h1 a) (shp_h1 b)]
  congr 2
  rw [Bool.eq_iff_iff]
  simp [hdP, PyData.eqv, PyData.eqvAll]
theorem dEq_12 (a b b' : Ar) (g : Gs) : dEq (.lst [hdD a]) (.lst [hdD b, hdD b']) g = .ok (.bl false) g := by
  rw [dEq_of (x := .lst [hdD a]) (y := .lst [hdD b, hdD b']) (p := .list [hdP a]) (q := .list [hdP b, hdP b']) rfl rfl (shp_h1 a) (shp_h2 b b')]
  simp [hdP, PyData.eqv, PyData.eqvAll]
theorem dEq_21 (a b b' : Ar) (g : Gs) : dEq (.lst [hdD b, hdD b']) (.lst [hdD a]) g = .ok (.bl false) g := by
  rw [dEq_of (x := .lst [hdD b, hdD b']) (y := .lst [hdD a]) (p := .list [hdP b, hdP b']) (q := .list [hdP a]) rfl rfl (shp_h2 b b') (shp_h1 a)]
  simp [hdP, PyData.eqv, PyData.eqvAll]
theorem dEq_22 (a a' b b' : Ar) (g : Gs) : dEq (.lst [hdD a, hdD a']) (.lst [hdD b, hdD b']) g = .ok (.bl (decide ((a.z = b.z ∧ a.v = b.v) ∧ a'.z = b'.z ∧ a'.v = b'.v))) g := by
  rw [dEq_of (x := .lst [hdD a, hdD a']) (y := .lst [hdD b, hdD b']) (p := .list [hdP a, hdP a']) (q := .list [hdP b, hdP b']) rfl rfl (shp_h2 a a') (shp_h2 b b')]
  congr 2
  rw [Bool.eq_iff_iff]
  simp [hdP, PyData.eqv, PyData.eqvAll]
abbrev paS1 : FS := (sSet 4 (fIf (fTru (fVar 2)) (f1 dRev2 (fCall phi_terms_of (fCons (fVar 1) fNil))) (fCall phi_terms_of (fCons (fVar 1) fNil))))
abbrev paS2 : FS := (sIf (fTru (fVar 3)) (sSet 4 (fCall dTupOf (fCons (fLc (fIter dIterB (fVar 4)) (.tup [7, 8, 9]) ftYes (fTup (fCons (fVar 7) (fCons (f1 dNeg (fVar 8)) (fCons (fVar 9) fNil))))) fNil))) sSkip)
abbrev paS3 : FS := (sIf (fBool (f2 dEq (fLc (fIter dIterB (fCall phi_terms_of (fCons (fVar 0) fNil))) (.one 6) ftYes (fSlice (fVar 6) fNoPart (fPart (fC (.int 2))))) (fLc (fIter dIterB (fVar 4)) (.one 6) ftYes (fSlice (fVar 6) fNoPart (fPart (fC (.int 2))))))) (sSeq (sSet 5 (fTup (fCons (fVar 2) (fCons (fVar 3) (fCons (fCall phi_shift_of (fCons (fCall phi_terms_of (fCons (fVar 0) fNil)) (fCons (fVar 4) fNil))) fNil)))))
  (sIf (fTru (fCall phi_is_same_line (fCons (fVar 0) (fCons (fVar 1) (fCons (fVar 5) fNil))))) (sRet (fVar 5)) sSkip)) sSkip)
abbrev paB : FS := (sSeq paS1 (sSeq paS2 paS3))
abbrev paE (s n : St5) (c k : Bool) (y4 y5 : Option D) : DL.Env := [some (stD s), some (stD n), some (.bl c), some (.bl k), y4, y5, none, none, none, none]
theorem two_ars (n : St5) : (∃ b, n.ars = [b]) ∨ ∃ b b', n.ars = [b, b'] := by
  by_cases h : n.a = 0
  · exact .inl ⟨_, ars_0 h⟩
  · exact .inr ⟨_, _, ars_2 h⟩
theorem pa_12 {s n : St5} (hn : Vd n) (c k : Bool) (y4 y5 : Option D) (g : Gs) : paB (paE s n c k y4 y5) g = paS3 (paE s n c k (some (.tup ((oth n c k).map arD))) y5) g := by
  have B := terms_eq hn g
  have e1 : paS1 (paE s n c k y4 y5) g = .nx (paE s n c k (some (.tup ((if c then n.ars.reverse else n.ars).map arD))) y5) g := by
    cases c
    · simp only [paS1, paE, ap_seq, ap_skip, ap_bad, ap_break, ap_cont, ap_if, ap_set, ap_par, ap_par3, ap_ret, ap_retN, ap_expr, ap_asg, ap_for, ap_var, ap_C, ap_f2, ap_f1, ap_nil, ap_cons, ap_tup, ap_lst, ap_cellL, ap_call, ap_fif, ap_bool, ap_tru, ap_and, ap_or, ap_not, ap_andV, ap_orV, ap_notV, ap_chain, ap_part, ap_nopart, ap_slice, ap_disp, ap_pnil, ap_pcons, ap_iter, ap_iterA, ap_lc, ap_gnam, ap_gtup, ap_glst, ap_gsnil, ap_gscons, ap_run, ap_yes, List.length_cons, List.length_nil, List.map_cons, List.map_nil, List.replicate_succ, List.replicate_zero, List.cons_append, List.nil_append, List.getElem?_cons_zero, List.getElem?_cons_succ, List.getElem?_nil, List.set_cons_zero, List.set_cons_succ, if_true, if_false, reduceIte, Nat.reduceAdd, Nat.reduceSub, Bool.false_eq_true, tru_b, B]
    · simp only [paS1, paE, ap_seq, ap_skip, ap_bad, ap_break, ap_cont, ap_if, ap_set, ap_par, ap_par3, ap_ret, ap_retN, ap_expr, ap_asg, ap_for, ap_var, ap_C, ap_f2, ap_f1, ap_nil, ap_cons, ap_tup, ap_lst, ap_cellL, ap_call, ap_fif, ap_bool, ap_tru, ap_and, ap_or, ap_not, ap_andV, ap_orV, ap_notV, ap_chain, ap_part, ap_nopart, ap_slice, ap_disp, ap_pnil, ap_pcons, ap_iter, ap_iterA, ap_lc, ap_gnam, ap_gtup, ap_glst, ap_gsnil, ap_gscons, ap_run, ap_yes, List.length_cons, List.length_nil, List.map_cons, List.map_nil, List.replicate_succ, List.replicate_zero, List.cons_append, List.nil_append, List.getElem?_cons_zero, List.getElem?_cons_succ, List.getElem?_nil, List.set_cons_zero, List.set_cons_succ, if_true, if_false, reduceIte, Nat.reduceAdd, Nat.reduceSub, Bool.false_eq_true, tru_b, B, rev2_t, List.map_reverse]
  have e2 : paS2 (paE s n c k (some (.tup ((if c then n.ars.reverse else n.ars).map arD))) y5) g = .nx (paE s n c k (some (.tup ((oth n c k).map arD))) y5) g := by
    unfold oth
    have h : ∃ l : List Ar, (if c then n.ars.reverse else n.ars) = l ∧ ((∃ b, l = [b]) ∨ ∃ b b', l = [b, b']) := by
      refine ⟨_, rfl, ?_⟩
      rcases two_ars n with ⟨b, h⟩ | ⟨b, b', h⟩ <;> rw [h] <;> cases c
      · exact .inl ⟨_, rfl⟩
      · exact .inl ⟨_, rfl⟩
      · exact .inr ⟨_, _, rfl⟩
      · exact .inr ⟨_, _, rfl⟩
    obtain ⟨l, hl, h⟩ := h
    rw [hl]
    cases k
    · have : l.map (Ar.neg false) = l := by
        rcases h with ⟨b, rfl⟩ | ⟨b, b', rfl⟩ <;> simp [Ar.neg]
      rw [this]
      simp only [paS2, paE, ap_seq, ap_skip, ap_bad, ap_break, ap_cont, ap_if, ap_set, ap_par, ap_par3, ap_ret, ap_retN, ap_expr, ap_asg, ap_for, ap_var, ap_C, ap_f2, ap_f1, ap_nil, ap_cons, ap_tup, ap_lst, ap_cellL, ap_call, ap_fif, ap_bool, ap_tru, ap_and, ap_or, ap_not, ap_andV, ap_orV, ap_notV, ap_chain, ap_part, ap_nopart, ap_slice, ap_disp, ap_pnil, ap_pcons, ap_iter, ap_iterA, ap_lc, ap_gnam, ap_gtup, ap_glst, ap_gsnil, ap_gscons, ap_run, ap_yes, List.length_cons, List.length_nil, List.map_cons, List.map_nil, List.replicate_succ, List.replicate_zero, List.cons_append, List.nil_append, List.getElem?_cons_zero, List.getElem?_cons_succ, List.getElem?_nil, List.set_cons_zero, List.set_cons_succ, if_true, if_false, reduceIte, Nat.reduceAdd, Nat.reduceSub, Bool.false_eq_true, tru_b]
    · rcases h with ⟨b, rfl⟩ | ⟨b, b', rfl⟩
      · simp only [paS2, paE, ap_seq, ap_skip, ap_bad, ap_break, ap_cont, ap_if, ap_set, ap_par, ap_par3, ap_ret, ap_retN, ap_expr, ap_asg, ap_for, ap_var, ap_C, ap_f2, ap_f1, ap_nil, ap_cons, ap_tup, ap_lst, ap_cellL, ap_call, ap_fif, ap_bool, ap_tru, ap_and, ap_or, ap_not, ap_andV, ap_orV, ap_notV, ap_chain, ap_part, ap_nopart, ap_slice, ap_disp, ap_pnil, ap_pcons, ap_iter, ap_iterA, ap_lc, ap_gnam, ap_gtup, ap_glst, ap_gsnil, ap_gscons, ap_run, ap_yes, List.length_cons, List.length_nil, List.map_cons, List.map_nil, List.replicate_succ, List.replicate_zero, List.cons_append, List.nil_append, List.getElem?_cons_zero, List.getElem?_cons_succ, List.getElem?_nil, List.set_cons_zero, List.set_cons_succ, if_true, if_false, reduceIte, Nat.reduceAdd, Nat.reduceSub, Bool.false_eq_true, tru_b, iterB_t, lc_cons, lc_nil, pts_tup, sets_cons, sets_nil, wipe_cons, wipe_nil, ptIx_tup, szl0, szl1, szl2, dTup_ok, okSz3, dNeg_i, tupOf_l, Ar.neg]
      · simp only [paS2, paE, ap_seq, ap_skip, ap_bad, ap_break, ap_cont, ap_if, ap_set, ap_par, ap_par3, ap_ret, ap_retN, ap_expr, ap_asg, ap_for, ap_var, ap_C, ap_f2, ap_f1, ap_nil, ap_cons, ap_tup, ap_lst, ap_cellL, ap_call, ap_fif, ap_bool, ap_tru, ap_and, ap_or, ap_not, ap_andV, ap_orV, ap_notV, ap_chain, ap_part, ap_nopart, ap_slice, ap_disp, ap_pnil, ap_pcons, ap_iter, ap_iterA, ap_lc, ap_gnam, ap_gtup, ap_glst, ap_gsnil, ap_gscons, ap_run, ap_yes, List.length_cons, List.length_nil, List.map_cons, List.map_nil, List.replicate_succ, List.replicate_zero, List.cons_append, List.nil_append, List.getElem?_cons_zero, List.getElem?_cons_succ, List.getElem?_nil, List.set_cons_zero, List.set_cons_succ, if_true, if_false, reduceIte, Nat.reduceAdd, Nat.reduceSub, Bool.false_eq_true, tru_b, iterB_t, lc_cons, lc_nil, pts_tup, sets_cons, sets_nil, wipe_cons, wipe_nil, ptIx_tup, szl0, szl1, szl2, dTup_ok, okSz3, dNeg_i, tupOf_l, Ar.neg]
  unfold paB
  rw [ap_seq, e1]
  dsimp only
  rw [ap_seq, e2]
/-- the rest, once the heads are known -/
theorem pa_no {s n : St5} {c k : Bool} {A B : List Ar} {y5 : Option D} {g : Gs} (hA : phi_terms_of [stD s] g = .ok (.tup (A.map arD)) g) (lA : (∃ b, A = [b]) ∨ ∃ b b', A = [b, b']) (lB : (∃ b, B = [b]) ∨ ∃ b b', B = [b, b'])
    (h : ¬ A.map hdD = B.map hdD) : paS3 (paE s n c k (some (.tup (B.map arD))) y5) g = .nx (paE s n c k (some (.tup (B.map arD))) y5) g := by
  rcases lA with ⟨a, rfl⟩ | ⟨a, a', rfl⟩ <;> rcases lB with ⟨b, rfl⟩ | ⟨b, b', rfl⟩
  · have hd : decide (a.z = b.z ∧ a.v = b.v) = false := decide_eq_false fun z => h (by simp [z.1, z.2])
    have e := dEq_11 a b g
    rw [hd] at e
    simp only [paS3, paE, ap_seq, ap_skip, ap_bad, ap_break, ap_cont, ap_if, ap_set, ap_par, ap_par3, ap_ret, ap_retN, ap_expr, ap_asg, ap_for, ap_var, ap_C, ap_f2, ap_f1, ap_nil, ap_cons, ap_tup, ap_lst, ap_cellL, ap_call, ap_fif, ap_bool, ap_tru, ap_and, ap_or, ap_not, ap_andV, ap_orV, ap_notV, ap_chain, ap_part, ap_nopart, ap_slice, ap_disp, ap_pnil, ap_pcons, ap_iter, ap_iterA, ap_lc, ap_gnam, ap_gtup, ap_glst, ap_gsnil, ap_gscons, ap_run, ap_yes, List.length_cons, List.length_nil, List.map_cons, List.map_nil, List.replicate_succ, List.replicate_zero, List.cons_append, List.nil_append, List.getElem?_cons_zero, List.getElem?_cons_succ, List.getElem?_nil, List.set_cons_zero, List.set_cons_succ, if_true, if_false, reduceIte, Nat.reduceAdd, Nat.reduceSub, Bool.false_eq_true, hA, iterB_t, lc_cons, lc_nil, LB.pts_one, wipe_cons, wipe_nil, ptIx_one, szl0, szl1, szl2, sl2, e]
  · have e := dEq_12 a b b' g
    simp only [paS3, paE, ap_seq, ap_skip, ap_bad, ap_break, ap_cont, ap_if, ap_set, ap_par, ap_par3, ap_ret, ap_retN, ap_expr, ap_asg, ap_for, ap_var, ap_C, ap_f2, ap_f1, ap_nil, ap_cons, ap_tup, ap_lst, ap_cellL, ap_call, ap_fif, ap_bool, ap_tru, ap_and, ap_or, ap_not, ap_andV, ap_orV, ap_notV, ap_chain, ap_part, ap_nopart, ap_slice, ap_disp, ap_pnil, ap_pcons, ap_iter, ap_iterA, ap_lc, ap_gnam, ap_gtup, ap_glst, ap_gsnil, ap_gscons, ap_run, ap_yes, List.length_cons, List.length_nil, List.map_cons, List.map_nil, List.replicate_succ, List.replicate_zero, List.cons_append, List.nil_append, List.getElem?_cons_zero, List.getElem?_cons_succ, List.getElem?_nil, List.set_cons_zero, List.set_cons_succ, if_true, if_false, reduceIte, Nat.reduceAdd, Nat.reduceSub, Bool.false_eq_true, hA, iterB_t, lc_cons, lc_nil, LB.pts_one, wipe_cons, wipe_nil, ptIx_one, szl0, szl1, szl2, sl2, e]
  · have e := dEq_21 b a a' g
    simp only [paS3, paE, ap_seq, ap_skip, ap_bad, ap_break, ap_cont, ap_if, ap_set, ap_par, ap_par3, ap_ret, ap_retN, ap_expr, ap_asg, ap_for, ap_var, ap_C, ap_f2, ap_f1, ap_nil, ap_cons, ap_tup, ap_lst, ap_cellL, ap_call, ap_fif, ap_bool, ap_tru, ap_and, ap_or, ap_not, ap_andV, ap_orV, ap_notV, ap_chain, ap_part, ap_nopart, ap_slice, ap_disp, ap_pnil, ap_pcons, ap_iter, ap_iterA, ap_lc, ap_gnam, ap_gtup, ap_glst, ap_gsnil, ap_gscons, ap_run, ap_yes, List.length_cons, List.length_nil, List.map_cons, List.map_nil, List.replicate_succ, List.replicate_zero, List.cons_append, List.nil_append, List.getElem?_cons_zero, List.getElem?_cons_succ, List.getElem?_nil, List.set_cons_zero, List.set_cons_succ, if_true, if_false, reduceIte, Nat.reduceAdd, Nat.reduceSub, Bool.false_eq_true, hA, iterB_t, lc_cons, lc_nil, LB.pts_one, wipe_cons, wipe_nil, ptIx_one, szl0, szl1, szl2, sl2, e]
  · have hd : decide ((a.z = b.z ∧ a.v = b.v) ∧ a'.z = b'.z ∧ a'.v = b'.v) = false := decide_eq_false fun z => h (by simp [z.1.1, z.1.2, z.2.1, z.2.2])
    have e := dEq_22 a a' b b' g
    rw [hd] at e
    simp only [paS3, paE, ap_seq, ap_skip, ap_bad, ap_break, ap_cont, ap_if, ap_set, ap_par, ap_par3, ap_ret, ap_retN, ap_expr, ap_asg, ap_for, ap_var, ap_C, ap_f2, ap_f1, ap_nil, ap_cons, ap_tup, ap_lst, ap_cellL, ap_call, ap_fif, ap_bool, ap_tru, ap_and, ap_or, ap_not, ap_andV, ap_orV, ap_notV, ap_chain, ap_part, ap_nopart, ap_slice, ap_disp, ap_pnil, ap_pcons, ap_iter, ap_iterA, ap_lc, ap_gnam, ap_gtup, ap_glst, ap_gsnil, ap_gscons, ap_run, ap_yes, List.length_cons, List.length_nil, List.map_cons, List.map_nil, List.replicate_succ, List.replicate_zero, List.cons_append, List.nil_append, List.getElem?_cons_zero, List.getElem?_cons_succ, List.getElem?_nil, List.set_cons_zero, List.set_cons_succ, if_true, if_false, reduceIte, Nat.reduceAdd, Nat.reduceSub, Bool.false_eq_true, hA, iterB_t, lc_cons, lc_nil, LB.pts_one, wipe_cons, wipe_nil, ptIx_one, szl0, szl1, szl2, sl2, e]
theorem pa_yes {s n : St5} {c k t : Bool} {A B : List Ar} {S : D} {y5 : Option D} {g : Gs} (hA : phi_terms_of [stD s] g = .ok (.tup (A.map arD)) g) (lA : (∃ b, A = [b]) ∨ ∃ b b', A = [b, b']) (lB : (∃ b, B = [b]) ∨ ∃ b b', B = [b, b'])
    (h : A.map hdD = B.map hdD) (eS : phi_shift_of [.tup (A.map arD), .tup (B.map arD)] g = .ok S g) (et : phi_is_same_line [stD s, stD n, .tup [.bl c, .bl k, S]] g = .ok (.bl t) g) :
    paS3 (paE s n c k (some (.tup (B.map arD))) y5) g = if t = true then .rt (.tup [.bl c, .bl k, S]) g else .nx (paE s n c k (some (.tup (B.map arD))) (some (.tup [.bl c, .bl k, S]))) g := by
  have key : ∀ e1 : (f2 dEq (fLc (fIter dIterB (fCall phi_terms_of (fCons (fVar 0) fNil))) (.one 6) ftYes (fSlice (fVar 6) fNoPart (fPart (fC (.int 2))))) (fLc (fIter dIterB (fVar 4)) (.one 6) ftYes (fSlice (fVar 6) fNoPart (fPart (fC (.int 2)))))) (paE s n c k (some (.tup (B.map arD))) y5) g = .ok (.bl true) g,
      paS3 (paE s n c k (some (.tup (B.map arD))) y5) g = if t = true then .rt (.tup [.bl c, .bl k, S]) g else .nx (paE s n c k (some (.tup (B.map arD))) (some (.tup [.bl c, .bl k, S]))) g := by
    intro e1
    unfold paS3
    rw [ap_if, ap_bool, e1]
    dsimp only
    cases t
    · simp only [paE, ap_seq, ap_skip, ap_bad, ap_break, ap_cont, ap_if, ap_set, ap_par, ap_par3, ap_ret, ap_retN, ap_expr, ap_asg, ap_for, ap_var, ap_C, ap_f2, ap_f1, ap_nil, ap_cons, ap_tup, ap_lst, ap_cellL, ap_call, ap_fif, ap_bool, ap_tru, ap_and, ap_or, ap_not, ap_andV, ap_orV, ap_notV, ap_chain, ap_part, ap_nopart, ap_slice, ap_disp, ap_pnil, ap_pcons, ap_iter, ap_iterA, ap_lc, ap_gnam, ap_gtup, ap_glst, ap_gsnil, ap_gscons, ap_run, ap_yes, List.length_cons, List.length_nil, List.map_cons, List.map_nil, List.replicate_succ, List.replicate_zero, List.cons_append, List.nil_append, List.getElem?_cons_zero, List.getElem?_cons_succ, List.getElem?_nil, List.set_cons_zero, List.set_cons_succ, if_true, if_false, reduceIte, Nat.reduceAdd, Nat.reduceSub, Bool.false_eq_true, hA, eS, et, tru_b, dTup_ok, okSz3]
    · simp only [paE, ap_seq, ap_skip, ap_bad, ap_break, ap_cont, ap_if, ap_set, ap_par, ap_par3, ap_ret, ap_retN, ap_expr, ap_asg, ap_for, ap_var, ap_C, ap_f2, ap_f1, ap_nil, ap_cons, ap_tup, ap_lst, ap_cellL, ap_call, ap_fif, ap_bool, ap_tru, ap_and, ap_or, ap_not, ap_andV, ap_orV, ap_notV, ap_chain, ap_part, ap_nopart, ap_slice, ap_disp, ap_pnil, ap_pcons, ap_iter, ap_iterA, ap_lc, ap_gnam, ap_gtup, ap_glst, ap_gsnil, ap_gscons, ap_run, ap_yes, List.length_cons, List.length_nil, List.map_cons, List.map_nil, List.replicate_succ, List.replicate_zero, List.cons_append, List.nil_append, List.getElem?_cons_zero, List.getElem?_cons_succ, List.getElem?_nil, List.set_cons_zero, List.set_cons_succ, if_true, if_false, reduceIte, Nat.reduceAdd, Nat.reduceSub, Bool.false_eq_true, hA, eS, et, tru_b, dTup_ok, okSz3]
  refine key ?_
  rcases lA with ⟨a, rfl⟩ | ⟨a, a', rfl⟩ <;> rcases lB with ⟨b, rfl⟩ | ⟨b, b', rfl⟩
  · have hd : decide (a.z = b.z ∧ a.v = b.v) = true := decide_eq_true (by simpa using h)
    have e := dEq_11 a b g
    rw [hd] at e
    simp only [paE, ap_seq, ap_skip, ap_bad, ap_break, ap_cont, ap_if, ap_set, ap_par, ap_par3, ap_ret, ap_retN, ap_expr, ap_asg, ap_for, ap_var, ap_C, ap_f2, ap_f1, ap_nil, ap_cons, ap_tup, ap_lst, ap_cellL, ap_call, ap_fif, ap_bool, ap_tru, ap_and, ap_or, ap_not, ap_andV, ap_orV, ap_notV, ap_chain, ap_part, ap_nopart, ap_slice, ap_disp, ap_pnil, ap_pcons, ap_iter, ap_iterA, ap_lc, ap_gnam, ap_gtup, ap_glst, ap_gsnil, ap_gscons, ap_run, ap_yes, List.length_cons, List.length_nil, List.map_cons, List.map_nil, List.replicate_succ, List.replicate_zero, List.cons_append, List.nil_append, List.getElem?_cons_zero, List.getElem?_cons_succ, List.getElem?_nil, List.set_cons_zero, List.set_cons_succ, if_true, if_false, reduceIte, Nat.reduceAdd, Nat.reduceSub, Bool.false_eq_true, hA, iterB_t, lc_cons, lc_nil, LB.pts_one, wipe_cons, wipe_nil, ptIx_one, szl0, szl1, szl2, sl2, e]
  · simp at h
  · simp at h
  · have hd : decide ((a.z = b.z ∧ a.v = b.v) ∧ a'.z = b'.z ∧ a'.v = b'.v) = true := decide_eq_true (by simpa using h)
    have e := dEq_22 a a' b b' g
    rw [hd] at e
    simp only [paE, ap_seq, ap_skip, ap_bad, ap_break, ap_cont, ap_if, ap_set, ap_par, ap_par3, ap_ret, ap_retN, ap_expr, ap_asg, ap_for, ap_var, ap_C, ap_f2, ap_f1, ap_nil, ap_cons, ap_tup, ap_lst, ap_cellL, ap_call, ap_fif, ap_bool, ap_tru, ap_and, ap_or, ap_not, ap_andV, ap_orV, ap_notV, ap_chain, ap_part, ap_nopart, ap_slice, ap_disp, ap_pnil, ap_pcons, ap_iter, ap_iterA, ap_lc, ap_gnam, ap_gtup, ap_glst, ap_gsnil, ap_gscons, ap_run, ap_yes, List.length_cons, List.length_nil, List.map_cons, List.map_nil, List.replicate_succ, List.replicate_zero, List.cons_append, List.nil_append, List.getElem?_cons_zero, List.getElem?_cons_succ, List.getElem?_nil, List.set_cons_zero, List.set_cons_succ, if_true, if_false, reduceIte, Nat.reduceAdd, Nat.reduceSub, Bool.false_eq_true, hA, iterB_t, lc_cons, lc_nil, LB.pts_one, wipe_cons, wipe_nil, ptIx_one, szl0, szl1, szl2, sl2, e]
end LC
set_option maxRecDepth 100000
set_option maxHeartbeats 4000000
namespace LC
open PySem PySem.Spec PyProof.Rows L2 DL LB
theorem ars_ph {n : St5} {x : Ar} (h : x ∈ n.ars) : x.p = n.p1 ∨ x.p = n.p2 := by
  by_cases e : n.a = 0
  · rw [ars_0 e] at h
    simp only [List.mem_cons, List.not_mem_nil, or_false] at h
    rw [h]; exact .inl rfl
  · rw [ars_2 e] at h
    simp only [List.mem_cons, List.not_mem_nil, or_false] at h
    rcases h with h | h <;> rw [h]
    · exact .inl rfl
    · exact .inr rfl
theorem oth_ok {n : St5} (hn : Vd n) {L : Int} (d1 : n.p1.2 ∣ L) (d2 : n.p2.2 ∣ L) (c k : Bool) : ∀ b ∈ oth n c k, Cn b.p ∧ b.p.2 ≤ 2 * L30 ∧ b.p.2 ∣ L := by
  intro b hb
  unfold oth at hb
  obtain ⟨x, hx, rfl⟩ := List.mem_map.mp hb
  have hx : x ∈ n.ars := by cases c <;> simpa using hx
  have o := ars_ok hn x hx
  refine ⟨o.c, o.b, ?_⟩
  show x.p.2 ∣ L
  rcases ars_ph hx with e | e <;> rw [e] <;> assumption
theorem oth_len (n : St5) (c k : Bool) : (∃ b, oth n c k = [b]) ∨ ∃ b b', oth n c k = [b, b'] := by
  unfold oth
  rcases two_ars n with ⟨b, h⟩ | ⟨b, b', h⟩ <;> rw [h] <;> cases c
  · exact .inl ⟨_, rfl⟩
  · exact .inl ⟨_, rfl⟩
  · exact .inr ⟨_, _, rfl⟩
  · exact .inr ⟨_, _, rfl⟩
theorem isP_cn' {p : Int × Int} (h : isP p = true) : Cn p := by
  have q := isP_pos h
  have := pt_cn (a := p.1) (b := p.2) (by omega)
  rw [q.2.2] at this
  exact this
theorem heads_of {A B : List Ar} {p : Int × Int} (lA : (∃ b, A = [b]) ∨ ∃ b b', A = [b, b']) (lB : (∃ b, B = [b]) ∨ ∃ b b', B = [b, b']) (hl : A.length = B.length) (h : ((A.zip B).all fun q => mB p q.1 q.2) = true) : A.map hdD = B.map hdD := by
  have mz : ∀ a b : Ar, mB p a b = true → hdD a = hdD b := fun a b h => by
    unfold mB at h
    rw [Bool.and_eq_true, Bool.and_eq_true] at h
    have h1 := of_decide_eq_true h.1
    have h2 := of_decide_eq_true h.2.1
    unfold hdD
    rw [h1, h2]
  rcases lA with ⟨a, rfl⟩ | ⟨a, a', rfl⟩ <;> rcases lB with ⟨b, rfl⟩ | ⟨b, b', rfl⟩
  · simp only [List.zip_cons_cons, List.zip_nil_left, List.all_cons, List.all_nil, Bool.and_true] at h
    rw [List.map_cons, List.map_cons, mz _ _ h]
  · simp at hl
  · simp at hl
  · simp only [List.zip_cons_cons, List.zip_nil_left, List.all_cons, List.all_nil, Bool.and_true, Bool.and_eq_true] at h
    rw [List.map_cons, List.map_cons, List.map_cons, List.map_cons, mz _ _ h.1, mz _ _ h.2]
theorem sl_facts {s : St5} (h : Vd s) : Int.gcd s.q s.sl = 1 ∧ s.sl ≠ 0 := by
  obtain ⟨r, F⟩ := fct h
  have co := F.co
  have mp := F.mp
  rcases F.cs with ⟨_, _, e⟩ | ⟨_, _, e⟩ | ⟨_, _, e⟩
  · rw [e, Int.gcd_neg]; exact ⟨co, by omega⟩
  · rw [e]; exact ⟨co, by omega⟩
  · rw [e]; exact ⟨co, by omega⟩
theorem shift_any {s n : St5} (P : Pr s n) (c k : Bool) (h : s.ars.map hdD = (oth n c k).map hdD) (g : Gs) : ∃ S, phi_shift_of [.tup (s.ars.map arD), .tup ((oth n c k).map arD)] g = .ok (pD S) g ∧ Cn S ∧ S.2 ≤ 10 ^ 40 ∧ ∀ p, shownB s.ars n.ars c k p = true → S = p := by
  obtain ⟨L, L0, L1, d1, d2, d3, d4, d5⟩ := P.l
  have okB := oth_ok P.hn d4 d5 c k
  have okA := ars_ok P.hs
  have sf := sl_facts P.hs
  have un : ∀ p, shownB s.ars n.ars c k p = true → Cn p ∧ ((s.ars.zip (oth n c k)).all fun q => mB p q.1 q.2) = true := fun p hp => by
    rw [shown_oth, Bool.and_eq_true, Bool.and_eq_true, Bool.and_eq_true] at hp
    exact ⟨isP_cn' hp.1, hp.2.2.2⟩
  by_cases ha : s.a = 0
  · rw [ars_0 ha] at h un okA ⊢
    rcases oth_len n c k with ⟨b, eb⟩ | ⟨b, b', eb⟩
    · rw [eb] at h un okB ⊢
      have oa := okA ⟨s.mid, 1, s.p1⟩ (by simp)
      have ob := okB b (by simp)
      obtain ⟨S, e, cS, lS, hS⟩ := shift1_eq (a1 := ⟨s.mid, 1, s.p1⟩) (x := .int b.z) (y := .int b.v) (Q := b.p) rfl oa.c ob.1 oa.b ob.2.1 L0 L1 d1 ob.2.2 g
      refine ⟨S, e, cS, lS, fun p hp => ?_⟩
      obtain ⟨cp, hm⟩ := un p hp
      simp only [List.zip_cons_cons, List.zip_nil_left, List.all_cons, List.all_nil, Bool.and_true] at hm
      exact cn_uniq cS cp (hS p ((mB_iff cp.pos oa.c ob.1).mp hm).2.2)
    · rw [eb] at h; simp at h
  · rw [ars_2 ha] at h un okA ⊢
    rcases oth_len n c k with ⟨b, eb⟩ | ⟨b, b', eb⟩
    · rw [eb] at h; simp at h
    · rw [eb] at h un okB ⊢
      have oa := okA ⟨s.mid, s.q, s.p1⟩ (by simp)
      have oa' := okA ⟨s.a, s.sl, s.p2⟩ (by simp)
      have ob := okB b (by simp)
      have ob' := okB b' (by simp)
      obtain ⟨S, e, cS, lS, hS⟩ := shift2_eq (a1 := ⟨s.mid, s.q, s.p1⟩) (a2 := ⟨s.a, s.sl, s.p2⟩) (x1 := .int b.z) (y1 := .int b.v) (x2 := .int b'.z) (y2 := .int b'.v) (Q1 := b.p) (Q2 := b'.p) oa.c oa'.c ob.1 ob'.1 oa.b oa'.b ob.2.1 ob'.2.1 oa.v oa'.v sf.2 sf.1 L0 L1 d1 d3 ob.2.2 ob'.2.2 g
      refine ⟨S, e, cS, lS, fun p hp => ?_⟩
      obtain ⟨cp, hm⟩ := un p hp
      simp only [List.zip_cons_cons, List.zip_nil_left, List.all_cons, List.all_nil, Bool.and_true, Bool.and_eq_true] at hm
      exact cn_uniq cS cp (hS p ((mB_iff cp.pos oa.c ob.1).mp hm.1).2.2 ((mB_iff cp.pos oa'.c ob'.1).mp hm.2).2.2)
theorem comb_eq {s n : St5} (P : Pr s n) (c k : Bool) (y4 y5 : Option D) (g : Gs) :
    (∃ S, Cn S ∧ S.2 ≤ 10 ^ 42 ∧ shownB s.ars n.ars c k S = true ∧ paB (paE s n c k y4 y5) g = .rt (slD c k S) g) ∨ ((∀ p, shownB s.ars n.ars c k p = false) ∧ ∃ z4 z5, paB (paE s n c k y4 y5) g = .nx (paE s n c k z4 z5) g) := by
  have hA := terms_eq P.hs g
  have lA := two_ars s
  have lB := oth_len n c k
  rw [pa_12 P.hn c k y4 y5 g]
  by_cases h : s.ars.map hdD = (oth n c k).map hdD
  · obtain ⟨S, e, cS, lS, hS⟩ := shift_any P c k h g
    have lS2 : S.2 ≤ 10 ^ 42 := by omega
    have et := same_line_eq P.hs P.hn (c := c) (k := k) (pb_of cS lS2) g
    have y := pa_yes (y5 := y5) hA lA lB h e et
    rw [y]
    cases hz : shownB s.ars n.ars c k S
    · rw [if_neg (by decide)]
      refine .inr ⟨fun p => ?_, _, _, rfl⟩
      cases hp : shownB s.ars n.ars c k p
      · rfl
      · have := hS p hp
        rw [this, hp] at hz
        cases hz
    · rw [if_pos rfl]
      exact .inl ⟨S, cS, lS2, hz, rfl⟩
  · rw [pa_no hA lA lB h]
    refine .inr ⟨fun p => ?_, _, _, rfl⟩
    cases hp : shownB s.ars n.ars c k p
    · rfl
    · exfalso
      rw [shown_oth, Bool.and_eq_true, Bool.and_eq_true, Bool.and_eq_true] at hp
      exact h (heads_of lA lB (of_decide_eq_true hp.2.1) hp.2.2.2)
abbrev pfI (W : FS) : FS := (sFor (fIter dIterB (fTup (fCons (fC (.bl false)) (fCons (fC (.bl true)) fNil)))) (gNam 3) W)
abbrev pfO (W : FS) : FS := (sSeq (sFor (fIter dIterB (fTup (fCons (fC (.bl false)) (fCons (fC (.bl true)) fNil)))) (gNam 2) (pfI W)) (sRet (fC .non)))
theorem pf_is : b_paper_for = pfO paB := rfl
theorem tup_ft (ρ : DL.Env) (g : Gs) : (fIter dIterB (fTup (fCons (fC (.bl false)) (fCons (fC (.bl true)) fNil)))) ρ g = .ok [.bl false, .bl true] g := by
  simp only [ap_seq, ap_skip, ap_bad, ap_break, ap_cont, ap_if, ap_set, ap_par, ap_par3, ap_ret, ap_retN, ap_expr, ap_asg, ap_for, ap_var, ap_C, ap_f2, ap_f1, ap_nil, ap_cons, ap_tup, ap_lst, ap_cellL, ap_call, ap_fif, ap_bool, ap_tru, ap_and, ap_or, ap_not, ap_andV, ap_orV, ap_notV, ap_chain, ap_part, ap_nopart, ap_slice, ap_disp, ap_pnil, ap_pcons, ap_iter, ap_iterA, ap_lc, ap_gnam, ap_gtup, ap_glst, ap_gsnil, ap_gscons, ap_run, ap_yes, List.length_cons, List.length_nil, List.map_cons, List.map_nil, List.replicate_succ, List.replicate_zero, List.cons_append, List.nil_append, List.getElem?_cons_zero, List.getElem?_cons_succ, List.getElem?_nil, List.set_cons_zero, List.set_cons_succ, if_true, if_false, reduceIte, Nat.reduceAdd, Nat.reduceSub, Bool.false_eq_true, dTup_ok, okSz2, iterB_t]
theorem pf_inner {s n : St5} (P : Pr s n) (c : Bool) (y3 y4 y5 : Option D) (g : Gs) :
    (∃ k S, Cn S ∧ S.2 ≤ 10 ^ 42 ∧ shownB s.ars n.ars c k S = true ∧ pfI paB [some (stD s), some (stD n), some (.bl c), y3, y4, y5, none, none, none, none] g = .rt (slD c k S) g) ∨
    ((∀ k p, shownB s.ars n.ars c k p = false) ∧ ∃ z3 z4 z5, pfI paB [some (stD s), some (stD n), some (.bl c), y3, y4, y5, none, none, none, none] g = .nx [some (stD s), some (stD n), some (.bl c), z3, z4, z5, none, none, none, none] g) := by
  have h0 : ∀ (b : Bool) y3 y4 y5, gNam 3 (.bl b) [some (stD s), some (stD n), some (.bl c), y3, y4, y5, none, none, none, none] g = .ok (paE s n c b y4 y5) g := fun b y3 y4 y5 => rfl
  unfold pfI
  rw [ap_for, tup_ft]
  dsimp only
  rw [ap_for_cons, h0]
  dsimp only
  rcases comb_eq P c false y4 y5 g with ⟨S, a1, a2, a3, e⟩ | ⟨a, z4, z5, e⟩
  · rw [e]; exact .inl ⟨false, S, a1, a2, a3, rfl⟩
  · rw [e]
    dsimp only
    rw [ap_for_cons]
    show (∃ k S, _) ∨ _
    have h1 : gNam 3 (.bl true) (paE s n c false z4 z5) g = .ok (paE s n c true z4 z5) g := rfl
    rw [h1]
    dsimp only
    rcases comb_eq P c true z4 z5 g with ⟨S, a1, a2, a3, e⟩ | ⟨a', x4, x5, e⟩
    · rw [e]; exact .inl ⟨true, S, a1, a2, a3, rfl⟩
    · rw [e]
      dsimp only
      rw [ap_for_nil]
      exact .inr ⟨fun k p => by cases k; exact a p; exact a' p, _, _, _, rfl⟩
theorem paper_eq {s n : St5} (P : Pr s n) (hf : s.form = n.form) (g : Gs) : ∃ c k p, phi_paper_for [stD s, stD n] g = .ok (slD c k p) g ∧ Cn p ∧ p.2 ≤ 10 ^ 42 ∧ shownB s.ars n.ars c k p = true := by
  obtain ⟨c0, k0, t, _, _, h0⟩ := found_of_form P.hs P.hn hf
  have run : ∀ o : OutS, forD (gNam 2) (pfI paB) [.bl false, .bl true] [some (stD s), some (stD n), none, none, none, none, none, none, none, none] g = o → ∀ d, o = .rt d g → phi_paper_for [stD s, stD n] g = .ok d g := fun o ho d hd => by
    unfold phi_paper_for
    rw [pf_is, ap_run, if_pos (show [stD s, stD n].length = 2 from rfl)]
    have e0 : ([stD s, stD n].map some ++ List.replicate (10 - 2) none : DL.Env) = [some (stD s), some (stD n), none, none, none, none, none, none, none, none] := rfl
    rw [e0]
    unfold pfO
    rw [ap_seq, ap_for, tup_ft]
    dsimp only
    rw [ho, hd]
  have h1 : ∀ (b : Bool) y2 y3 y4 y5, gNam 2 (.bl b) [some (stD s), some (stD n), y2, y3, y4, y5, none, none, none, none] g = .ok [some (stD s), some (stD n), some (.bl b), y3, y4, y5, none, none, none, none] g := fun b y2 y3 y4 y5 => rfl
  rcases pf_inner P false none none none g with ⟨k, S, a1, a2, a3, e⟩ | ⟨a, z3, z4, z5, e⟩
  · refine ⟨false, k, S, run _ rfl _ ?_, a1, a2, a3⟩
    rw [ap_for_cons, h1]
    dsimp only
    rw [e]
  · rcases pf_inner P true z3 z4 z5 g with ⟨k, S, a1, a2, a3, e'⟩ | ⟨a', x3, x4, x5, e'⟩
    · refine ⟨true, k, S, run _ rfl _ ?_, a1, a2, a3⟩
      rw [ap_for_cons, h1]
      dsimp only
      rw [e]
      dsimp only
      rw [ap_for_cons, h1]
      dsimp only
      rw [e']
    · exfalso
      cases c0
      · rw [a k0 _] at h0; cases h0
      · rw [a' k0 _] at h0; cases h0
theorem certify_eq {s n : St5} (P : Pr s n) (g : Gs) : (s.form ≠ n.form ∧ phi_certify_same [lineD s, lineD n] g = .ok .non g) ∨
    ∃ c k p, s.form = n.form ∧ phi_certify_same [lineD s, lineD n] g = .ok (.tup [askD s n, slD c k p]) g ∧ Cn p ∧ p.2 ≤ 10 ^ 42 ∧ shownB s.ars n.ars c k p = true := by
  have sm := same_eq P.hs P.hn g
  unfold phi_certify_same
  by_cases hf : s.form = n.form
  · obtain ⟨c, k, p, e, cp, lp, hs⟩ := paper_eq P hf g
    refine .inr ⟨c, k, p, hf, ?_, cp, lp, hs⟩
    rw [decide_eq_true hf] at sm
    simp only [b_certify_same, ap_seq, ap_skip, ap_bad, ap_break, ap_cont, ap_if, ap_set, ap_par, ap_par3, ap_ret, ap_retN, ap_expr, ap_asg, ap_for, ap_var, ap_C, ap_f2, ap_f1, ap_nil, ap_cons, ap_tup, ap_lst, ap_cellL, ap_call, ap_fif, ap_bool, ap_tru, ap_and, ap_or, ap_not, ap_andV, ap_orV, ap_notV, ap_chain, ap_part, ap_nopart, ap_slice, ap_disp, ap_pnil, ap_pcons, ap_iter, ap_iterA, ap_lc, ap_gnam, ap_gtup, ap_glst, ap_gsnil, ap_gscons, ap_run, ap_yes, List.length_cons, List.length_nil, List.map_cons, List.map_nil, List.replicate_succ, List.replicate_zero, List.cons_append, List.nil_append, List.getElem?_cons_zero, List.getElem?_cons_succ, List.getElem?_nil, List.set_cons_zero, List.set_cons_succ, if_true, if_false, reduceIte, Nat.reduceAdd, Nat.reduceSub, Bool.false_eq_true, sm, tru_b, Bool.not_true, prop_setting, e, dTup_ok, okSz2, okSz3]
  · refine .inl ⟨hf, ?_⟩
    rw [decide_eq_false hf] at sm
    simp only [b_certify_same, ap_seq, ap_skip, ap_bad, ap_break, ap_cont, ap_if, ap_set, ap_par, ap_par3, ap_ret, ap_retN, ap_expr, ap_asg, ap_for, ap_var, ap_C, ap_f2, ap_f1, ap_nil, ap_cons, ap_tup, ap_lst, ap_cellL, ap_call, ap_fif, ap_bool, ap_tru, ap_and, ap_or, ap_not, ap_andV, ap_orV, ap_notV, ap_chain, ap_part, ap_nopart, ap_slice, ap_disp, ap_pnil, ap_pcons, ap_iter, ap_iterA, ap_lc, ap_gnam, ap_gtup, ap_glst, ap_gsnil, ap_gscons, ap_run, ap_yes, List.length_cons, List.length_nil, List.map_cons, List.map_nil, List.replicate_succ, List.replicate_zero, List.cons_append, List.nil_append, List.getElem?_cons_zero, List.getElem?_cons_succ, List.getElem?_nil, List.set_cons_zero, List.set_cons_succ, if_true, if_false, reduceIte, Nat.reduceAdd, Nat.reduceSub, Bool.false_eq_true, sm, tru_b, Bool.not_false]
end LC
set_option maxRecDepth 100000
set_option maxHeartbeats 4000000
namespace LC
open PySem PySem.Spec PyProof.Rows L2 DL LB
structure Ri (i : Int) : Prop where
  l : i.natAbs.log2 < 1920
  n : (PyData.shown (.int i)).length ≤ 600
  w : PyData.weight (.int i) ≤ 1000
theorem ri_of {i : Int} (h : i.natAbs < 10 ^ 200) : Ri i := by
  have l := sm_log (i := i) h
  refine ⟨by omega, ?_, ?_⟩
  · have e := int_text_length_le10 (a := i) (k := 200) (by decide) h
    show (Str.ofString (toString i)).length ≤ 600
    rw [PySem.ofString_length]
    omega
  · unfold PyData.weight
    split <;> omega
theorem repr_of {x : D} {p : PyData} (h : pd x = some p) (hx : (∃ l, x = .tup l) ∨ ∃ l, x = .lst l) (h1 : p.showable = true) (h2 : p.hasDict = false) (h3 : p.depth + 1 ≤ 64) (h4 : p.leavesShort 600 = true) (h5 : p.weight ≤ 27000) (g : Gs) : dRepr [x] g = .ok (.str p.shown) g := by
  have hl := PyData.shown_le 600 (by decide) p h4
  have hb : dReprB p = true := by
    unfold dReprB
    rw [h1, h2, decide_eq_true h3, show okSz p.shown.length = true from decide_eq_true (by rw [sizeLine_eq]; omega)]
    rfl
  rcases hx with ⟨l, rfl⟩ | ⟨l, rfl⟩
  · show (match pd (.tup l) with | some p => if dReprB p then Out.ok (D.str p.shown) g else .bad | none => .bad) = _
    rw [h]
    dsimp only
    rw [if_pos hb]
  · show (match pd (.lst l) with | some p => if dReprB p then Out.ok (D.str p.shown) g else .bad | none => .bad) = _
    rw [h]
    dsimp only
    rw [if_pos hb]
theorem wt_tup (l : List PyData) : PyData.weight (.tuple l) = PyData.weightAll l := by rw [PyData.weight]
theorem wt_nil : PyData.weightAll [] = 0 := by rw [PyData.weightAll]
theorem wt_cons (x : PyData) (l : List PyData) : PyData.weightAll (x :: l) = x.weight + 1 + PyData.weightAll l := by rw [PyData.weightAll]
theorem wt_bool (b : Bool) : PyData.weight (.bool b) = 0 := by rw [PyData.weight]
def stP (s : St5) : PyData := .tuple [.str s.sd.s, .int s.R, .int s.w, .int s.a, .int s.t]
def askP (s n : St5) : PyData := .tuple [.str "same line", stP s, stP n]
def slP (c k : Bool) (p : Int × Int) : PyData := .tuple [.bool c, .bool k, .tuple [.int p.1, .int p.2]]
theorem sds_short (sd : Sd) : PyData.leavesShort 600 (.str sd.s) = true := by cases sd <;> decide +kernel
theorem sds_w (sd : Sd) : PyData.weight (.str sd.s) ≤ 10 := by cases sd <;> decide +kernel
theorem stP_ok {s : St5} (h : Vd s) : (stP s).showable = true ∧ (stP s).hasDict = false ∧ (stP s).depth = 1 ∧ (stP s).leavesShort 600 = true ∧ (stP s).weight ≤ 5000 := by
  have r1 := h.r1; have w1 := h.w1; have a0 := h.a0; have t0 := h.t0; have rB := h.rB; have wB := h.wB; have aB := h.aB; have tB := h.tB
  rw [L30_eq] at rB wB aB tB
  have i1 : Ri s.R := ri_of (by omega)
  have i2 : Ri s.w := ri_of (by omega)
  have i3 : Ri s.a := ri_of (by omega)
  have i4 : Ri s.t := ri_of (by omega)
  have d1 := sds_short s.sd
  have d2 := sds_w s.sd
  have j1 := i1.n; have j2 := i2.n; have j3 := i3.n; have j4 := i4.n
  have k1 := i1.w; have k2 := i2.w; have k3 := i3.w; have k4 := i4.w
  unfold stP
  refine ⟨?_, ?_, ?_, ?_, ?_⟩
  · simp only [PyData.showable, PyData.showableAll, decide_eq_true i1.l, decide_eq_true i2.l, decide_eq_true i3.l, decide_eq_true i4.l, Bool.and_self, Bool.and_true]
  · simp only [PyData.hasDict, PyData.hasDictAll, Bool.or_self]
  · simp [PyData.depth, PyData.depthAll]
  · simp only [PyData.leavesShort, PyData.leavesShortAll, decide_eq_true j1, decide_eq_true j2, decide_eq_true j3, decide_eq_true j4, Bool.and_self, Bool.and_true] at d1 ⊢
    exact d1
  · simp only [wt_tup, wt_cons, wt_nil]
    omega
theorem repr_ask {s n : St5} (hs : Vd s) (hn : Vd n) (g : Gs) : dRepr [askD s n] g = .ok (.str (askP s n).shown) g := by
  have a := stP_ok hs
  have b := stP_ok hn
  have d1 : PyData.leavesShort 600 (.str "same line") = true := by decide +kernel
  have d2 : PyData.weight (.str "same line") ≤ 10 := by decide +kernel
  refine repr_of (x := askD s n) (p := askP s n) rfl (.inl ⟨_, rfl⟩) ?_ ?_ ?_ ?_ ?_ g
  · simp only [askP, PyData.showable, PyData.showableAll, a.1, b.1, Bool.and_self, Bool.and_true]
  · simp only [askP, PyData.hasDict, PyData.hasDictAll, a.2.1, b.2.1, Bool.or_self]
  · simp [askP, PyData.depth, PyData.depthAll, a.2.2.1, b.2.2.1]
  · simp only [askP, PyData.leavesShort, PyData.leavesShortAll, a.2.2.2.1, b.2.2.2.1, Bool.and_self, Bool.and_true] at d1 ⊢
    exact d1
  · unfold askP
    rw [wt_tup, wt_cons, wt_cons, wt_cons, wt_nil]
    have := a.2.2.2.2
    have := b.2.2.2.2
    omega
theorem repr_pair {s n : St5} (hs : Vd s) (hn : Vd n) {c k : Bool} {p : Int × Int} (cp : Cn p) (lp : p.2 ≤ 10 ^ 42) (g : Gs) : dRepr [.tup [askD s n, slD c k p]] g = .ok (.str (PyData.tuple [askP s n, slP c k p]).shown) g := by
  have a := stP_ok hs
  have b := stP_ok hn
  have p0 := cp.1
  have p1 := cp.2.1
  have i1 : Ri p.1 := ri_of (by omega)
  have i2 : Ri p.2 := ri_of (by omega)
  have j1 := i1.n; have j2 := i2.n
  have k1 := i1.w; have k2 := i2.w
  have d1 : PyData.leavesShort 600 (.str "same line") = true := by decide +kernel
  have d2 : PyData.weight (.str "same line") ≤ 10 := by decide +kernel
  refine repr_of (x := .tup [askD s n, slD c k p]) (p := .tuple [askP s n, slP c k p]) rfl (.inl ⟨_, rfl⟩) ?_ ?_ ?_ ?_ ?_ g
  · simp only [askP, slP, PyData.showable, PyData.showableAll, a.1, b.1, decide_eq_true i1.l, decide_eq_true i2.l, Bool.and_self, Bool.and_true]
  · simp only [askP, slP, PyData.hasDict, PyData.hasDictAll, a.2.1, b.2.1, Bool.or_self]
  · simp [askP, slP, PyData.depth, PyData.depthAll, a.2.2.1, b.2.2.1]
  · simp only [askP, slP, PyData.leavesShort, PyData.leavesShortAll, a.2.2.2.1, b.2.2.2.1, decide_eq_true j1, decide_eq_true j2, Bool.and_self, Bool.and_true] at d1 ⊢
    exact d1
  · unfold askP slP
    simp only [wt_tup, wt_cons, wt_nil, wt_bool]
    have := a.2.2.2.2
    have := b.2.2.2.2
    omega
theorem repr_non (g : Gs) : dRepr [.non] g = .ok (.str "None") g := rfl
theorem dNeS_same (x : Str) (g : Gs) : dNeS (.str x) (.str x) g = .ok (.bl false) g := by
  show Out.ok (D.bl (!decide (x = x))) g = _
  rw [decide_eq_true rfl]
  rfl
theorem denK_cert (a b : D) (g : Gs) : denK phi_certify_same 2 sw2 [a, b] g = phi_certify_same [b, a] g := by
  unfold denK
  rw [if_pos (show [a, b].length = 2 from rfl)]
  rfl
noncomputable abbrev ceB : FS := (sSeq (sSet 4 (fCall phi__law_mate (fCons (fVar 0) (fCons (fVar 2) fNil))))
  (sSeq (sSet 5 (fLst (fCons (fCall phi_certify_same (fCons (fCall phi__law_line (fCons (fVar 2) fNil)) (fCons (fCall phi__law_line (fCons (fVar 4) fNil)) fNil))) (fCons (fCall (denK phi_certify_same 2 sw2) (fCons (fCall phi__law_line (fCons (fVar 4) fNil)) (fCons (fCall phi__law_line (fCons (fVar 2) fNil)) fNil))) fNil))))
  (sSeq (sIf (fOr (fBool (f2 dNeS (fCall dRepr (fCons (f2 dIx (fVar 5) (fC (.int 0))) fNil)) (fCall dRepr (fCons (f2 dIx (fVar 5) (fC (.int 1))) fNil)))) (fBool (f2 dNe (f2 dIsNot (f2 dIx (fVar 5) (fC (.int 0))) (fC .non)) (f2 dEq (fCall phi__law_form (fCons (fVar 2) fNil)) (fCall phi__law_form (fCons (fVar 4) fNil)))))) (sRet (fC (.bl false))) sSkip)
  (sIf (fBool (f2 dIsNot (f2 dIx (fVar 5) (fC (.int 0))) (fC .non))) (sSeq (sAsg (f2 dIx (fVar 5) (fC (.int 0))) (gTup 2 (gsCons (gNam 6) (gsCons (gNam 7) gsNil))))
  (sSeq (sIf (fOr (fBool (f2 dNeS (fCall dRepr (fCons (fVar 6) fNil)) (fCall dRepr (fCons (fTup (fCons (fC (.str "same line")) (fCons (fVar 2) (fCons (fVar 4) fNil)))) fNil)))) (fNot (fTru (fCall phi__law_is_shown (fCons (fVar 2) (fCons (fVar 4) (fCons (fVar 7) fNil))))))) (sRet (fC (.bl false))) sSkip)
  (sIf (fBool (f2 dIsNot (fCall phi_accepts (fCons (fVar 6) (fCons (fVar 7) fNil))) (fC (.bl true)))) (sRet (fC (.bl false))) sSkip))) sSkip))))
theorem isNot_non (g : Gs) : dIsNot .non .non g = .ok (.bl false) g := rfl
theorem isNot_tup (l : List D) (g : Gs) : dIsNot (.tup l) .non g = .ok (.bl true) g := rfl
theorem isNot_tt (g : Gs) : dIsNot (.bl true) (.bl true) g = .ok (.bl false) g := rfl
theorem ce_run0 {n : Nat} {y1 y3 y4 y5 y6 y7 : Option D} {a b la lb f1 f2' : D} {g g1 : Gs} (e1 : phi__law_mate [.cell n, a] g = .ok b g1) (e2 : phi__law_line [a] g1 = .ok la g1) (e3 : phi__law_line [b] g1 = .ok lb g1) (e4 : phi_certify_same [la, lb] g1 = .ok .non g1)
    (e5 : phi__law_form [a] g1 = .ok f1 g1) (e6 : phi__law_form [b] g1 = .ok f2' g1) (e7 : dEq f1 f2' g1 = .ok (.bl false) g1) :
    ceB [some (.cell n), y1, some a, y3, y4, y5, y6, y7] g = .nx [some (.cell n), y1, some a, y3, some b, some (.lst [.non, .non]), y6, y7] g1 := by
  have ff : (false != false) = false := rfl
  simp only [ceB, ap_seq, ap_skip, ap_bad, ap_break, ap_cont, ap_if, ap_set, ap_par, ap_par3, ap_ret, ap_retN, ap_expr, ap_asg, ap_for, ap_var, ap_C, ap_f2, ap_f1, ap_nil, ap_cons, ap_tup, ap_lst, ap_cellL, ap_call, ap_fif, ap_bool, ap_tru, ap_and, ap_or, ap_not, ap_andV, ap_orV, ap_notV, ap_chain, ap_part, ap_nopart, ap_slice, ap_disp, ap_pnil, ap_pcons, ap_iter, ap_iterA, ap_lc, ap_gnam, ap_gtup, ap_glst, ap_gsnil, ap_gscons, ap_run, ap_yes, List.length_cons, List.length_nil, List.map_cons, List.map_nil, List.replicate_succ, List.replicate_zero, List.cons_append, List.nil_append, List.getElem?_cons_zero, List.getElem?_cons_succ, List.getElem?_nil, List.set_cons_zero, List.set_cons_succ, if_true, if_false, reduceIte, Nat.reduceAdd, Nat.reduceSub, Bool.false_eq_true, e1, e2, e3, e4, e5, e6, e7, denK_cert, dLst_ok, okSz2, ixl0, ixl1, repr_non, dNeS_same, isNot_non, dNe_bb, ff]
theorem ce_run1 {n : Nat} {y1 y3 y4 y5 y6 y7 : Option D} {a b la lb f1 f2' sl : D} {z1 z2 : Str} {g g1 : Gs} (e1 : phi__law_mate [.cell n, a] g = .ok b g1) (e2 : phi__law_line [a] g1 = .ok la g1) (e3 : phi__law_line [b] g1 = .ok lb g1) (e4 : phi_certify_same [la, lb] g1 = .ok (.tup [.tup [.str "same line", a, b], sl]) g1)
    (e5 : phi__law_form [a] g1 = .ok f1 g1) (e6 : phi__law_form [b] g1 = .ok f2' g1) (e7 : dEq f1 f2' g1 = .ok (.bl true) g1) (r1 : dRepr [.tup [.tup [.str "same line", a, b], sl]] g1 = .ok (.str z1) g1) (r2 : dRepr [.tup [.str "same line", a, b]] g1 = .ok (.str z2) g1)
    (e8 : phi__law_is_shown [a, b, sl] g1 = .ok (.bl true) g1) (e9 : phi_accepts [.tup [.str "same line", a, b], sl] g1 = .ok (.bl true) g1) :
    ceB [some (.cell n), y1, some a, y3, y4, y5, y6, y7] g = .nx [some (.cell n), y1, some a, y3, some b, some (.lst [.tup [.tup [.str "same line", a, b], sl], .tup [.tup [.str "same line", a, b], sl]]), some (.tup [.str "same line", a, b]), some sl] g1 := by
  have tt : (true != true) = false := rfl
  simp only [ceB, ap_seq, ap_skip, ap_bad, ap_break, ap_cont, ap_if, ap_set, ap_par, ap_par3, ap_ret, ap_retN, ap_expr, ap_asg, ap_for, ap_var, ap_C, ap_f2, ap_f1, ap_nil, ap_cons, ap_tup, ap_lst, ap_cellL, ap_call, ap_fif, ap_bool, ap_tru, ap_and, ap_or, ap_not, ap_andV, ap_orV, ap_notV, ap_chain, ap_part, ap_nopart, ap_slice, ap_disp, ap_pnil, ap_pcons, ap_iter, ap_iterA, ap_lc, ap_gnam, ap_gtup, ap_glst, ap_gsnil, ap_gscons, ap_run, ap_yes, List.length_cons, List.length_nil, List.map_cons, List.map_nil, List.replicate_succ, List.replicate_zero, List.cons_append, List.nil_append, List.getElem?_cons_zero, List.getElem?_cons_succ, List.getElem?_nil, List.set_cons_zero, List.set_cons_succ, if_true, if_false, reduceIte, Nat.reduceAdd, Nat.reduceSub, Bool.false_eq_true, e1, e2, e3, e4, e5, e6, e7, e8, e9, denK_cert, dLst_ok, dTup_ok, okSz2, okSz3, ixl0, ixl1, r1, r2, dNeS_same, isNot_tup, isNot_tt, dNe_bb, tt, tru_b, Bool.not_true]
theorem ce_one {n : Nat} {B : Int} {s : St5} {y1 y3 y4 y5 y6 y7 : Option D} {g : Gs} (j : Jar g n B) (hB : B ≤ 10 ^ 36) (h : Vd s) (ks : s.stroke = false) (v : s.v1 ≤ 100) (hR : s.R ≤ 10 ^ 29) (ha : s.a ≤ 10 ^ 29) :
    ∃ z4 z5 z6 z7 g', ceB [some (.cell n), y1, some (stD s), y3, y4, y5, y6, y7] g = .nx [some (.cell n), y1, some (stD s), y3, z4, z5, z6, z7] g' ∧ Jar g' n (B + 70) := by
  obtain ⟨u, g1, e1, P, j1⟩ := mate_eq j (by omega) h ks v hR ha
  have e2 := line_eq P.hs P.ks g1
  have e3 := line_eq P.hn P.kn g1
  have e5 := form_eq P.hs g1
  have e6 := form_eq P.hn g1
  have e7 := dEq_fm s.form u.form g1
  rcases certify_eq P g1 with ⟨hf, e4⟩ | ⟨c, k, p, hf, e4, cp, lp, hz⟩
  · rw [decide_eq_false hf] at e7
    exact ⟨_, _, _, _, g1, ce_run0 e1 e2 e3 e4 e5 e6 e7, j1.mono (by omega)⟩
  · rw [decide_eq_true hf] at e7
    have pb := pb_of cp lp
    have e8 := is_shown_eq P.hs P.hn (c := c) (k := k) pb g1
    have e9 := (accepts_eq P.hs P.hn P.ks P.kn (slD c k p) g1).trans (same_line_eq P.hs P.hn pb g1)
    rw [hz] at e8 e9
    exact ⟨_, _, _, _, g1, ce_run1 e1 e2 e3 e4 e5 e6 e7 (repr_pair P.hs P.hn cp lp g1) (repr_ask P.hs P.hn g1) e8 e9, j1.mono (by omega)⟩
theorem ce_loop {n : Nat} {s : St5} {y1 : Option D} (h : Vd s) (ks : s.stroke = false) (v : s.v1 ≤ 100) (hR : s.R ≤ 10 ^ 29) (ha : s.a ≤ 10 ^ 29) : ∀ (ts : List D) (B : Int) (y3 y4 y5 y6 y7 : Option D) (g : Gs), Jar g n B → B + 70 * (ts.length : Int) ≤ 10 ^ 36 →
    ∃ z3 z4 z5 z6 z7 g', forD (gNam 3) ceB ts [some (.cell n), y1, some (stD s), y3, y4, y5, y6, y7] g = .nx [some (.cell n), y1, some (stD s), z3, z4, z5, z6, z7] g' ∧ Jar g' n (B + 70 * (ts.length : Int))
  | [], B, y3, y4, y5, y6, y7, g, j, hB => ⟨y3, y4, y5, y6, y7, g, rfl, by simpa using j⟩
  | t :: ts, B, y3, y4, y5, y6, y7, g, j, hB => by
    rw [List.length_cons] at hB ⊢
    obtain ⟨z4, z5, z6, z7, g1, e, j1⟩ := ce_one (y1 := y1) (y3 := some t) (y4 := y4) (y5 := y5) (y6 := y6) (y7 := y7) j (by omega) h ks v hR ha
    obtain ⟨x3, x4, x5, x6, x7, g2, e2, j2⟩ := ce_loop h ks v hR ha ts (B + 70) (some t) z4 z5 z6 z7 g1 j1 (by omega) (y1 := y1)
    refine ⟨x3, x4, x5, x6, x7, g2, ?_, j2.mono (by omega)⟩
    have e0 : gNam 3 t [some (.cell n), y1, some (stD s), y3, y4, y5, y6, y7] g = .ok [some (.cell n), y1, some (stD s), some t, y4, y5, y6, y7] g := rfl
    rw [ap_for_cons, e0]
    dsimp only
    rw [e]
    exact e2
theorem tc_run {W : FS} {n : Nat} {M : Int} {a : D} {y1 y2 y3 y4 y5 y6 y7 : Option D} {g g1 g2 g3 : Gs} {r : DL.Env} (e1 : phi__law_one [.cell n, .lst [.int 6, .int 40, .int (10 ^ 27)]] g = .ok (.int M) g1)
    (e2 : phi__law_set [.cell n, .int M] g1 = .ok a g2) (e3 : forD (gNam 3) W ([0, 1, 2, 3].map D.int) [some (.cell n), y1, some a, y3, y4, y5, y6, y7] g2 = .nx r g3) :
    tuB W [some (.cell n), y1, y2, y3, y4, y5, y6, y7] g = .nx r g3 := by
  simp only [tuB, ap_seq, ap_skip, ap_bad, ap_break, ap_cont, ap_if, ap_set, ap_par, ap_par3, ap_ret, ap_retN, ap_expr, ap_asg, ap_for, ap_var, ap_C, ap_f2, ap_f1, ap_nil, ap_cons, ap_tup, ap_lst, ap_cellL, ap_call, ap_fif, ap_bool, ap_tru, ap_and, ap_or, ap_not, ap_andV, ap_orV, ap_notV, ap_chain, ap_part, ap_nopart, ap_slice, ap_disp, ap_pnil, ap_pcons, ap_iter, ap_iterA, ap_lc, ap_gnam, ap_gtup, ap_glst, ap_gsnil, ap_gscons, ap_run, ap_yes, List.length_cons, List.length_nil, List.map_cons, List.map_nil, List.replicate_succ, List.replicate_zero, List.cons_append, List.nil_append, List.getElem?_cons_zero, List.getElem?_cons_succ, List.getElem?_nil, List.set_cons_zero, List.set_cons_succ, if_true, if_false, reduceIte, Nat.reduceAdd, Nat.reduceSub, Bool.false_eq_true, pow27, dLst_ok, okSz3, e1, e2, rg4] at e3 ⊢
  exact e3
theorem tc_loop {n : Nat} : ∀ (ts : List D) (B : Int) (y1 y2 y3 y4 y5 y6 y7 : Option D) (g : Gs), Jar g n B → B + 400 * (ts.length : Int) ≤ 10 ^ 35 →
    ∃ z1 z2 z3 z4 z5 z6 z7 g', forD (gNam 1) (tuB ceB) ts [some (.cell n), y1, y2, y3, y4, y5, y6, y7] g = .nx [some (.cell n), z1, z2, z3, z4, z5, z6, z7] g' ∧ Jar g' n (B + 400 * (ts.length : Int))
  | [], B, y1, y2, y3, y4, y5, y6, y7, g, j, hB => ⟨y1, y2, y3, y4, y5, y6, y7, g, rfl, by simpa using j⟩
  | t :: ts, B, y1, y2, y3, y4, y5, y6, y7, g, j, hB => by
    rw [List.length_cons] at hB ⊢
    obtain ⟨d, g1, e1, hd, j1⟩ := one_eq j (by omega) (l := [6, 40, 10 ^ 27].map D.int) (by simp) (by simp)
    obtain ⟨M, hM, rfl⟩ := ints_mem hd
    have MB : 0 < M ∧ M ≤ 10 ^ 27 := by
      simp only [List.mem_cons, List.not_mem_nil, or_false] at hM
      rcases hM with q | q | q <;> omega
    obtain ⟨s, g2, e2, V, k, v, hR, ha, j2⟩ := set_eq j1 (by omega) MB.1 MB.2
    obtain ⟨x3, x4, x5, x6, x7, g3, e3, j3⟩ := ce_loop V k (by omega) (by omega) ha ([0, 1, 2, 3].map D.int) _ y3 y4 y5 y6 y7 g2 j2 (by simp; omega) (y1 := some t)
    have run := tc_run (y2 := y2) e1 e2 e3
    obtain ⟨u1, u2, u3, u4, u5, u6, u7, g4, e4, j4⟩ := tc_loop ts (B + 400) (some t) (some (stD s)) x3 x4 x5 x6 x7 g3 (j3.mono (by simp; omega)) (by omega)
    refine ⟨u1, u2, u3, u4, u5, u6, u7, g4, ?_, j4.mono (by omega)⟩
    have e0 : gNam 1 t [some (.cell n), y1, y2, y3, y4, y5, y6, y7] g = .ok [some (.cell n), some t, y2, y3, y4, y5, y6, y7] g := rfl
    rw [ap_for_cons, e0]
    dsimp only
    rw [run]
    exact e4
abbrev cerW (W : FS) : FS := (sSeq (sFor (fIterA dRg1 (fCons (fC (.int 5)) fNil)) (gNam 1) W) (sRet (fC (.bl true))))
theorem rg5 (g : Gs) : dRg1 [.int 5] g = .ok ([0, 1, 2, 3, 4].map D.int) g := (rfl)
theorem cer_run {W : FS} {n : Nat} {g g' : Gs} {r : DL.Env} (e : forD (gNam 1) W ([0, 1, 2, 3, 4].map D.int) [some (.cell n), none, none, none, none, none, none, none] g = .nx r g') :
    runDef 1 8 (cerW W) [.cell n] g = .ok (.bl true) g' := by
  simp only [cerW, ap_seq, ap_skip, ap_bad, ap_break, ap_cont, ap_if, ap_set, ap_par, ap_par3, ap_ret, ap_retN, ap_expr, ap_asg, ap_for, ap_var, ap_C, ap_f2, ap_f1, ap_nil, ap_cons, ap_tup, ap_lst, ap_cellL, ap_call, ap_fif, ap_bool, ap_tru, ap_and, ap_or, ap_not, ap_andV, ap_orV, ap_notV, ap_chain, ap_part, ap_nopart, ap_slice, ap_disp, ap_pnil, ap_pcons, ap_iter, ap_iterA, ap_lc, ap_gnam, ap_gtup, ap_glst, ap_gsnil, ap_gscons, ap_run, ap_yes, List.length_cons, List.length_nil, List.map_cons, List.map_nil, List.replicate_succ, List.replicate_zero, List.cons_append, List.nil_append, List.getElem?_cons_zero, List.getElem?_cons_succ, List.getElem?_nil, List.set_cons_zero, List.set_cons_succ, if_true, if_false, reduceIte, Nat.reduceAdd, Nat.reduceSub, Bool.false_eq_true, rg5] at e ⊢
  simp only [e, ap_seq, ap_skip, ap_bad, ap_break, ap_cont, ap_if, ap_set, ap_par, ap_par3, ap_ret, ap_retN, ap_expr, ap_asg, ap_for, ap_var, ap_C, ap_f2, ap_f1, ap_nil, ap_cons, ap_tup, ap_lst, ap_cellL, ap_call, ap_fif, ap_bool, ap_tru, ap_and, ap_or, ap_not, ap_andV, ap_orV, ap_notV, ap_chain, ap_part, ap_nopart, ap_slice, ap_disp, ap_pnil, ap_pcons, ap_iter, ap_iterA, ap_lc, ap_gnam, ap_gtup, ap_glst, ap_gsnil, ap_gscons, ap_run, ap_yes, List.length_cons, List.length_nil, List.map_cons, List.map_nil, List.replicate_succ, List.replicate_zero, List.cons_append, List.nil_append, List.getElem?_cons_zero, List.getElem?_cons_succ, List.getElem?_nil, List.set_cons_zero, List.set_cons_succ, if_true, if_false, reduceIte, Nat.reduceAdd, Nat.reduceSub, Bool.false_eq_true]
theorem cer_eq {g : Gs} {n : Nat} {B : Int} (j : Jar g n B) (hB : B ≤ 10 ^ 30) : ∃ g', runDef 1 8 (cerW (tuB ceB)) [.cell n] g = .ok (.bl true) g' := by
  obtain ⟨_, _, _, _, _, _, _, g', e, j'⟩ := tc_loop ([0, 1, 2, 3, 4].map D.int) B none none none none none none none g j (by simp; omega)
  exact ⟨g', cer_run e⟩
end LC
set_option maxRecDepth 100000
set_option maxHeartbeats 4000000
namespace K80
open PySem PySem.Spec PyProof.Rows L2 DL LB LC
def topS (i : Nat) : Stmt := PySem.Challenge.pw_spirowheels_k80_whole_same_lines_certifi.main.body.getD i (.Pass ⟨0, 0, 0, 0⟩)
theorem bt_abs : bootBuiltins "abs" = some (.builtin "abs") := by decide +kernel
theorem bt_all : bootBuiltins "all" = some (.builtin "all") := by decide +kernel
theorem bt_bool : bootBuiltins "bool" = some (.type "bool") := by decide +kernel
theorem bt_divmod : bootBuiltins "divmod" = some (.builtin "divmod") := by decide +kernel
theorem bt_int : bootBuiltins "int" = some (.type "int") := by decide +kernel
theorem bt_isinstance : bootBuiltins "isinstance" = some (.builtin "isinstance") := by decide +kernel
theorem bt_len : bootBuiltins "len" = some (.builtin "len") := by decide +kernel
theorem bt_max : bootBuiltins "max" = some (.builtin "max") := by decide +kernel
theorem bt_min : bootBuiltins "min" = some (.builtin "min") := by decide +kernel
theorem bt_repr : bootBuiltins "repr" = some (.builtin "repr") := by decide +kernel
theorem bt_str : bootBuiltins "str" = some (.type "str") := by decide +kernel
theorem bt_tuple : bootBuiltins "tuple" = some (.type "tuple") := by decide +kernel
/-- the facts of the top that the defs use -/
structure GF (K : PySem.W.Frag) (w : World) (mg : Str → Option Value) : Prop where
  b_abs : mg "abs" = none
  b_all : mg "all" = none
  b_bool : mg "bool" = none
  b_divmod : mg "divmod" = none
  b_int : mg "int" = none
  b_isinstance : mg "isinstance" = none
  b_len : mg "len" = none
  b_max : mg "max" = none
  b_min : mg "min" = none
  b_range : mg "range" = none
  b_repr : mg "repr" = none
  b_str : mg "str" = none
  b_tuple : mg "tuple" = none
  b_zip : mg "zip" = none
  c_GREATEST : KInt mg "GREATEST" (10 ^ 30)
  c_LENGTHS : KD K w mg "LENGTHS" kd_LENGTHS aw_LENGTHS
  c_SIDES : KTup K mg "SIDES" ks_SIDES
  k_Line : ClsF K mg "Line"
  i_Line : InsF K mg "Line"
  f_Line_arm : FldF K mg "Line" "arm"
  f_Line_ring : FldF K mg "Line" "ring"
  f_Line_side : FldF K mg "Line" "side"
  f_Line_tooth : FldF K mg "Line" "tooth"
  f_Line_wheel : FldF K mg "Line" "wheel"
abbrev s__law_poured : Stmt := topS 79
theorem sc__law_poured : FnScope ["_law_script", "_law_turn", "_law_own", "_law_state", "_law_cell"] ["_law_script", "_law_turn"] (defScope s__law_poured) := ⟨rfl, rfl, rfl, by decide +kernel, rfl, by decide +kernel, by decide +kernel⟩
theorem d__law_poured {P : Program} {w : World} {K : PySem.W.Frag} {mg : Str → Option Value} {base : Heap} {k : Nat} {fA : Addr} {fd : FuncData} (G : GF K w mg) (F : Fun K "_law_poured" "_law_poured" s__law_poured fA fd) : Dfn P w K mg base (k + 1) fA fd ["_law_script", "_law_turn"] phi__law_poured :=
  okD (O' := []) F sc__law_poured fun cdv A outer s H E B hr tk hgd hp => (dss_cons (O' := []) (ds_set 2 sc__law_poured.nd (de_if (dt_cmp dop_lt (de_var 1) (de_callB dc_len G.b_len bt_len (da_cons (de_var 0) da_nil))) (de_ix (hu_of hr) (de_var 0) (de_var 1)) de_int))
    (dss_cons (O' := []) (ds_set 3 sc__law_poured.nd (de_bin dop_add de_int (de_bin dop_mul de_int (de_var 1))))
    (dss_cons (O' := []) (ds_for hp rfl (di_any (de_slice (de_var 0) do_none (do_some de_int))) (dg_name 4 sc__law_poured.nd) (dss_one (ds_set 3 sc__law_poured.nd (de_bin dop_mod (de_callTy dc_int G.b_int bt_int (da_cons (de_bin dop_add (de_bin dop_add (de_bin dop_mul (de_var 3) de_int) (de_bin dop_mul (de_var 4) de_int)) de_int) da_nil)) de_int))))
    (dss_one (ds_ret (de_cellL (da_cons (de_if (dw_pt (dw_or (dt_cmp dop_lt (de_var 2) de_int) (dw_or1 (dt_cmp dop_ge (de_var 2) (de_bin dop_pow de_int de_int))))) (de_callB dc_abs G.b_abs bt_abs (da_cons (de_var 2) da_nil)) de_int) (da_cons (de_bin dop_mod (de_callTy dc_int G.b_int bt_int (da_cons (de_bin dop_add (de_bin dop_add (de_bin dop_mul (de_var 3) de_int) (de_bin dop_mul (de_var 2) (de_var 2))) (de_bin dop_mul de_int (de_var 1))) da_nil)) de_int) (da_cons de_int da_nil)))))))))
abbrev s__law_shared : Stmt := topS 83
theorem sc__law_shared : FnScope ["_law_first", "_law_second", "_law_turn"] ["_law_first", "_law_second"] (defScope s__law_shared) := ⟨rfl, rfl, rfl, by decide +kernel, rfl, by decide +kernel, by decide +kernel⟩
theorem d__law_shared {P : Program} {w : World} {K : PySem.W.Frag} {mg : Str → Option Value} {base : Heap} {k : Nat} {fA : Addr} {fd : FuncData} (G : GF K w mg) (F : Fun K "_law_shared" "_law_shared" s__law_shared fA fd) : Dfn P w K mg base (k + 1) fA fd ["_law_first", "_law_second"] phi__law_shared :=
  okD (O' := []) F sc__law_shared fun cdv A outer s H E B hr tk hgd hp => (dss_cons (O' := []) (ds_for hp rfl (di_range1 G.b_range (da_cons de_int da_nil)) (dg_name 2 sc__law_shared.nd) (dss_cons (O' := []) (ds_if (dt_cmp (dop_eq hr.units) (de_var 1) de_int) (dss_one (ds_ret (de_var 0))) dss_nil)
    (dss_one (ds_par 0 1 rfl sc__law_shared.nd (da_cons (de_var 1) (da_cons (de_bin dop_mod (de_callTy dc_int G.b_int bt_int (da_cons (de_var 0) da_nil)) (de_var 1)) da_nil))))))
    (dss_one (ds_ret de_int)))
abbrev s__law_part : Stmt := topS 84
theorem sc__law_part : FnScope ["_law_top", "_law_bottom", "_law_rest", "_law_both"] ["_law_top", "_law_bottom"] (defScope s__law_part) := ⟨rfl, rfl, rfl, by decide +kernel, rfl, by decide +kernel, by decide +kernel⟩
theorem d__law_part {P : Program} {w : World} {K : PySem.W.Frag} {mg : Str → Option Value} {base : Heap} {k : Nat} {fA : Addr} {fd : FuncData} (G : GF K w mg) (C__law_shared : Cal P w K mg base k "_law_shared" phi__law_shared) (F : Fun K "_law_part" "_law_part" s__law_part fA fd) : Dfn P w K mg base (k + 1) fA fd ["_law_top", "_law_bottom"] phi__law_part :=
  okD (O' := []) F sc__law_part fun cdv A outer s H E B hr tk hgd hp => (dss_cons (O' := []) (ds_set 2 sc__law_part.nd (de_bin dop_mod (de_callTy dc_int G.b_int bt_int (da_cons (de_var 0) da_nil)) (de_var 1)))
    (dss_cons (O' := []) (ds_set 3 sc__law_part.nd (C__law_shared.call hr hgd tk (da_cons (de_var 1) (da_cons (de_var 2) da_nil))))
    (dss_one (ds_ret (de_tup (da_cons (de_bin dop_fdiv (de_var 2) (de_var 3)) (da_cons (de_bin dop_fdiv (de_var 1) (de_var 3)) da_nil)))))))
abbrev s__law_form : Stmt := topS 85
theorem sc__law_form : FnScope ["_law_told", "_law_side", "_law_big", "_law_small", "_law_reach", "_law_begin", "_law_both", "_law_middle", "_law_quick", "_law_slow", "_law_mark"] ["_law_told"] (defScope s__law_form) := ⟨rfl, rfl, rfl, by decide +kernel, rfl, by decide +kernel, by decide +kernel⟩
theorem d__law_form {P : Program} {w : World} {K : PySem.W.Frag} {mg : Str → Option Value} {base : Heap} {k : Nat} {fA : Addr} {fd : FuncData} (G : GF K w mg) (C__law_part : Cal P w K mg base k "_law_part" phi__law_part) (C__law_shared : Cal P w K mg base k "_law_shared" phi__law_shared) (F : Fun K "_law_form" "_law_form" s__law_form fA fd) : Dfn P w K mg base (k + 1) fA fd ["_law_told"] phi__law_form :=
  okD (O' := []) F sc__law_form fun cdv A outer s H E B hr tk hgd hp => (dss_cons (O' := []) (ds_asg (de_var 0) (dg_tup rfl (dgs_cons (dg_name 1 sc__law_form.nd) (dgs_cons (dg_name 2 sc__law_form.nd) (dgs_cons (dg_name 3 sc__law_form.nd) (dgs_cons (dg_name 4 sc__law_form.nd) (dgs_cons (dg_name 5 sc__law_form.nd) dgs_nil)))))))
    (dss_cons (O' := []) (ds_set 6 sc__law_form.nd (C__law_shared.call hr hgd tk (da_cons (de_var 2) (da_cons (de_var 3) da_nil))))
    (dss_cons (O' := []) (ds_set 7 sc__law_form.nd (de_ix (hu_of hr) (de_disp (pps_cons' de_str (de_bin dop_sub (de_var 2) (de_var 3)) (pps_cons' de_str (de_bin dop_add (de_var 2) (de_var 3)) (pps_cons' de_str (de_bin dop_sub (de_var 3) (de_var 2)) pps_nil')))) (de_var 1)))
    (dss_cons (O' := []) (ds_if (dt_cmp (dop_eq hr.units) (de_var 4) de_int) (dss_one (ds_ret (de_tup (da_cons de_str (da_cons (de_var 7) da_nil))))) dss_nil)
    (dss_cons (O' := []) (ds_par 8 9 rfl sc__law_form.nd (da_cons (de_bin dop_fdiv (de_var 3) (de_var 6)) (da_cons (de_bin dop_fdiv (de_callB dc_abs G.b_abs bt_abs (da_cons (de_var 7) da_nil)) (de_var 6)) da_nil)))
    (dss_cons (O' := []) (ds_if (dw_pt (dw_and (dt_cmp (dop_eq hr.units) (de_var 1) de_str) (dw_and1 (dw_pt (dw_or (dt_cmp dop_gt (de_var 8) (de_var 9)) (dw_or1 (dw_pt (dw_and (dt_cmp (dop_eq hr.units) (de_var 8) (de_var 9)) (dw_and1 (dt_cmp dop_gt (de_var 7) (de_var 4))))))))))) (dss_one (ds_ret (de_tup (da_cons (de_var 7) (da_cons (de_var 8) (da_cons (de_var 4) (da_cons (de_neg (de_var 9)) (da_cons (C__law_part.call hr hgd tk (da_cons (de_var 5) (da_cons (de_var 6) da_nil))) da_nil)))))))) dss_nil)
    (dss_cons (O' := []) (ds_if (dt_cmp (dop_eq hr.units) (de_var 1) de_str) (dss_one (ds_ret (de_tup (da_cons (de_var 4) (da_cons (de_var 9) (da_cons (de_var 7) (da_cons (de_neg (de_var 8)) (da_cons (C__law_part.call hr hgd tk (da_cons (de_var 5) (da_cons (de_var 6) da_nil))) da_nil)))))))) dss_nil)
    (dss_cons (O' := []) (ds_set 10 sc__law_form.nd (C__law_part.call hr hgd tk (da_cons (de_bin dop_sub (de_bin dop_mul de_int (de_var 5)) (de_bin dop_mul (de_callB (dc_min2 rfl) G.b_min bt_min (da_cons (de_var 8) (da_cons (de_var 9) da_nil))) (de_var 6))) (da_cons (de_bin dop_mul de_int (de_var 6)) da_nil))))
    (dss_cons (O' := []) (ds_if (dt_cmp (dop_eq hr.units) (de_var 1) de_str) (dss_one (ds_ret (de_tup (da_cons (de_var 4) (da_cons (de_var 9) (da_cons (de_var 7) (da_cons (de_var 8) (da_cons (de_var 10) da_nil)))))))) dss_nil)
    (dss_one (ds_ret (de_tup (da_cons (de_var 7) (da_cons (de_var 8) (da_cons (de_var 4) (da_cons (de_var 9) (da_cons (de_var 10) da_nil)))))))))))))))))
abbrev s__law_arrows : Stmt := topS 91
theorem sc__law_arrows : FnScope ["_law_told", "_law_side", "_law_big", "_law_small", "_law_reach", "_law_begin", "_law_both", "_law_middle", "_law_phase", "_law_across", "_law_first", "_law_slow"] ["_law_told"] (defScope s__law_arrows) := ⟨rfl, rfl, rfl, by decide +kernel, rfl, by decide +kernel, by decide +kernel⟩
theorem d__law_arrows {P : Program} {w : World} {K : PySem.W.Frag} {mg : Str → Option Value} {base : Heap} {k : Nat} {fA : Addr} {fd : FuncData} (G : GF K w mg) (C__law_part : Cal P w K mg base k "_law_part" phi__law_part) (C__law_shared : Cal P w K mg base k "_law_shared" phi__law_shared) (F : Fun K "_law_arrows" "_law_arrows" s__law_arrows fA fd) : Dfn P w K mg base (k + 1) fA fd ["_law_told"] phi__law_arrows :=
  okD (O' := []) F sc__law_arrows fun cdv A outer s H E B hr tk hgd hp => (dss_cons (O' := []) (ds_asg (de_var 0) (dg_tup rfl (dgs_cons (dg_name 1 sc__law_arrows.nd) (dgs_cons (dg_name 2 sc__law_arrows.nd) (dgs_cons (dg_name 3 sc__law_arrows.nd) (dgs_cons (dg_name 4 sc__law_arrows.nd) (dgs_cons (dg_name 5 sc__law_arrows.nd) dgs_nil)))))))
    (dss_cons (O' := []) (ds_set 6 sc__law_arrows.nd (C__law_shared.call hr hgd tk (da_cons (de_var 2) (da_cons (de_var 3) da_nil))))
    (dss_cons (O' := []) (ds_set 7 sc__law_arrows.nd (de_ix (hu_of hr) (de_disp (pps_cons' de_str (de_bin dop_sub (de_var 2) (de_var 3)) (pps_cons' de_str (de_bin dop_add (de_var 2) (de_var 3)) (pps_cons' de_str (de_bin dop_sub (de_var 3) (de_var 2)) pps_nil')))) (de_var 1)))
    (dss_cons (O' := []) (ds_par 8 9 rfl sc__law_arrows.nd (da_cons (C__law_part.call hr hgd tk (da_cons (de_var 5) (da_cons (de_var 2) da_nil))) (da_cons (C__law_part.call hr hgd tk (da_cons (de_bin dop_add (de_bin dop_mul de_int (de_var 5)) (de_var 2)) (da_cons (de_bin dop_mul de_int (de_var 2)) da_nil))) da_nil)))
    (dss_cons (O' := []) (ds_set 10 sc__law_arrows.nd (de_tup (da_cons (de_var 7) (da_cons (de_bin dop_fdiv (de_var 3) (de_var 6)) (da_cons (de_if (dt_cmp (dop_eq hr.units) (de_var 1) de_str) (de_var 9) (de_var 8)) da_nil)))))
    (dss_cons (O' := []) (ds_if (dt_cmp (dop_eq hr.units) (de_var 4) de_int) (dss_one (ds_ret (de_lst (da_cons (de_tup (da_cons (de_var 7) (da_cons de_int (da_cons (de_ix (hu_of hr) (de_var 10) de_int) da_nil)))) da_nil)))) dss_nil)
    (dss_cons (O' := []) (ds_set 11 sc__law_arrows.nd (de_if (dt_cmp (dop_eq hr.units) (de_var 1) de_str) (de_bin dop_fdiv (de_bin dop_add (de_var 2) (de_var 3)) (de_var 6)) (de_bin dop_fdiv (de_bin dop_sub (de_var 3) (de_var 2)) (de_var 6))))
    (dss_one (ds_ret (de_lst (da_cons (de_var 10) (da_cons (de_tup (da_cons (de_var 4) (da_cons (de_var 11) (da_cons (de_if (dt_cmp (dop_eq hr.units) (de_var 1) de_str) (de_var 9) (de_var 8)) da_nil)))) da_nil))))))))))))
abbrev s__law_is_part : Stmt := topS 92
theorem sc__law_is_part : FnScope ["_law_value", "_law_each"] ["_law_value"] (defScope s__law_is_part) := ⟨rfl, rfl, rfl, by decide +kernel, rfl, by decide +kernel, by decide +kernel⟩
theorem d__law_is_part {P : Program} {w : World} {K : PySem.W.Frag} {mg : Str → Option Value} {base : Heap} {k : Nat} {fA : Addr} {fd : FuncData} (G : GF K w mg) (C__law_part : Cal P w K mg base k "_law_part" phi__law_part) (F : Fun K "_law_is_part" "_law_is_part" s__law_is_part fA fd) : Dfn P w K mg base (k + 1) fA fd ["_law_value"] phi__law_is_part :=
  okD (O' := []) F sc__law_is_part fun cdv A outer s H E B hr tk hgd hp => (dss_cons (O' := []) (ds_if (dw_pt (dw_or (dt_not (dt_truth (de_callB dc_isi G.b_isinstance bt_isinstance (da_cons (de_var 0) (da_cons (de_ty G.b_tuple bt_tuple) da_nil))))) (dw_or1 (dt_cmp (dop_ne hr.units) (de_callB dc_len G.b_len bt_len (da_cons (de_var 0) da_nil)) de_int)))) (dss_one (ds_ret de_bl)) dss_nil)
    (dss_cons (O' := []) (ds_if (dt_cmp (dop_ne hr.units) (de_lc (.one 1) rfl sc__law_is_part.nd (di_any (de_var 0)) (blkOk_by (own := [("_law_each", 1)]) rfl) rfl (by decide) (fun s H C cl fp => (pgn 1 sc__law_is_part.nd)) (fun s H C cl fp => (dts_one (dw_pt (dw_or (dt_not (dt_truth (de_callB dc_isi G.b_isinstance bt_isinstance (da_cons (de_var 1) (da_cons (de_ty G.b_int bt_int) da_nil))))) (dw_or1 (dt_truth (de_callB dc_isi G.b_isinstance bt_isinstance (da_cons (de_var 1) (da_cons (de_ty G.b_bool bt_bool) da_nil))))))))) (fun s H C cl fp => (de_var 1))) (de_lst da_nil)) (dss_one (ds_ret de_bl)) dss_nil)
    (dss_one (ds_ret (de_and (de_chain dop_le dop_lt noEx_dII noEx_dII de_int (de_ix (hu_of hr) (de_var 0) de_int) (de_ix (hu_of hr) (de_var 0) de_int)) (de_one (de_cmp (dop_eq hr.units) (C__law_part.call hr hgd tk (da_cons (de_ix (hu_of hr) (de_var 0) de_int) (da_cons (de_ix (hu_of hr) (de_var 0) de_int) da_nil))) (de_var 0))))))))
abbrev s__law_is_shown : Stmt := topS 93
theorem sc__law_is_shown : FnScope ["_law_told", "_law_near", "_law_slip", "_law_arrows_here", "_law_others", "_law_top", "_law_bottom", "_law_k", "_law_size", "_law_speed", "_law_phase", "_law_far_size", "_law_far_speed", "_law_far"] ["_law_told", "_law_near", "_law_slip"] (defScope s__law_is_shown) := ⟨rfl, rfl, rfl, by decide +kernel, rfl, by decide +kernel, by decide +kernel⟩
theorem d__law_is_shown {P : Program} {w : World} {K : PySem.W.Frag} {mg : Str → Option Value} {base : Heap} {k : Nat} {fA : Addr} {fd : FuncData} (G : GF K w mg) (C__law_arrows : Cal P w K mg base k "_law_arrows" phi__law_arrows) (C__law_is_part : Cal P w K mg base k "_law_is_part" phi__law_is_part) (C__law_part : Cal P w K mg base k "_law_part" phi__law_part) (F : Fun K "_law_is_shown" "_law_is_shown" s__law_is_shown fA fd) : Dfn P w K mg base (k + 1) fA fd ["_law_told", "_law_near", "_law_slip"] phi__law_is_shown :=
  okD (O' := []) F sc__law_is_shown fun cdv A outer s H E B hr tk hgd hp => (dss_cons (O' := []) (ds_if (dw_pt (dw_or (dt_not (dt_truth (de_callB dc_isi G.b_isinstance bt_isinstance (da_cons (de_var 2) (da_cons (de_ty G.b_tuple bt_tuple) da_nil))))) (dw_or (dt_cmp (dop_ne hr.units) (de_callB dc_len G.b_len bt_len (da_cons (de_var 2) da_nil)) de_int) (dw_or1 (dt_not (dt_truth (C__law_is_part.call hr hgd tk (da_cons (de_ix (hu_of hr) (de_var 2) de_int) da_nil)))))))) (dss_one (ds_ret de_bl)) dss_nil)
    (dss_cons (O' := []) (ds_if (dw_pt (dw_or (dt_not (dt_truth (de_callB dc_isi G.b_isinstance bt_isinstance (da_cons (de_ix (hu_of hr) (de_var 2) de_int) (da_cons (de_ty G.b_bool bt_bool) da_nil))))) (dw_or1 (dt_not (dt_truth (de_callB dc_isi G.b_isinstance bt_isinstance (da_cons (de_ix (hu_of hr) (de_var 2) de_int) (da_cons (de_ty G.b_bool bt_bool) da_nil)))))))) (dss_one (ds_ret de_bl)) dss_nil)
    (dss_cons (O' := []) (ds_par 3 4 rfl sc__law_is_shown.nd (da_cons (C__law_arrows.call hr hgd tk (da_cons (de_var 0) da_nil)) (da_cons (C__law_arrows.call hr hgd tk (da_cons (de_var 1) da_nil)) da_nil)))
    (dss_cons (O' := []) (ds_if (dw_pt (dw_or (dt_cmp (dop_ne hr.units) (de_callB dc_len G.b_len bt_len (da_cons (de_var 3) da_nil)) (de_callB dc_len G.b_len bt_len (da_cons (de_var 4) da_nil))) (dw_or1 (dw_pt (dw_and (dt_truth (de_ix (hu_of hr) (de_var 2) de_int)) (dw_and1 (dt_cmp (dop_eq hr.units) (de_callB dc_len G.b_len bt_len (da_cons (de_var 3) da_nil)) de_int))))))) (dss_one (ds_ret de_bl)) dss_nil)
    (dss_cons (O' := []) (ds_set 4 sc__law_is_shown.nd (de_if (dt_truth (de_ix (hu_of hr) (de_var 2) de_int)) (de_rev2 (de_var 4)) (de_var 4)))
    (dss_cons (O' := []) (ds_asg (de_ix (hu_of hr) (de_var 2) de_int) (dg_tup rfl (dgs_cons (dg_name 5 sc__law_is_shown.nd) (dgs_cons (dg_name 6 sc__law_is_shown.nd) dgs_nil))))
    (dss_cons (O' := []) (ds_for hp rfl (di_range1 G.b_range (da_cons (de_callB dc_len G.b_len bt_len (da_cons (de_var 3) da_nil)) da_nil)) (dg_name 7 sc__law_is_shown.nd) (dss_cons (O' := []) (ds_asg (de_ix (hu_of hr) (de_var 3) (de_var 7)) (dg_tup rfl (dgs_cons (dg_name 8 sc__law_is_shown.nd) (dgs_cons (dg_name 9 sc__law_is_shown.nd) (dgs_cons (dg_name 10 sc__law_is_shown.nd) dgs_nil)))))
    (dss_cons (O' := []) (ds_asg (de_ix (hu_of hr) (de_var 4) (de_var 7)) (dg_tup rfl (dgs_cons (dg_name 11 sc__law_is_shown.nd) (dgs_cons (dg_name 12 sc__law_is_shown.nd) (dgs_cons (dg_name 13 sc__law_is_shown.nd) dgs_nil)))))
    (dss_cons (O' := []) (ds_if (dw_pt (dw_or (dt_cmp (dop_ne hr.units) (de_var 8) (de_var 11)) (dw_or1 (dt_cmp (dop_ne hr.units) (de_var 9) (de_if (dt_truth (de_ix (hu_of hr) (de_var 2) de_int)) (de_bin dop_sub de_int (de_var 12)) (de_var 12)))))) (dss_one (ds_ret de_bl)) dss_nil)
    (dss_one (ds_if (dt_cmp (dop_ne hr.units) (C__law_part.call hr hgd tk (da_cons (de_bin dop_add (de_bin dop_mul (de_ix (hu_of hr) (de_var 13) de_int) (de_var 6)) (de_bin dop_mul (de_bin dop_mul (de_var 9) (de_var 5)) (de_ix (hu_of hr) (de_var 13) de_int))) (da_cons (de_bin dop_mul (de_ix (hu_of hr) (de_var 13) de_int) (de_var 6)) da_nil))) (de_var 10)) (dss_one (ds_ret de_bl)) dss_nil))))))
    (dss_one (ds_ret de_bl)))))))))
abbrev s_is_between : Stmt := topS 3
theorem sc_is_between : FnScope ["value", "least", "most"] ["value", "least", "most"] (defScope s_is_between) := ⟨rfl, rfl, rfl, by decide +kernel, rfl, by decide +kernel, by decide +kernel⟩
theorem d_is_between {P : Program} {w : World} {K : PySem.W.Frag} {mg : Str → Option Value} {base : Heap} {k : Nat} {fA : Addr} {fd : FuncData} (G : GF K w mg) (F : Fun K "is_between" "is_between" s_is_between fA fd) : Dfn P w K mg base (k + 1) fA fd ["value", "least", "most"] phi_is_between :=
  okD (O' := []) F sc_is_between fun cdv A outer s H E B hr tk hgd hp => (dss_cons (O' := []) (ds_if (dw_pt (dw_or (dt_not (dt_truth (de_callB dc_isi G.b_isinstance bt_isinstance (da_cons (de_var 0) (da_cons (de_ty G.b_int bt_int) da_nil))))) (dw_or (dt_truth (de_callB dc_isi G.b_isinstance bt_isinstance (da_cons (de_var 0) (da_cons (de_ty G.b_bool bt_bool) da_nil)))) (dw_or1 (dt_cmp dop_lt (de_var 0) (de_var 1)))))) (dss_one (ds_ret de_bl)) dss_nil)
    (dss_one (ds_ret (de_or (de_cmp dop_is (de_var 2) de_non) (de_one (de_cmp dop_le (de_var 0) (de_var 2)))))))
abbrev s_is_one_of : Stmt := topS 4
theorem sc_is_one_of : FnScope ["value", "words"] ["value", "words"] (defScope s_is_one_of) := ⟨rfl, rfl, rfl, by decide +kernel, rfl, by decide +kernel, by decide +kernel⟩
theorem d_is_one_of {P : Program} {w : World} {K : PySem.W.Frag} {mg : Str → Option Value} {base : Heap} {k : Nat} {fA : Addr} {fd : FuncData} (G : GF K w mg) (F : Fun K "is_one_of" "is_one_of" s_is_one_of fA fd) : Dfn P w K mg base (k + 1) fA fd ["value", "words"] phi_is_one_of :=
  okD (O' := []) F sc_is_one_of fun cdv A outer s H E B hr tk hgd hp => (dss_one (ds_ret (de_and (de_callB dc_isi G.b_isinstance bt_isinstance (da_cons (de_var 0) (da_cons (de_ty G.b_str bt_str) da_nil))) (de_one (de_cmp (dop_in (hu_of hr)) (de_var 0) (de_var 1))))))
abbrev s_is_stroke : Stmt := topS 14
theorem sc_is_stroke : FnScope ["side", "ring", "wheel", "arm"] ["side", "ring", "wheel", "arm"] (defScope s_is_stroke) := ⟨rfl, rfl, rfl, by decide +kernel, rfl, by decide +kernel, by decide +kernel⟩
theorem d_is_stroke {P : Program} {w : World} {K : PySem.W.Frag} {mg : Str → Option Value} {base : Heap} {k : Nat} {fA : Addr} {fd : FuncData} (G : GF K w mg) (F : Fun K "is_stroke" "is_stroke" s_is_stroke fA fd) : Dfn P w K mg base (k + 1) fA fd ["side", "ring", "wheel", "arm"] phi_is_stroke :=
  okD (O' := []) F sc_is_stroke fun cdv A outer s H E B hr tk hgd hp => (dss_one (ds_ret (de_and (de_cmp (dop_eq hr.units) (de_var 0) de_str) (de_and (de_cmp (dop_eq hr.units) (de_var 1) (de_bin dop_mul de_int (de_var 2))) (de_one (de_cmp (dop_eq hr.units) (de_var 3) (de_var 2)))))))
abbrev s_wheel_fits : Stmt := topS 15
theorem sc_wheel_fits : FnScope ["side", "ring", "wheel"] ["side", "ring", "wheel"] (defScope s_wheel_fits) := ⟨rfl, rfl, rfl, by decide +kernel, rfl, by decide +kernel, by decide +kernel⟩
theorem d_wheel_fits {P : Program} {w : World} {K : PySem.W.Frag} {mg : Str → Option Value} {base : Heap} {k : Nat} {fA : Addr} {fd : FuncData} (G : GF K w mg) (F : Fun K "wheel_fits" "wheel_fits" s_wheel_fits fA fd) : Dfn P w K mg base (k + 1) fA fd ["side", "ring", "wheel"] phi_wheel_fits :=
  okD (O' := []) F sc_wheel_fits fun cdv A outer s H E B hr tk hgd hp => (dss_one (ds_ret (de_or (de_cmp (dop_eq hr.units) (de_var 0) de_str) (de_or (de_and (de_cmp (dop_eq hr.units) (de_var 0) de_str) (de_one (de_cmp dop_lt (de_var 2) (de_var 1)))) (de_one (de_and (de_cmp (dop_eq hr.units) (de_var 0) de_str) (de_one (de_cmp dop_gt (de_var 2) (de_var 1)))))))))
abbrev s_Line___init__ : Stmt := inClass (topS 34) 0
theorem sc_Line___init__ : FnScope ["self", "side", "ring", "wheel", "arm", "tooth"] ["self", "side", "ring", "wheel", "arm", "tooth"] (defScope s_Line___init__) := ⟨rfl, rfl, rfl, by decide +kernel, rfl, by decide +kernel, by decide +kernel⟩
theorem d_Line___init__ {P : Program} {w : World} {K : PySem.W.Frag} {mg : Str → Option Value} {base : Heap} {k : Nat} {fA : Addr} {fd : FuncData} (G : GF K w mg) (C_is_between : Cal P w K mg base k "is_between" phi_is_between) (C_is_one_of : Cal P w K mg base k "is_one_of" phi_is_one_of) (C_is_stroke : Cal P w K mg base k "is_stroke" phi_is_stroke) (C_wheel_fits : Cal P w K mg base k "wheel_fits" phi_wheel_fits) (F : FunX K "__init__" "Line.__init__" s_Line___init__ fA fd) : Dfn P w K mg base (k + 1) fA fd ["self", "side", "ring", "wheel", "arm", "tooth"] phi_Line___init__ :=
  okDX (O' := []) F sc_Line___init__ fun cdv A outer s H E B hr tk hgd hp => (dss_cons (O' := []) (ds_if (dt_not (dt_truth (C_is_one_of.call hr hgd tk (da_cons (de_var 1) (da_cons G.c_SIDES.de da_nil))))) (dss_one ds_never) dss_nil)
    (dss_cons (O' := []) (ds_if (dt_not (dt_truth (C_is_between.call hr hgd tk (da_cons (de_var 2) (da_cons de_int (da_cons G.c_GREATEST.de da_nil)))))) (dss_one ds_never) dss_nil)
    (dss_cons (O' := []) (ds_if (dw_pt (dw_or (dt_not (dt_truth (C_is_between.call hr hgd tk (da_cons (de_var 3) (da_cons de_int (da_cons G.c_GREATEST.de da_nil)))))) (dw_or1 (dt_not (dt_truth (C_wheel_fits.call hr hgd tk (da_cons (de_var 1) (da_cons (de_var 2) (da_cons (de_var 3) da_nil))))))))) (dss_one ds_never) dss_nil)
    (dss_cons (O' := []) (ds_if (dw_pt (dw_or (dt_not (dt_truth (C_is_between.call hr hgd tk (da_cons (de_var 4) (da_cons de_int (da_cons G.c_GREATEST.de da_nil)))))) (dw_or1 (dt_truth (C_is_stroke.call hr hgd tk (da_cons (de_var 1) (da_cons (de_var 2) (da_cons (de_var 3) (da_cons (de_var 4) da_nil))))))))) (dss_one ds_never) dss_nil)
    (dss_cons (O' := []) (ds_if (dt_not (dt_truth (C_is_between.call hr hgd tk (da_cons (de_var 5) (da_cons de_int (da_cons G.c_GREATEST.de da_nil)))))) (dss_one ds_never) dss_nil)
    (dss_cons (O' := []) (ds_fld (de_var 0) (de_var 1) G.f_Line_side)
    (dss_cons (O' := []) (ds_fld (de_var 0) (de_var 2) G.f_Line_ring)
    (dss_cons (O' := []) (ds_fld (de_var 0) (de_var 3) G.f_Line_wheel)
    (dss_cons (O' := []) (ds_fld (de_var 0) (de_var 4) G.f_Line_arm)
    (dss_one (ds_fld (de_var 0) (de_var 5) G.f_Line_tooth)))))))))))
abbrev s__law_line : Stmt := topS 89
theorem sc__law_line : FnScope ["_law_told"] ["_law_told"] (defScope s__law_line) := ⟨rfl, rfl, rfl, by decide +kernel, rfl, by decide +kernel, by decide +kernel⟩
theorem d__law_line {P : Program} {w : World} {K : PySem.W.Frag} {mg : Str → Option Value} {base : Heap} {k : Nat} {fA : Addr} {fd : FuncData} (G : GF K w mg) (M_Line : Mkr P w K mg base k "Line" phi_Line___init__) (F : Fun K "_law_line" "_law_line" s__law_line fA fd) : Dfn P w K mg base (k + 2) fA fd ["_law_told"] phi__law_line :=
  okD (O' := []) F sc__law_line fun cdv A outer s H E B hr tk hgd hp => (dss_one (ds_ret (M_Line.de hr hgd tk (da_cons (de_ix (hu_of hr) (de_var 0) de_int) (da_cons (de_ix (hu_of hr) (de_var 0) de_int) (da_cons (de_ix (hu_of hr) (de_var 0) de_int) (da_cons (de_ix (hu_of hr) (de_var 0) de_int) (da_cons (de_ix (hu_of hr) (de_var 0) de_int) da_nil))))))))
abbrev s__law_sip : Stmt := topS 80
theorem sc__law_sip : FnScope ["_law_jar", "_law_many", "_law_figure", "_law_state"] ["_law_jar", "_law_many"] (defScope s__law_sip) := ⟨rfl, rfl, rfl, by decide +kernel, rfl, by decide +kernel, by decide +kernel⟩
theorem d__law_sip {P : Program} {w : World} {K : PySem.W.Frag} {mg : Str → Option Value} {base : Heap} {k : Nat} {fA : Addr} {fd : FuncData} (G : GF K w mg) (F : Fun K "_law_sip" "_law_sip" s__law_sip fA fd) : Dfn P w K mg base (k + 1) fA fd ["_law_jar", "_law_many"] phi__law_sip :=
  okD (O' := []) F sc__law_sip fun cdv A outer s H E B hr tk hgd hp => (dss_cons (O' := []) (ds_if (dt_cmp dop_gt (de_ix (hu_of hr) (de_var 0) de_int) de_int) (dss_cons (O' := []) (ds_asg (de_callB dc_divmod G.b_divmod bt_divmod (da_cons (de_ix (hu_of hr) (de_var 0) de_int) (da_cons (de_var 1) da_nil))) (dg_tup rfl (dgs_cons (dg_subC (Wx := wxE E) (de_var 0) de_int) (dgs_cons (dg_name 2 sc__law_sip.nd) dgs_nil))))
    (dss_one (ds_ret (de_var 2)))) dss_nil)
    (dss_cons (O' := []) (ds_asg (de_bin dop_add (de_ix (hu_of hr) (de_var 0) de_int) de_int) (dg_subC (Wx := wxE E) (de_var 0) de_int))
    (dss_cons (O' := []) (ds_set 3 sc__law_sip.nd (de_bin dop_mod (de_callTy dc_int G.b_int bt_int (da_cons (de_bin dop_add (de_bin dop_add (de_bin dop_mul (de_ix (hu_of hr) (de_var 0) de_int) (de_bin dop_add de_int (de_bin dop_mul de_int (de_ix (hu_of hr) (de_var 0) de_int)))) (de_bin dop_mul de_int (de_ix (hu_of hr) (de_var 0) de_int))) de_int) da_nil)) de_int))
    (dss_cons (O' := []) (ds_asg (de_bin dop_mod (de_callTy dc_int G.b_int bt_int (da_cons (de_bin dop_add (de_bin dop_add (de_bin dop_mul (de_var 3) de_int) (de_bin dop_mul de_int (de_ix (hu_of hr) (de_var 0) de_int))) de_int) da_nil)) de_int) (dg_subC (Wx := wxE E) (de_var 0) de_int))
    (dss_one (ds_ret (de_bin dop_mod (de_callTy dc_int G.b_int bt_int (da_cons (de_bin dop_fdiv (de_ix (hu_of hr) (de_var 0) de_int) de_int) da_nil)) (de_var 1))))))))
abbrev s__law_one : Stmt := topS 81
theorem sc__law_one : FnScope ["_law_jar", "_law_some"] ["_law_jar", "_law_some"] (defScope s__law_one) := ⟨rfl, rfl, rfl, by decide +kernel, rfl, by decide +kernel, by decide +kernel⟩
theorem d__law_one {P : Program} {w : World} {K : PySem.W.Frag} {mg : Str → Option Value} {base : Heap} {k : Nat} {fA : Addr} {fd : FuncData} (G : GF K w mg) (C__law_sip : Cal P w K mg base k "_law_sip" phi__law_sip) (F : Fun K "_law_one" "_law_one" s__law_one fA fd) : Dfn P w K mg base (k + 1) fA fd ["_law_jar", "_law_some"] phi__law_one :=
  okD (O' := []) F sc__law_one fun cdv A outer s H E B hr tk hgd hp => (dss_one (ds_ret (de_ix (hu_of hr) (de_var 1) (C__law_sip.call hr hgd tk (da_cons (de_var 0) (da_cons (de_callB dc_len G.b_len bt_len (da_cons (de_var 1) da_nil)) da_nil))))))
abbrev s__law_speeds : Stmt := topS 87
theorem sc__law_speeds : FnScope ["_law_jar", "_law_most", "_law_low", "_law_high", "_law_both"] ["_law_jar", "_law_most"] (defScope s__law_speeds) := ⟨rfl, rfl, rfl, by decide +kernel, rfl, by decide +kernel, by decide +kernel⟩
theorem d__law_speeds {P : Program} {w : World} {K : PySem.W.Frag} {mg : Str → Option Value} {base : Heap} {k : Nat} {fA : Addr} {fd : FuncData} (G : GF K w mg) (C__law_shared : Cal P w K mg base k "_law_shared" phi__law_shared) (C__law_sip : Cal P w K mg base k "_law_sip" phi__law_sip) (F : Fun K "_law_speeds" "_law_speeds" s__law_speeds fA fd) : Dfn P w K mg base (k + 1) fA fd ["_law_jar", "_law_most"] phi__law_speeds :=
  okD (O' := []) F sc__law_speeds fun cdv A outer s H E B hr tk hgd hp => (dss_cons (O' := []) (ds_par 2 3 rfl sc__law_speeds.nd (da_cons (de_bin dop_add de_int (C__law_sip.call hr hgd tk (da_cons (de_var 0) (da_cons (de_var 1) da_nil)))) (da_cons (de_bin dop_add de_int (C__law_sip.call hr hgd tk (da_cons (de_var 0) (da_cons (de_var 1) da_nil)))) da_nil)))
    (dss_cons (O' := []) (ds_if (dt_cmp dop_ge (de_var 2) (de_var 3)) (dss_one (ds_par 2 3 rfl sc__law_speeds.nd (da_cons (de_bin dop_sub (de_var 3) de_int) (da_cons (de_bin dop_add (de_var 2) de_int) da_nil)))) dss_nil)
    (dss_cons (O' := []) (ds_set 4 sc__law_speeds.nd (C__law_shared.call hr hgd tk (da_cons (de_var 3) (da_cons (de_var 2) da_nil))))
    (dss_one (ds_ret (de_lst (da_cons (de_bin dop_fdiv (de_var 2) (de_var 4)) (da_cons (de_bin dop_fdiv (de_var 3) (de_var 4)) da_nil))))))))
abbrev s__law_wide : Stmt := topS 82
theorem sc__law_wide : FnScope ["_law_jar", "_law_many", "_law_found", "_law_turn"] ["_law_jar", "_law_many"] (defScope s__law_wide) := ⟨rfl, rfl, rfl, by decide +kernel, rfl, by decide +kernel, by decide +kernel⟩
theorem d__law_wide {P : Program} {w : World} {K : PySem.W.Frag} {mg : Str → Option Value} {base : Heap} {k : Nat} {fA : Addr} {fd : FuncData} (G : GF K w mg) (C__law_sip : Cal P w K mg base k "_law_sip" phi__law_sip) (F : Fun K "_law_wide" "_law_wide" s__law_wide fA fd) : Dfn P w K mg base (k + 1) fA fd ["_law_jar", "_law_many"] phi__law_wide :=
  okD (O' := []) F sc__law_wide fun cdv A outer s H E B hr tk hgd hp => (dss_cons (O' := []) (ds_set 2 sc__law_wide.nd de_int)
    (dss_cons (O' := []) (ds_for hp rfl (di_range1 G.b_range (da_cons de_int da_nil)) (dg_name 3 sc__law_wide.nd) (dss_one (ds_set 2 sc__law_wide.nd (de_bin dop_add (de_bin dop_mul (de_var 2) de_int) (C__law_sip.call hr hgd tk (da_cons (de_var 0) (da_cons de_int da_nil)))))))
    (dss_one (ds_ret (de_bin dop_mod (de_callTy dc_int G.b_int bt_int (da_cons (de_var 2) da_nil)) (de_var 1))))))
abbrev s__law_set : Stmt := topS 88
theorem sc__law_set : FnScope ["_law_jar", "_law_most", "_law_both", "_law_side", "_law_low", "_law_high", "_law_small", "_law_big", "_law_quick", "_law_some", "_law_reach", "_law_begin"] ["_law_jar", "_law_most"] (defScope s__law_set) := ⟨rfl, rfl, rfl, by decide +kernel, rfl, by decide +kernel, by decide +kernel⟩
theorem d__law_set {P : Program} {w : World} {K : PySem.W.Frag} {mg : Str → Option Value} {base : Heap} {k : Nat} {fA : Addr} {fd : FuncData} (G : GF K w mg) (C__law_one : Cal P w K mg base k "_law_one" phi__law_one) (C__law_sip : Cal P w K mg base k "_law_sip" phi__law_sip) (C__law_speeds : Cal P w K mg base k "_law_speeds" phi__law_speeds) (C__law_wide : Cal P w K mg base k "_law_wide" phi__law_wide) (F : Fun K "_law_set" "_law_set" s__law_set fA fd) : Dfn P w K mg base (k + 1) fA fd ["_law_jar", "_law_most"] phi__law_set :=
  okD (O' := []) F sc__law_set fun cdv A outer s H E B hr tk hgd hp => (dss_cons (O' := []) (ds_par 2 3 rfl sc__law_set.nd (da_cons (de_bin dop_add de_int (C__law_wide.call hr hgd tk (da_cons (de_var 0) (da_cons (de_var 1) da_nil)))) (da_cons (C__law_one.call hr hgd tk (da_cons (de_var 0) (da_cons (de_lst (da_cons de_str (da_cons de_str (da_cons de_str (da_cons de_str da_nil))))) da_nil))) da_nil)))
    (dss_cons (O' := []) (ds_asg (C__law_speeds.call hr hgd tk (da_cons (de_var 0) (da_cons de_int da_nil))) (dg_lst rfl (dgs_cons (dg_name 4 sc__law_set.nd) (dgs_cons (dg_name 5 sc__law_set.nd) dgs_nil))))
    (dss_cons (O' := []) (ds_if (dt_cmp (dop_eq hr.units) (de_var 3) de_str) (dss_cons (O' := []) (ds_set 6 sc__law_set.nd (de_bin dop_mul (de_var 2) (C__law_one.call hr hgd tk (da_cons (de_var 0) (da_cons (de_lst (da_cons (de_var 4) (da_cons (de_bin dop_sub (de_var 5) (de_var 4)) da_nil))) da_nil)))))
    (dss_one (ds_set 7 sc__law_set.nd (de_bin dop_mul (de_var 2) (de_var 5))))) (dss_one (ds_par 6 7 rfl sc__law_set.nd (da_cons (de_bin dop_mul (de_var 2) (de_if (dt_cmp (dop_eq hr.units) (de_var 3) de_str) (de_var 4) (de_var 5))) (da_cons (de_bin dop_mul (de_var 2) (de_bin dop_sub (de_var 5) (de_var 4))) da_nil)))))
    (dss_cons (O' := []) (ds_set 8 sc__law_set.nd (de_bin dop_fdiv (de_var 6) (de_var 2)))
    (dss_cons (O' := []) (ds_set 9 sc__law_set.nd (de_lst (da_cons (de_var 6) (da_cons (de_var 8) (da_cons (de_bin dop_mul (de_var 8) (de_bin dop_add de_int (C__law_sip.call hr hgd tk (da_cons (de_var 0) (da_cons de_int da_nil))))) (da_cons (C__law_sip.call hr hgd tk (da_cons (de_var 0) (da_cons de_int da_nil))) (da_cons de_int (da_cons (de_bin dop_mul (de_var 8) (de_var 2)) da_nil))))))))
    (dss_cons (O' := []) (ds_set 10 sc__law_set.nd (C__law_one.call hr hgd tk (da_cons (de_var 0) (da_cons (de_bin dop_add (de_var 9) (de_lst (da_cons (de_bin dop_add de_int (C__law_wide.call hr hgd tk (da_cons (de_var 0) (da_cons (de_var 1) da_nil)))) da_nil))) da_nil))))
    (dss_cons (O' := []) (ds_if (dw_pt (dw_and (dt_cmp (dop_eq hr.units) (de_var 3) de_str) (dw_and (dt_cmp (dop_eq hr.units) (de_var 7) (de_bin dop_mul de_int (de_var 6))) (dw_and1 (dt_cmp (dop_eq hr.units) (de_var 10) (de_var 6)))))) (dss_one (ds_set 10 sc__law_set.nd (de_bin dop_add (de_var 10) de_int))) dss_nil)
    (dss_cons (O' := []) (ds_set 11 sc__law_set.nd (C__law_one.call hr hgd tk (da_cons (de_var 0) (da_cons (de_lst (da_cons de_int (da_cons de_int (da_cons (C__law_sip.call hr hgd tk (da_cons (de_var 0) (da_cons de_int da_nil))) (da_cons (C__law_wide.call hr hgd tk (da_cons (de_var 0) (da_cons (de_var 7) da_nil))) (da_cons (de_var 2) (da_cons (de_bin dop_sub (de_bin dop_pow de_int de_int) (C__law_sip.call hr hgd tk (da_cons (de_var 0) (da_cons de_int da_nil)))) da_nil))))))) da_nil))))
    (dss_one (ds_ret (de_tup (da_cons (de_var 3) (da_cons (de_var 7) (da_cons (de_var 6) (da_cons (de_var 10) (da_cons (de_var 11) da_nil))))))))))))))))
abbrev s__law_twin : Stmt := topS 86
theorem sc__law_twin : FnScope ["_law_told", "_law_side", "_law_big", "_law_small", "_law_reach", "_law_begin", "_law_both", "_law_middle", "_law_quick", "_law_slow", "_law_more", "_law_tooth_here", "_law_gap"] ["_law_told"] (defScope s__law_twin) := ⟨rfl, rfl, rfl, by decide +kernel, rfl, by decide +kernel, by decide +kernel⟩
theorem d__law_twin {P : Program} {w : World} {K : PySem.W.Frag} {mg : Str → Option Value} {base : Heap} {k : Nat} {fA : Addr} {fd : FuncData} (G : GF K w mg) (C__law_shared : Cal P w K mg base k "_law_shared" phi__law_shared) (F : Fun K "_law_twin" "_law_twin" s__law_twin fA fd) : Dfn P w K mg base (k + 1) fA fd ["_law_told"] phi__law_twin :=
  okD (O' := []) F sc__law_twin fun cdv A outer s H E B hr tk hgd hp => (dss_cons (O' := []) (ds_asg (de_var 0) (dg_tup rfl (dgs_cons (dg_name 1 sc__law_twin.nd) (dgs_cons (dg_name 2 sc__law_twin.nd) (dgs_cons (dg_name 3 sc__law_twin.nd) (dgs_cons (dg_name 4 sc__law_twin.nd) (dgs_cons (dg_name 5 sc__law_twin.nd) dgs_nil)))))))
    (dss_cons (O' := []) (ds_set 6 sc__law_twin.nd (C__law_shared.call hr hgd tk (da_cons (de_var 2) (da_cons (de_var 3) da_nil))))
    (dss_cons (O' := []) (ds_set 7 sc__law_twin.nd (de_ix (hu_of hr) (de_disp (pps_cons' de_str (de_bin dop_sub (de_var 2) (de_var 3)) (pps_cons' de_str (de_bin dop_add (de_var 2) (de_var 3)) (pps_cons' de_str (de_bin dop_sub (de_var 3) (de_var 2)) pps_nil')))) (de_var 1)))
    (dss_cons (O' := []) (ds_par 8 9 rfl sc__law_twin.nd (da_cons (de_bin dop_fdiv (de_var 3) (de_var 6)) (da_cons (de_bin dop_fdiv (de_var 7) (de_var 6)) da_nil)))
    (dss_cons (O' := []) (ds_if (dw_pt (dw_or (dt_cmp (dop_eq hr.units) (de_var 4) de_int) (dw_or1 (dt_cmp (dop_ne hr.units) (de_bin dop_mod (de_callTy dc_int G.b_int bt_int (da_cons (de_var 4) da_nil)) (de_var 8)) de_int)))) (dss_one (ds_ret (de_tup da_nil))) dss_nil)
    (dss_cons (O' := []) (ds_set 10 sc__law_twin.nd (de_bin dop_fdiv (de_var 4) (de_var 8)))
    (dss_cons (O' := []) (ds_if (dt_cmp (dop_ne hr.units) (de_bin dop_mod (de_callTy dc_int G.b_int bt_int (da_cons (de_bin dop_mul (de_var 5) (de_var 10)) da_nil)) (de_var 6)) de_int) (dss_one (ds_ret (de_tup da_nil))) dss_nil)
    (dss_cons (O' := []) (ds_set 11 sc__law_twin.nd (de_bin dop_mod (de_callTy dc_int G.b_int bt_int (da_cons (de_bin dop_fdiv (de_bin dop_mul (de_var 5) (de_var 10)) (de_var 6)) da_nil)) (de_var 10)))
    (dss_cons (O' := []) (ds_if (dt_cmp (dop_eq hr.units) (de_var 1) de_str) (dss_one (ds_ret (de_tup (da_cons de_str (da_cons (de_bin dop_mul (de_var 10) (de_bin dop_add (de_var 8) (de_var 9))) (da_cons (de_bin dop_mul (de_var 10) (de_var 9)) (da_cons (de_var 7) (da_cons (de_var 11) da_nil)))))))) dss_nil)
    (dss_cons (O' := []) (ds_set 12 sc__law_twin.nd (de_if (dt_cmp (dop_eq hr.units) (de_var 1) de_str) (de_bin dop_sub (de_var 9) (de_var 8)) (de_bin dop_sub (de_var 8) (de_var 9))))
    (dss_one (ds_ret (de_tup (da_cons (de_if (dt_cmp (dop_eq hr.units) (de_var 1) de_str) de_str de_str) (da_cons (de_bin dop_mul (de_var 10) (de_var 12)) (da_cons (de_bin dop_mul (de_var 10) (de_var 9)) (da_cons (de_var 7) (da_cons (de_var 11) da_nil))))))))))))))))))
abbrev s__law_mate : Stmt := topS 90
theorem sc__law_mate : FnScope ["_law_jar", "_law_told", "_law_way", "_law_both", "_law_begin", "_law_near", "_law_twin_here", "_law_fresh"] ["_law_jar", "_law_told"] (defScope s__law_mate) := ⟨rfl, rfl, rfl, by decide +kernel, rfl, by decide +kernel, by decide +kernel⟩
theorem d__law_mate {P : Program} {w : World} {K : PySem.W.Frag} {mg : Str → Option Value} {base : Heap} {k : Nat} {fA : Addr} {fd : FuncData} (G : GF K w mg) (C__law_one : Cal P w K mg base k "_law_one" phi__law_one) (C__law_set : Cal P w K mg base k "_law_set" phi__law_set) (C__law_shared : Cal P w K mg base k "_law_shared" phi__law_shared) (C__law_sip : Cal P w K mg base k "_law_sip" phi__law_sip) (C__law_twin : Cal P w K mg base k "_law_twin" phi__law_twin) (C__law_wide : Cal P w K mg base k "_law_wide" phi__law_wide) (F : Fun K "_law_mate" "_law_mate" s__law_mate fA fd) : Dfn P w K mg base (k + 1) fA fd ["_law_jar", "_law_told"] phi__law_mate :=
  okD (O' := []) F sc__law_mate fun cdv A outer s H E B hr tk hgd hp => (dss_cons (O' := []) (ds_par 2 3 rfl sc__law_mate.nd (da_cons (C__law_sip.call hr hgd tk (da_cons (de_var 0) (da_cons de_int da_nil))) (da_cons (C__law_shared.call hr hgd tk (da_cons (de_ix (hu_of hr) (de_var 1) de_int) (da_cons (de_ix (hu_of hr) (de_var 1) de_int) da_nil))) da_nil)))
    (dss_cons (O' := []) (ds_set 4 sc__law_mate.nd (C__law_one.call hr hgd tk (da_cons (de_var 0) (da_cons (de_lst (da_cons (de_ix (hu_of hr) (de_var 1) de_int) (da_cons (de_bin dop_mod (de_callTy dc_int G.b_int bt_int (da_cons (de_ix (hu_of hr) (de_var 1) de_int) da_nil)) (de_var 3)) (da_cons (de_bin dop_add (de_ix (hu_of hr) (de_var 1) de_int) (de_var 3)) (da_cons (de_bin dop_add (de_ix (hu_of hr) (de_var 1) de_int) de_int) (da_cons (de_bin dop_add (C__law_wide.call hr hgd tk (da_cons (de_var 0) (da_cons (de_var 3) da_nil))) (de_bin dop_mul de_int (de_var 3))) da_nil)))))) da_nil))))
    (dss_cons (O' := []) (ds_set 5 sc__law_mate.nd (de_bin dop_add (de_slice (de_var 1) do_none (do_some de_int)) (de_tup (da_cons (de_callB (dc_min2 rfl) G.b_min bt_min (da_cons (de_var 4) (da_cons (de_bin dop_pow de_int de_int) da_nil))) da_nil))))
    (dss_cons (O' := []) (ds_if (dt_cmp dop_lt (de_var 2) de_int) (dss_one (ds_ret (de_var 5))) dss_nil)
    (dss_cons (O' := []) (ds_if (dt_cmp dop_lt (de_var 2) de_int) (dss_cons (O' := []) (ds_set 6 sc__law_mate.nd (C__law_twin.call hr hgd tk (da_cons (de_var 5) da_nil)))
    (dss_one (ds_ret (de_if (dw_pt (dw_and (dt_cmp (dop_ne hr.units) (de_var 6) (de_tup da_nil)) (dw_and1 (dt_cmp dop_le (de_callB (dc_max1 rfl hr.units) G.b_max bt_max (da_cons (de_slice (de_var 6) (do_some de_int) do_none) da_nil)) (de_bin dop_pow de_int de_int))))) (de_var 6) (de_var 5))))) dss_nil)
    (dss_cons (O' := []) (ds_if (dt_cmp (dop_eq hr.units) (de_var 2) de_int) (dss_cons (O' := []) (ds_set 7 sc__law_mate.nd (de_bin dop_add (de_bin dop_add (de_slice (de_var 5) do_none (do_some de_int)) (de_tup (da_cons (de_bin dop_add (de_ix (hu_of hr) (de_var 5) de_int) de_int) da_nil))) (de_slice (de_var 5) (do_some de_int) do_none)))
    (dss_one (ds_ret (de_if (dw_pt (dw_and (dt_cmp (dop_eq hr.units) (de_ix (hu_of hr) (de_var 7) de_int) de_str) (dw_and (dt_cmp (dop_eq hr.units) (de_ix (hu_of hr) (de_var 7) de_int) (de_bin dop_mul de_int (de_ix (hu_of hr) (de_var 7) de_int))) (dw_and1 (dt_cmp (dop_eq hr.units) (de_ix (hu_of hr) (de_var 7) de_int) (de_ix (hu_of hr) (de_var 7) de_int)))))) (de_var 5) (de_var 7))))) dss_nil)
    (dss_cons (O' := []) (ds_if (dt_cmp (dop_eq hr.units) (de_var 2) de_int) (dss_one (ds_ret (de_if (dt_cmp (dop_ne hr.units) (de_ix (hu_of hr) (de_var 5) de_int) de_str) (de_var 5) (de_bin dop_add (de_tup (da_cons de_str da_nil)) (de_slice (de_var 5) (do_some de_int) do_none))))) dss_nil)
    (dss_one (ds_ret (C__law_set.call hr hgd tk (da_cons (de_var 0) (da_cons de_int da_nil))))))))))))
abbrev s_common : Stmt := topS 5
theorem sc_common : FnScope ["first", "last"] ["first", "last"] (defScope s_common) := ⟨rfl, rfl, rfl, by decide +kernel, rfl, by decide +kernel, by decide +kernel⟩
theorem d_common {P : Program} {w : World} {K : PySem.W.Frag} {mg : Str → Option Value} {base : Heap} {k : Nat} {fA : Addr} {fd : FuncData} (G : GF K w mg) (F : Fun K "common" "common" s_common fA fd) : Dfn P w K mg base (k + 1) fA fd ["first", "last"] phi_common :=
  okD (O' := []) F sc_common fun cdv A outer s H E B hr tk hgd hp => (dss_cons (O' := []) (ds_while hp (dt_cmp dop_gt (de_var 1) de_int) (dss_one (ds_par 0 1 rfl sc_common.nd (da_cons (de_var 1) (da_cons (de_bin dop_mod (de_callTy dc_int G.b_int bt_int (da_cons (de_var 0) da_nil)) (de_var 1)) da_nil)))))
    (dss_one (ds_ret (de_var 0))))
abbrev s_reduced : Stmt := topS 7
theorem sc_reduced : FnScope ["number", "whole", "rest", "divisor"] ["number", "whole"] (defScope s_reduced) := ⟨rfl, rfl, rfl, by decide +kernel, rfl, by decide +kernel, by decide +kernel⟩
theorem d_reduced {P : Program} {w : World} {K : PySem.W.Frag} {mg : Str → Option Value} {base : Heap} {k : Nat} {fA : Addr} {fd : FuncData} (G : GF K w mg) (C_common : Cal P w K mg base k "common" phi_common) (F : Fun K "reduced" "reduced" s_reduced fA fd) : Dfn P w K mg base (k + 1) fA fd ["number", "whole"] phi_reduced :=
  okD (O' := []) F sc_reduced fun cdv A outer s H E B hr tk hgd hp => (dss_cons (O' := []) (ds_set 2 sc_reduced.nd (de_bin dop_mod (de_callTy dc_int G.b_int bt_int (da_cons (de_var 0) da_nil)) (de_var 1)))
    (dss_cons (O' := []) (ds_set 3 sc_reduced.nd (C_common.call hr hgd tk (da_cons (de_var 1) (da_cons (de_var 2) da_nil))))
    (dss_one (ds_ret (de_tup (da_cons (de_bin dop_fdiv (de_var 2) (de_var 3)) (da_cons (de_bin dop_fdiv (de_var 1) (de_var 3)) da_nil)))))))
abbrev s_scaled : Stmt := topS 9
theorem sc_scaled : FnScope ["factor", "part"] ["factor", "part"] (defScope s_scaled) := ⟨rfl, rfl, rfl, by decide +kernel, rfl, by decide +kernel, by decide +kernel⟩
theorem d_scaled {P : Program} {w : World} {K : PySem.W.Frag} {mg : Str → Option Value} {base : Heap} {k : Nat} {fA : Addr} {fd : FuncData} (G : GF K w mg) (C_reduced : Cal P w K mg base k "reduced" phi_reduced) (F : Fun K "scaled" "scaled" s_scaled fA fd) : Dfn P w K mg base (k + 1) fA fd ["factor", "part"] phi_scaled :=
  okD (O' := []) F sc_scaled fun cdv A outer s H E B hr tk hgd hp => (dss_one (ds_ret (C_reduced.call hr hgd tk (da_cons (de_bin dop_mul (de_var 0) (de_ix (hu_of hr) (de_var 1) de_int)) (da_cons (de_ix (hu_of hr) (de_var 1) de_int) da_nil)))))
abbrev s_summed : Stmt := topS 8
theorem sc_summed : FnScope ["first", "last"] ["first", "last"] (defScope s_summed) := ⟨rfl, rfl, rfl, by decide +kernel, rfl, by decide +kernel, by decide +kernel⟩
theorem d_summed {P : Program} {w : World} {K : PySem.W.Frag} {mg : Str → Option Value} {base : Heap} {k : Nat} {fA : Addr} {fd : FuncData} (G : GF K w mg) (C_reduced : Cal P w K mg base k "reduced" phi_reduced) (F : Fun K "summed" "summed" s_summed fA fd) : Dfn P w K mg base (k + 1) fA fd ["first", "last"] phi_summed :=
  okD (O' := []) F sc_summed fun cdv A outer s H E B hr tk hgd hp => (dss_one (ds_ret (C_reduced.call hr hgd tk (da_cons (de_bin dop_add (de_bin dop_mul (de_ix (hu_of hr) (de_var 0) de_int) (de_ix (hu_of hr) (de_var 1) de_int)) (de_bin dop_mul (de_ix (hu_of hr) (de_var 1) de_int) (de_ix (hu_of hr) (de_var 0) de_int))) (da_cons (de_bin dop_mul (de_ix (hu_of hr) (de_var 0) de_int) (de_ix (hu_of hr) (de_var 1) de_int)) da_nil)))))
abbrev s_are_matched : Stmt := topS 65
theorem sc_are_matched : FnScope ["first", "last", "shift"] ["first", "last", "shift"] (defScope s_are_matched) := ⟨rfl, rfl, rfl, by decide +kernel, rfl, by decide +kernel, by decide +kernel⟩
theorem d_are_matched {P : Program} {w : World} {K : PySem.W.Frag} {mg : Str → Option Value} {base : Heap} {k : Nat} {fA : Addr} {fd : FuncData} (G : GF K w mg) (C_scaled : Cal P w K mg base k "scaled" phi_scaled) (C_summed : Cal P w K mg base k "summed" phi_summed) (F : Fun K "are_matched" "are_matched" s_are_matched fA fd) : Dfn P w K mg base (k + 1) fA fd ["first", "last", "shift"] phi_are_matched :=
  okD (O' := []) F sc_are_matched fun cdv A outer s H E B hr tk hgd hp => (dss_one (ds_ret (de_and (de_cmp (dop_eq hr.units) (de_slice (de_var 0) do_none (do_some de_int)) (de_slice (de_var 1) do_none (do_some de_int))) (de_one (de_cmp (dop_eq hr.units) (de_ix (hu_of hr) (de_var 0) de_int) (C_summed.call hr hgd tk (da_cons (de_ix (hu_of hr) (de_var 1) de_int) (da_cons (C_scaled.call hr hgd tk (da_cons (de_ix (hu_of hr) (de_var 0) de_int) (da_cons (de_var 2) da_nil))) da_nil))))))))
abbrev s_is_part : Stmt := topS 64
theorem sc_is_part : FnScope ["value"] ["value"] (defScope s_is_part) := ⟨rfl, rfl, rfl, by decide +kernel, rfl, by decide +kernel, by decide +kernel⟩
theorem d_is_part {P : Program} {w : World} {K : PySem.W.Frag} {mg : Str → Option Value} {base : Heap} {k : Nat} {fA : Addr} {fd : FuncData} (G : GF K w mg) (C_is_between : Cal P w K mg base k "is_between" phi_is_between) (C_reduced : Cal P w K mg base k "reduced" phi_reduced) (F : Fun K "is_part" "is_part" s_is_part fA fd) : Dfn P w K mg base (k + 1) fA fd ["value"] phi_is_part :=
  okD (O' := []) F sc_is_part fun cdv A outer s H E B hr tk hgd hp => (dss_cons (O' := []) (ds_if (dw_pt (dw_or (dt_not (dt_truth (de_callB dc_isi G.b_isinstance bt_isinstance (da_cons (de_var 0) (da_cons (de_ty G.b_tuple bt_tuple) da_nil))))) (dw_or (dt_cmp (dop_ne hr.units) (de_callB dc_len G.b_len bt_len (da_cons (de_var 0) da_nil)) de_int) (dw_or1 (dt_not (dt_truth (C_is_between.call hr hgd tk (da_cons (de_ix (hu_of hr) (de_var 0) de_int) (da_cons de_int (da_cons de_non da_nil)))))))))) (dss_one (ds_ret de_bl)) dss_nil)
    (dss_one (ds_ret (de_and (C_is_between.call hr hgd tk (da_cons (de_ix (hu_of hr) (de_var 0) de_int) (da_cons de_int (da_cons (de_bin dop_sub (de_ix (hu_of hr) (de_var 0) de_int) de_int) da_nil)))) (de_one (de_cmp (dop_eq hr.units) (C_reduced.call hr hgd tk (da_cons (de_ix (hu_of hr) (de_var 0) de_int) (da_cons (de_ix (hu_of hr) (de_var 0) de_int) da_nil))) (de_var 0)))))))
abbrev s_terms_of : Stmt := topS 10
theorem sc_terms_of : FnScope ["setting", "side", "ring", "wheel", "arm", "tooth", "shared", "phase", "across", "found"] ["setting"] (defScope s_terms_of) := ⟨rfl, rfl, rfl, by decide +kernel, rfl, by decide +kernel, by decide +kernel⟩
theorem d_terms_of {P : Program} {w : World} {K : PySem.W.Frag} {mg : Str → Option Value} {base : Heap} {k : Nat} {fA : Addr} {fd : FuncData} (G : GF K w mg) (C_common : Cal P w K mg base k "common" phi_common) (C_reduced : Cal P w K mg base k "reduced" phi_reduced) (C_summed : Cal P w K mg base k "summed" phi_summed) (F : Fun K "terms_of" "terms_of" s_terms_of fA fd) : Dfn P w K mg base (k + 1) fA fd ["setting"] phi_terms_of :=
  okD (O' := []) F sc_terms_of fun cdv A outer s H E B hr tk hgd hp => (dss_cons (O' := []) (ds_asg (de_var 0) (dg_tup rfl (dgs_cons (dg_name 1 sc_terms_of.nd) (dgs_cons (dg_name 2 sc_terms_of.nd) (dgs_cons (dg_name 3 sc_terms_of.nd) (dgs_cons (dg_name 4 sc_terms_of.nd) (dgs_cons (dg_name 5 sc_terms_of.nd) dgs_nil)))))))
    (dss_cons (O' := []) (ds_set 6 sc_terms_of.nd (C_common.call hr hgd tk (da_cons (de_var 2) (da_cons (de_var 3) da_nil))))
    (dss_cons (O' := []) (ds_set 7 sc_terms_of.nd (C_reduced.call hr hgd tk (da_cons (de_var 5) (da_cons (de_var 2) da_nil))))
    (dss_cons (O' := []) (ds_set 8 sc_terms_of.nd (C_summed.call hr hgd tk (da_cons (de_var 7) (da_cons (de_tup (da_cons de_int (da_cons de_int da_nil))) da_nil))))
    (dss_cons (O' := []) (ds_if (dt_cmp (dop_eq hr.units) (de_var 1) de_str) (dss_one (ds_set 9 sc_terms_of.nd (de_tup (da_cons (de_tup (da_cons (de_bin dop_sub (de_var 2) (de_var 3)) (da_cons (de_bin dop_fdiv (de_var 3) (de_var 6)) (da_cons (de_var 7) da_nil)))) (da_cons (de_tup (da_cons (de_var 4) (da_cons (de_bin dop_fdiv (de_bin dop_sub (de_var 3) (de_var 2)) (de_var 6)) (da_cons (de_var 7) da_nil)))) da_nil))))) (dss_one (ds_if (dt_cmp (dop_eq hr.units) (de_var 1) de_str) (dss_one (ds_set 9 sc_terms_of.nd (de_tup (da_cons (de_tup (da_cons (de_bin dop_add (de_var 2) (de_var 3)) (da_cons (de_bin dop_fdiv (de_var 3) (de_var 6)) (da_cons (de_var 7) da_nil)))) (da_cons (de_tup (da_cons (de_var 4) (da_cons (de_bin dop_fdiv (de_bin dop_add (de_var 2) (de_var 3)) (de_var 6)) (da_cons (de_var 8) da_nil)))) da_nil))))) (dss_one (ds_set 9 sc_terms_of.nd (de_tup (da_cons (de_tup (da_cons (de_bin dop_sub (de_var 3) (de_var 2)) (da_cons (de_bin dop_fdiv (de_var 3) (de_var 6)) (da_cons (de_var 8) da_nil)))) (da_cons (de_tup (da_cons (de_var 4) (da_cons (de_bin dop_fdiv (de_bin dop_sub (de_var 3) (de_var 2)) (de_var 6)) (da_cons (de_var 7) da_nil)))) da_nil))))))))
    (dss_one (ds_ret (de_if (dt_cmp dop_gt (de_var 4) de_int) (de_var 9) (de_tup (da_cons (de_tup (da_cons (de_ix (hu_of hr) (de_ix (hu_of hr) (de_var 9) de_int) de_int) (da_cons de_int (da_cons (de_ix (hu_of hr) (de_ix (hu_of hr) (de_var 9) de_int) de_int) da_nil)))) da_nil))))))))))
abbrev s_is_same_line : Stmt := topS 66
theorem sc_is_same_line : FnScope ["one", "other", "paper", "crossed", "back", "shift", "terms", "others", "first", "last", "size", "speed", "phase"] ["one", "other", "paper"] (defScope s_is_same_line) := ⟨rfl, rfl, rfl, by decide +kernel, rfl, by decide +kernel, by decide +kernel⟩
theorem d_is_same_line {P : Program} {w : World} {K : PySem.W.Frag} {mg : Str → Option Value} {base : Heap} {k : Nat} {fA : Addr} {fd : FuncData} (G : GF K w mg) (C_are_matched : Cal P w K mg base k "are_matched" phi_are_matched) (C_is_part : Cal P w K mg base k "is_part" phi_is_part) (C_terms_of : Cal P w K mg base k "terms_of" phi_terms_of) (F : Fun K "is_same_line" "is_same_line" s_is_same_line fA fd) : Dfn P w K mg base (k + 1) fA fd ["one", "other", "paper"] phi_is_same_line :=
  okD (O' := []) F sc_is_same_line fun cdv A outer s H E B hr tk hgd hp => (dss_cons (O' := []) (ds_if (dw_pt (dw_or (dt_not (dt_truth (de_callB dc_isi G.b_isinstance bt_isinstance (da_cons (de_var 2) (da_cons (de_ty G.b_tuple bt_tuple) da_nil))))) (dw_or1 (dt_cmp (dop_ne hr.units) (de_callB dc_len G.b_len bt_len (da_cons (de_var 2) da_nil)) de_int)))) (dss_one (ds_ret de_bl)) dss_nil)
    (dss_cons (O' := []) (ds_asg (de_var 2) (dg_tup rfl (dgs_cons (dg_name 3 sc_is_same_line.nd) (dgs_cons (dg_name 4 sc_is_same_line.nd) (dgs_cons (dg_name 5 sc_is_same_line.nd) dgs_nil)))))
    (dss_cons (O' := []) (ds_if (dw_pt (dw_or (dt_not (dt_truth (de_callB dc_isi G.b_isinstance bt_isinstance (da_cons (de_var 3) (da_cons (de_ty G.b_bool bt_bool) da_nil))))) (dw_or (dt_not (dt_truth (de_callB dc_isi G.b_isinstance bt_isinstance (da_cons (de_var 4) (da_cons (de_ty G.b_bool bt_bool) da_nil))))) (dw_or1 (dt_not (dt_truth (C_is_part.call hr hgd tk (da_cons (de_var 5) da_nil)))))))) (dss_one (ds_ret de_bl)) dss_nil)
    (dss_cons (O' := []) (ds_set 6 sc_is_same_line.nd (C_terms_of.call hr hgd tk (da_cons (de_var 0) da_nil)))
    (dss_cons (O' := []) (ds_set 7 sc_is_same_line.nd (C_terms_of.call hr hgd tk (da_cons (de_var 1) da_nil)))
    (dss_cons (O' := []) (ds_if (dw_pt (dw_or (dt_cmp (dop_ne hr.units) (de_callB dc_len G.b_len bt_len (da_cons (de_var 6) da_nil)) (de_callB dc_len G.b_len bt_len (da_cons (de_var 7) da_nil))) (dw_or1 (dw_pt (dw_and (dt_truth (de_var 3)) (dw_and1 (dt_cmp (dop_eq hr.units) (de_callB dc_len G.b_len bt_len (da_cons (de_var 6) da_nil)) de_int))))))) (dss_one (ds_ret de_bl)) dss_nil)
    (dss_cons (O' := []) (ds_if (dt_truth (de_var 3)) (dss_one (ds_set 7 sc_is_same_line.nd (de_rev2 (de_var 7)))) dss_nil)
    (dss_cons (O' := []) (ds_if (dt_truth (de_var 4)) (dss_one (ds_set 7 sc_is_same_line.nd (de_callTy dc_tuple G.b_tuple bt_tuple (da_cons (de_lc (.tup [10, 11, 12]) rfl sc_is_same_line.nd (di_any (de_var 7)) (blkOk_by (own := [("size", 10), ("speed", 11), ("phase", 12)]) rfl) rfl (by decide) (fun s H C cl fp => (pg_tup rfl (pgs_cons (pgn 10 sc_is_same_line.nd) (pgs_cons (pgn 11 sc_is_same_line.nd) (pgs_cons (pgn 12 sc_is_same_line.nd) pgs_nil))))) (fun s H C cl fp => dts_nil) (fun s H C cl fp => (de_tup (da_cons (de_var 10) (da_cons (de_neg (de_var 11)) (da_cons (de_var 12) da_nil)))))) da_nil)))) dss_nil)
    (dss_one (ds_ret (de_callB (dc_all rfl) G.b_all bt_all (da_cons (de_lc (.tup [8, 9]) rfl sc_is_same_line.nd (di_zip G.b_zip (da_cons (de_var 6) (da_cons (de_var 7) da_nil))) (blkOk_by (own := [("first", 8), ("last", 9)]) rfl) rfl (by decide) (fun s H C cl fp => (pg_tup rfl (pgs_cons (pgn 8 sc_is_same_line.nd) (pgs_cons (pgn 9 sc_is_same_line.nd) pgs_nil)))) (fun s H C cl fp => dts_nil) (fun s H C cl fp => (C_are_matched.call hr hgd takes0 (da_cons (de_var 8) (da_cons (de_var 9) (da_cons (de_var 5) da_nil)))))) da_nil))))))))))))
abbrev s_is_setting : Stmt := topS 16
theorem sc_is_setting : FnScope ["value", "most", "side", "ring", "wheel", "arm", "tooth"] ["value", "most"] (defScope s_is_setting) := ⟨rfl, rfl, rfl, by decide +kernel, rfl, by decide +kernel, by decide +kernel⟩
theorem d_is_setting {P : Program} {w : World} {K : PySem.W.Frag} {mg : Str → Option Value} {base : Heap} {k : Nat} {fA : Addr} {fd : FuncData} (G : GF K w mg) (C_is_between : Cal P w K mg base k "is_between" phi_is_between) (C_is_one_of : Cal P w K mg base k "is_one_of" phi_is_one_of) (C_is_stroke : Cal P w K mg base k "is_stroke" phi_is_stroke) (C_wheel_fits : Cal P w K mg base k "wheel_fits" phi_wheel_fits) (F : Fun K "is_setting" "is_setting" s_is_setting fA fd) : Dfn P w K mg base (k + 1) fA fd ["value", "most"] phi_is_setting :=
  okD (O' := []) F sc_is_setting fun cdv A outer s H E B hr tk hgd hp => (dss_cons (O' := []) (ds_if (dw_pt (dw_or (dt_not (dt_truth (de_callB dc_isi G.b_isinstance bt_isinstance (da_cons (de_var 0) (da_cons (de_ty G.b_tuple bt_tuple) da_nil))))) (dw_or (dt_cmp (dop_ne hr.units) (de_callB dc_len G.b_len bt_len (da_cons (de_var 0) da_nil)) de_int) (dw_or1 (dt_not (dt_truth (C_is_one_of.call hr hgd tk (da_cons (de_ix (hu_of hr) (de_var 0) de_int) (da_cons G.c_SIDES.de da_nil))))))))) (dss_one (ds_ret de_bl)) dss_nil)
    (dss_cons (O' := []) (ds_asg (de_var 0) (dg_tup rfl (dgs_cons (dg_name 2 sc_is_setting.nd) (dgs_cons (dg_name 3 sc_is_setting.nd) (dgs_cons (dg_name 4 sc_is_setting.nd) (dgs_cons (dg_name 5 sc_is_setting.nd) (dgs_cons (dg_name 6 sc_is_setting.nd) dgs_nil)))))))
    (dss_cons (O' := []) (ds_if (dw_pt (dw_or (dt_not (dt_truth (C_is_between.call hr hgd tk (da_cons (de_var 3) (da_cons de_int (da_cons (de_var 1) da_nil)))))) (dw_or (dt_not (dt_truth (C_is_between.call hr hgd tk (da_cons (de_var 4) (da_cons de_int (da_cons (de_var 1) da_nil)))))) (dw_or1 (dt_not (dt_truth (C_is_between.call hr hgd tk (da_cons (de_var 5) (da_cons de_int (da_cons (de_var 1) da_nil)))))))))) (dss_one (ds_ret de_bl)) dss_nil)
    (dss_one (ds_ret (de_and (C_is_between.call hr hgd tk (da_cons (de_var 6) (da_cons de_int (da_cons (de_var 1) da_nil)))) (de_and (C_wheel_fits.call hr hgd tk (da_cons (de_var 2) (da_cons (de_var 3) (da_cons (de_var 4) da_nil)))) (de_one (de_not (C_is_stroke.call hr hgd tk (da_cons (de_var 2) (da_cons (de_var 3) (da_cons (de_var 4) (da_cons (de_var 5) da_nil))))))))))))))
abbrev s_accepts : Stmt := topS 73
theorem sc_accepts : FnScope ["claim", "paper", "rows", "others"] ["claim", "paper"] (defScope s_accepts) := ⟨rfl, rfl, rfl, by decide +kernel, rfl, by decide +kernel, by decide +kernel⟩
theorem d_accepts {P : Program} {w : World} {K : PySem.W.Frag} {mg : Str → Option Value} {base : Heap} {k : Nat} {fA : Addr} {fd : FuncData} (G : GF K w mg) (C_is_same_line : Cal P w K mg base k "is_same_line" phi_is_same_line) (C_is_setting : Cal P w K mg base k "is_setting" phi_is_setting) (F : Fun K "accepts" "accepts" s_accepts fA fd) : Dfn P w K mg base (k + 1) fA fd ["claim", "paper"] phi_accepts :=
  okD (O' := []) F sc_accepts fun cdv A outer s H E B hr tk hgd hp => (dss_cons (O' := []) (ds_if (dw_pt (dw_or (dt_not (dt_truth (de_callB dc_isi G.b_isinstance bt_isinstance (da_cons (de_var 0) (da_cons (de_ty G.b_tuple bt_tuple) da_nil))))) (dw_or (dt_cmp (dop_eq hr.units) (de_callB dc_len G.b_len bt_len (da_cons (de_var 0) da_nil)) de_int) (dw_or (dt_not (dt_truth (de_callB dc_isi G.b_isinstance bt_isinstance (da_cons (de_ix (hu_of hr) (de_var 0) de_int) (da_cons (de_ty G.b_str bt_str) da_nil))))) (dw_or1 (dt_cmp (G.c_LENGTHS.dop_notIn) (de_ix (hu_of hr) (de_var 0) de_int) G.c_LENGTHS.glob)))))) (dss_one (ds_ret de_bl)) dss_nil)
    (dss_cons (O' := []) (ds_if (dt_cmp (dop_ne hr.units) (de_callB dc_len G.b_len bt_len (da_cons (de_var 0) da_nil)) (G.c_LENGTHS.de_ix G.c_LENGTHS.glob (de_ix (hu_of hr) (de_var 0) de_int))) (dss_one (ds_ret de_bl)) dss_nil)
    (dss_cons (O' := []) (ds_if (dt_cmp (dop_eq hr.units) (de_ix (hu_of hr) (de_var 0) de_int) de_str) (dss_cons (O' := []) (ds_if (dw_pt (dw_or (dt_not (dt_truth (C_is_setting.call hr hgd tk (da_cons (de_ix (hu_of hr) (de_var 0) de_int) (da_cons G.c_GREATEST.de da_nil))))) (dw_or1 (dt_not (dt_truth (C_is_setting.call hr hgd tk (da_cons (de_ix (hu_of hr) (de_var 0) de_int) (da_cons G.c_GREATEST.de da_nil)))))))) (dss_one (ds_ret de_bl)) dss_nil)
    (dss_one (ds_ret (C_is_same_line.call hr hgd tk (da_cons (de_ix (hu_of hr) (de_var 0) de_int) (da_cons (de_ix (hu_of hr) (de_var 0) de_int) (da_cons (de_var 1) da_nil))))))) dss_nil)
    dss_never)))
abbrev s_Line_setting : Stmt := inClass (topS 34) 1
theorem sc_Line_setting : FnScope ["self"] ["self"] (defScope s_Line_setting) := ⟨rfl, rfl, rfl, by decide +kernel, rfl, by decide +kernel, by decide +kernel⟩
theorem d_Line_setting {P : Program} {w : World} {K : PySem.W.Frag} {mg : Str → Option Value} {base : Heap} {k : Nat} {fA : Addr} {fd : FuncData} (G : GF K w mg) (F : FunX K "setting" "Line.setting" s_Line_setting fA fd) : Dfn P w K mg base (k + 1) fA fd ["self"] phi_Line_setting :=
  okDX (O' := []) F sc_Line_setting fun cdv A outer s H E B hr tk hgd hp => (dss_one (ds_ret (de_tup (da_cons (de_fld (de_var 0) G.f_Line_side) (da_cons (de_fld (de_var 0) G.f_Line_ring) (da_cons (de_fld (de_var 0) G.f_Line_wheel) (da_cons (de_fld (de_var 0) G.f_Line_arm) (da_cons (de_fld (de_var 0) G.f_Line_tooth) da_nil))))))))
abbrev s_inverse : Stmt := topS 41
theorem sc_inverse : FnScope ["number", "whole", "old", "new", "above", "below", "part"] ["number", "whole"] (defScope s_inverse) := ⟨rfl, rfl, rfl, by decide +kernel, rfl, by decide +kernel, by decide +kernel⟩
theorem d_inverse {P : Program} {w : World} {K : PySem.W.Frag} {mg : Str → Option Value} {base : Heap} {k : Nat} {fA : Addr} {fd : FuncData} (G : GF K w mg) (F : Fun K "inverse" "inverse" s_inverse fA fd) : Dfn P w K mg base (k + 1) fA fd ["number", "whole"] phi_inverse :=
  okD (O' := []) F sc_inverse fun cdv A outer s H E B hr tk hgd hp => (dss_cons (O' := []) (ds_asg (de_tup (da_cons de_int (da_cons de_int da_nil))) (dg_tup rfl (dgs_cons (dg_name 2 sc_inverse.nd) (dgs_cons (dg_name 3 sc_inverse.nd) dgs_nil))))
    (dss_cons (O' := []) (ds_par 4 5 rfl sc_inverse.nd (da_cons (de_var 1) (da_cons (de_bin dop_mod (de_callTy dc_int G.b_int bt_int (da_cons (de_var 0) da_nil)) (de_var 1)) da_nil)))
    (dss_cons (O' := []) (ds_while hp (dt_cmp dop_gt (de_var 5) de_int) (dss_cons (O' := []) (ds_set 6 sc_inverse.nd (de_bin dop_fdiv (de_var 4) (de_var 5)))
    (dss_cons (O' := []) (ds_par 4 5 rfl sc_inverse.nd (da_cons (de_var 5) (da_cons (de_bin dop_sub (de_var 4) (de_bin dop_mul (de_var 6) (de_var 5))) da_nil)))
    (dss_one (ds_par 2 3 rfl sc_inverse.nd (da_cons (de_var 3) (da_cons (de_bin dop_sub (de_var 2) (de_bin dop_mul (de_var 6) (de_var 3))) da_nil)))))))
    (dss_one (ds_ret (de_bin dop_mod (de_callTy dc_int G.b_int bt_int (da_cons (de_var 2) da_nil)) (de_var 1)))))))
abbrev s_shift_of : Stmt := topS 75
theorem sc_shift_of : FnScope ["terms", "others", "away", "first", "last", "ahead", "behind"] ["terms", "others"] (defScope s_shift_of) := ⟨rfl, rfl, rfl, by decide +kernel, rfl, by decide +kernel, by decide +kernel⟩
theorem d_shift_of {P : Program} {w : World} {K : PySem.W.Frag} {mg : Str → Option Value} {base : Heap} {k : Nat} {fA : Addr} {fd : FuncData} (G : GF K w mg) (C_inverse : Cal P w K mg base k "inverse" phi_inverse) (C_scaled : Cal P w K mg base k "scaled" phi_scaled) (C_summed : Cal P w K mg base k "summed" phi_summed) (F : Fun K "shift_of" "shift_of" s_shift_of fA fd) : Dfn P w K mg base (k + 1) fA fd ["terms", "others"] phi_shift_of :=
  okD (O' := []) F sc_shift_of fun cdv A outer s H E B hr tk hgd hp => (dss_cons (O' := []) (ds_setLc 2 (.tup [3, 4]) rfl sc_shift_of.nd (di_zip G.b_zip (da_cons (de_var 0) (da_cons (de_var 1) da_nil))) (blkOk_by (own := [("first", 3), ("last", 4)]) rfl) rfl (by decide) (fun s H C cl fp => (pg_tup rfl (pgs_cons (pgn 3 sc_shift_of.nd) (pgs_cons (pgn 4 sc_shift_of.nd) pgs_nil)))) (fun s H C cl fp => dts_nil) (fun s H C cl fp => (C_summed.call hr hgd takes0 (da_cons (de_ix (hu_of hr) (de_var 3) de_int) (da_cons (C_scaled.call hr hgd takes0 (da_cons (de_neg de_int) (da_cons (de_ix (hu_of hr) (de_var 4) de_int) da_nil))) da_nil)))))
    (dss_cons (O' := []) (ds_if (dt_cmp (dop_eq hr.units) (de_callB dc_len G.b_len bt_len (da_cons (de_var 0) da_nil)) de_int) (dss_one (ds_ret (C_scaled.call hr hgd tk (da_cons (de_ix (hu_of hr) (de_ix (hu_of hr) (de_var 0) de_int) de_int) (da_cons (de_ix (hu_of hr) (de_var 2) de_int) da_nil))))) dss_nil)
    (dss_cons (O' := []) (ds_par 3 4 rfl sc_shift_of.nd (da_cons (de_ix (hu_of hr) (de_ix (hu_of hr) (de_var 0) de_int) de_int) (da_cons (de_ix (hu_of hr) (de_ix (hu_of hr) (de_var 0) de_int) de_int) da_nil)))
    (dss_cons (O' := []) (ds_set 5 sc_shift_of.nd (de_if (dt_cmp dop_gt (de_callB dc_abs G.b_abs bt_abs (da_cons (de_var 4) da_nil)) de_int) (C_inverse.call hr hgd tk (da_cons (de_var 3) (da_cons (de_callB dc_abs G.b_abs bt_abs (da_cons (de_var 4) da_nil)) da_nil))) de_int))
    (dss_cons (O' := []) (ds_set 6 sc_shift_of.nd (de_bin dop_fdiv (de_bin dop_sub de_int (de_bin dop_mul (de_var 5) (de_var 3))) (de_var 4)))
    (dss_one (ds_ret (C_summed.call hr hgd tk (da_cons (C_scaled.call hr hgd tk (da_cons (de_var 5) (da_cons (de_ix (hu_of hr) (de_var 2) de_int) da_nil))) (da_cons (C_scaled.call hr hgd tk (da_cons (de_var 6) (da_cons (de_ix (hu_of hr) (de_var 2) de_int) da_nil))) da_nil))))))))))
abbrev s_paper_for : Stmt := topS 76
theorem sc_paper_for : FnScope ["one", "other", "crossed", "back", "others", "paper", "term", "size", "speed", "phase"] ["one", "other"] (defScope s_paper_for) := ⟨rfl, rfl, rfl, by decide +kernel, rfl, by decide +kernel, by decide +kernel⟩
theorem d_paper_for {P : Program} {w : World} {K : PySem.W.Frag} {mg : Str → Option Value} {base : Heap} {k : Nat} {fA : Addr} {fd : FuncData} (G : GF K w mg) (C_is_same_line : Cal P w K mg base k "is_same_line" phi_is_same_line) (C_shift_of : Cal P w K mg base k "shift_of" phi_shift_of) (C_terms_of : Cal P w K mg base k "terms_of" phi_terms_of) (F : Fun K "paper_for" "paper_for" s_paper_for fA fd) : Dfn P w K mg base (k + 1) fA fd ["one", "other"] phi_paper_for :=
  okD (O' := []) F sc_paper_for fun cdv A outer s H E B hr tk hgd hp => (dss_cons (O' := []) (ds_for hp rfl (di_any (de_tup (da_cons de_bl (da_cons de_bl da_nil)))) (dg_name 2 sc_paper_for.nd) (dss_one (ds_for hp rfl (di_any (de_tup (da_cons de_bl (da_cons de_bl da_nil)))) (dg_name 3 sc_paper_for.nd) (dss_cons (O' := []) (ds_set 4 sc_paper_for.nd (de_if (dt_truth (de_var 2)) (de_rev2 (C_terms_of.call hr hgd tk (da_cons (de_var 1) da_nil))) (C_terms_of.call hr hgd tk (da_cons (de_var 1) da_nil))))
    (dss_cons (O' := []) (ds_if (dt_truth (de_var 3)) (dss_one (ds_set 4 sc_paper_for.nd (de_callTy dc_tuple G.b_tuple bt_tuple (da_cons (de_lc (.tup [7, 8, 9]) rfl sc_paper_for.nd (di_any (de_var 4)) (blkOk_by (own := [("size", 7), ("speed", 8), ("phase", 9)]) rfl) rfl (by decide) (fun s H C cl fp => (pg_tup rfl (pgs_cons (pgn 7 sc_paper_for.nd) (pgs_cons (pgn 8 sc_paper_for.nd) (pgs_cons (pgn 9 sc_paper_for.nd) pgs_nil))))) (fun s H C cl fp => dts_nil) (fun s H C cl fp => (de_tup (da_cons (de_var 7) (da_cons (de_neg (de_var 8)) (da_cons (de_var 9) da_nil)))))) da_nil)))) dss_nil)
    (dss_one (ds_if (dt_cmp (dop_eq hr.units) (de_lc (.one 6) rfl sc_paper_for.nd (di_any (C_terms_of.call hr hgd tk (da_cons (de_var 0) da_nil))) (blkOk_by (own := [("term", 6)]) rfl) rfl (by decide) (fun s H C cl fp => (pgn 6 sc_paper_for.nd)) (fun s H C cl fp => dts_nil) (fun s H C cl fp => (de_slice (de_var 6) do_none (do_some de_int)))) (de_lc (.one 6) rfl sc_paper_for.nd (di_any (de_var 4)) (blkOk_by (own := [("term", 6)]) rfl) rfl (by decide) (fun s H C cl fp => (pgn 6 sc_paper_for.nd)) (fun s H C cl fp => dts_nil) (fun s H C cl fp => (de_slice (de_var 6) do_none (do_some de_int))))) (dss_cons (O' := []) (ds_set 5 sc_paper_for.nd (de_tup (da_cons (de_var 2) (da_cons (de_var 3) (da_cons (C_shift_of.call hr hgd tk (da_cons (C_terms_of.call hr hgd tk (da_cons (de_var 0) da_nil)) (da_cons (de_var 4) da_nil))) da_nil)))))
    (dss_one (ds_if (dt_truth (C_is_same_line.call hr hgd tk (da_cons (de_var 0) (da_cons (de_var 1) (da_cons (de_var 5) da_nil))))) (dss_one (ds_ret (de_var 5))) dss_nil))) dss_nil)))))))
    (dss_one (ds_ret de_non)))
abbrev s_signed : Stmt := topS 12
theorem sc_signed : FnScope ["terms", "first", "last"] ["terms"] (defScope s_signed) := ⟨rfl, rfl, rfl, by decide +kernel, rfl, by decide +kernel, by decide +kernel⟩
theorem d_signed {P : Program} {w : World} {K : PySem.W.Frag} {mg : Str → Option Value} {base : Heap} {k : Nat} {fA : Addr} {fd : FuncData} (G : GF K w mg) (F : Fun K "signed" "signed" s_signed fA fd) : Dfn P w K mg base (k + 1) fA fd ["terms"] phi_signed :=
  okD (O' := []) F sc_signed fun cdv A outer s H E B hr tk hgd hp => (dss_cons (O' := []) (ds_asg (de_if (dt_cmp dop_ge (de_ix (hu_of hr) (de_ix (hu_of hr) (de_var 0) de_int) de_int) (de_ix (hu_of hr) (de_ix (hu_of hr) (de_var 0) de_int) de_int)) (de_var 0) (de_tup (da_cons (de_ix (hu_of hr) (de_var 0) de_int) (da_cons (de_ix (hu_of hr) (de_var 0) de_int) da_nil)))) (dg_tup rfl (dgs_cons (dg_name 1 sc_signed.nd) (dgs_cons (dg_name 2 sc_signed.nd) dgs_nil))))
    (dss_one (ds_ret (de_tup (da_cons (de_tup (da_cons (de_ix (hu_of hr) (de_var 1) de_int) (da_cons de_int (da_cons (de_ix (hu_of hr) (de_var 1) de_int) da_nil)))) (da_cons (de_tup (da_cons (de_ix (hu_of hr) (de_var 2) de_int) (da_cons (de_neg de_int) (da_cons (de_ix (hu_of hr) (de_var 2) de_int) da_nil)))) da_nil))))))
abbrev s_plain_of : Stmt := topS 11
theorem sc_plain_of : FnScope ["setting", "terms", "total", "first", "last", "mark", "size", "speed", "phase"] ["setting"] (defScope s_plain_of) := ⟨rfl, rfl, rfl, by decide +kernel, rfl, by decide +kernel, by decide +kernel⟩
theorem d_plain_of {P : Program} {w : World} {K : PySem.W.Frag} {mg : Str → Option Value} {base : Heap} {k : Nat} {fA : Addr} {fd : FuncData} (G : GF K w mg) (C_scaled : Cal P w K mg base k "scaled" phi_scaled) (C_signed : Cal P w K mg base k "signed" phi_signed) (C_summed : Cal P w K mg base k "summed" phi_summed) (C_terms_of : Cal P w K mg base k "terms_of" phi_terms_of) (F : Fun K "plain_of" "plain_of" s_plain_of fA fd) : Dfn P w K mg base (k + 1) fA fd ["setting"] phi_plain_of :=
  okD (O' := []) F sc_plain_of fun cdv A outer s H E B hr tk hgd hp => (dss_cons (O' := []) (ds_set 1 sc_plain_of.nd (C_terms_of.call hr hgd tk (da_cons (de_var 0) da_nil)))
    (dss_cons (O' := []) (ds_if (dt_cmp (dop_eq hr.units) (de_callB dc_len G.b_len bt_len (da_cons (de_var 1) da_nil)) de_int) (dss_one (ds_ret (de_tup (da_cons de_str (da_cons (de_ix (hu_of hr) (de_ix (hu_of hr) (de_var 1) de_int) de_int) da_nil))))) dss_nil)
    (dss_cons (O' := []) (ds_set 2 sc_plain_of.nd (de_bin dop_add (de_ix (hu_of hr) (de_ix (hu_of hr) (de_var 1) de_int) de_int) (de_ix (hu_of hr) (de_ix (hu_of hr) (de_var 1) de_int) de_int)))
    (dss_cons (O' := []) (ds_if (dt_cmp dop_lt (de_var 2) de_int) (dss_one (ds_set 1 sc_plain_of.nd (de_callTy dc_tuple G.b_tuple bt_tuple (da_cons (de_lc (.tup [6, 7, 8]) rfl sc_plain_of.nd (di_any (de_var 1)) (blkOk_by (own := [("size", 6), ("speed", 7), ("phase", 8)]) rfl) rfl (by decide) (fun s H C cl fp => (pg_tup rfl (pgs_cons (pgn 6 sc_plain_of.nd) (pgs_cons (pgn 7 sc_plain_of.nd) (pgs_cons (pgn 8 sc_plain_of.nd) pgs_nil))))) (fun s H C cl fp => dts_nil) (fun s H C cl fp => (de_tup (da_cons (de_var 6) (da_cons (de_neg (de_var 7)) (da_cons (de_var 8) da_nil)))))) da_nil)))) dss_nil)
    (dss_cons (O' := []) (ds_if (dt_cmp (dop_eq hr.units) (de_var 2) de_int) (dss_one (ds_set 1 sc_plain_of.nd (C_signed.call hr hgd tk (da_cons (de_var 1) da_nil)))) dss_nil)
    (dss_cons (O' := []) (ds_asg (de_if (dt_cmp dop_gt (de_ix (hu_of hr) (de_ix (hu_of hr) (de_var 1) de_int) de_int) (de_ix (hu_of hr) (de_ix (hu_of hr) (de_var 1) de_int) de_int)) (de_var 1) (de_tup (da_cons (de_ix (hu_of hr) (de_var 1) de_int) (da_cons (de_ix (hu_of hr) (de_var 1) de_int) da_nil)))) (dg_tup rfl (dgs_cons (dg_name 3 sc_plain_of.nd) (dgs_cons (dg_name 4 sc_plain_of.nd) dgs_nil))))
    (dss_cons (O' := []) (ds_set 5 sc_plain_of.nd (C_summed.call hr hgd tk (da_cons (C_scaled.call hr hgd tk (da_cons (de_ix (hu_of hr) (de_var 3) de_int) (da_cons (de_ix (hu_of hr) (de_var 4) de_int) da_nil))) (da_cons (C_scaled.call hr hgd tk (da_cons (de_neg (de_ix (hu_of hr) (de_var 4) de_int)) (da_cons (de_ix (hu_of hr) (de_var 3) de_int) da_nil))) da_nil))))
    (dss_one (ds_ret (de_tup (da_cons (de_ix (hu_of hr) (de_var 3) de_int) (da_cons (de_ix (hu_of hr) (de_var 3) de_int) (da_cons (de_ix (hu_of hr) (de_var 4) de_int) (da_cons (de_ix (hu_of hr) (de_var 4) de_int) (da_cons (de_var 5) da_nil)))))))))))))))
abbrev s_Line_plain : Stmt := inClass (topS 34) 2
theorem sc_Line_plain : FnScope ["self"] ["self"] (defScope s_Line_plain) := ⟨rfl, rfl, rfl, by decide +kernel, rfl, by decide +kernel, by decide +kernel⟩
theorem d_Line_plain {P : Program} {w : World} {K : PySem.W.Frag} {mg : Str → Option Value} {base : Heap} {k : Nat} {fA : Addr} {fd : FuncData} (G : GF K w mg) (C_plain_of : Cal P w K mg base (k + 1) "plain_of" phi_plain_of) (P_Line_setting : Prp P w K mg base k "Line" "setting" phi_Line_setting) (F : FunX K "plain" "Line.plain" s_Line_plain fA fd) : Dfn P w K mg base (k + 2) fA fd ["self"] phi_Line_plain :=
  okDX (O' := []) F sc_Line_plain fun cdv A outer s H E B hr tk hgd hp => (dss_one (ds_ret (C_plain_of.call hr hgd tk (da_cons (P_Line_setting.de hr hgd (de_var 0)) da_nil))))
abbrev s_check_line : Stmt := topS 35
theorem sc_check_line : FnScope ["value"] ["value"] (defScope s_check_line) := ⟨rfl, rfl, rfl, by decide +kernel, rfl, by decide +kernel, by decide +kernel⟩
theorem d_check_line {P : Program} {w : World} {K : PySem.W.Frag} {mg : Str → Option Value} {base : Heap} {k : Nat} {fA : Addr} {fd : FuncData} (G : GF K w mg) (F : Fun K "check_line" "check_line" s_check_line fA fd) : Dfn P w K mg base (k + 1) fA fd ["value"] phi_check_line :=
  okD (O' := []) F sc_check_line fun cdv A outer s H E B hr tk hgd hp => (dss_one (ds_if (dt_not (dt_truth (de_callB (dc_isC G.i_Line) G.b_isinstance bt_isinstance (da_cons (de_var 0) (da_cons (de_cls G.k_Line) da_nil))))) (dss_one ds_never) dss_nil))
abbrev s_same : Stmt := topS 36
theorem sc_same : FnScope ["line", "other"] ["line", "other"] (defScope s_same) := ⟨rfl, rfl, rfl, by decide +kernel, rfl, by decide +kernel, by decide +kernel⟩
theorem d_same {P : Program} {w : World} {K : PySem.W.Frag} {mg : Str → Option Value} {base : Heap} {k : Nat} {fA : Addr} {fd : FuncData} (G : GF K w mg) (C_check_line : Cal P w K mg base (k + 1) "check_line" phi_check_line) (P_Line_plain : Prp P w K mg base k "Line" "plain" phi_Line_plain) (F : Fun K "same" "same" s_same fA fd) : Dfn P w K mg base (k + 2) fA fd ["line", "other"] phi_same :=
  okD (O' := []) F sc_same fun cdv A outer s H E B hr tk hgd hp => (dss_cons (O' := []) (ds_expr (C_check_line.call hr hgd tk (da_cons (de_var 0) da_nil)))
    (dss_cons (O' := []) (ds_expr (C_check_line.call hr hgd tk (da_cons (de_var 1) da_nil)))
    (dss_one (ds_ret (de_cmp (dop_eq hr.units) (P_Line_plain.de hr hgd (de_var 0)) (P_Line_plain.de hr hgd (de_var 1)))))))
abbrev s_certify_same : Stmt := topS 77
theorem sc_certify_same : FnScope ["line", "other"] ["line", "other"] (defScope s_certify_same) := ⟨rfl, rfl, rfl, by decide +kernel, rfl, by decide +kernel, by decide +kernel⟩
theorem d_certify_same {P : Program} {w : World} {K : PySem.W.Frag} {mg : Str → Option Value} {base : Heap} {k : Nat} {fA : Addr} {fd : FuncData} (G : GF K w mg) (C_paper_for : Cal P w K mg base (k + 1) "paper_for" phi_paper_for) (C_same : Cal P w K mg base (k + 1) "same" phi_same) (P_Line_setting : Prp P w K mg base k "Line" "setting" phi_Line_setting) (F : Fun K "certify_same" "certify_same" s_certify_same fA fd) : Dfn P w K mg base (k + 2) fA fd ["line", "other"] phi_certify_same :=
  okD (O' := []) F sc_certify_same fun cdv A outer s H E B hr tk hgd hp => (dss_cons (O' := []) (ds_if (dt_not (dt_truth (C_same.call hr hgd tk (da_cons (de_var 0) (da_cons (de_var 1) da_nil))))) (dss_one (ds_ret de_non)) dss_nil)
    (dss_one (ds_ret (de_tup (da_cons (de_tup (da_cons de_str (da_cons (P_Line_setting.de hr hgd (de_var 0)) (da_cons (P_Line_setting.de hr hgd (de_var 1)) da_nil)))) (da_cons (C_paper_for.call hr hgd tk (da_cons (P_Line_setting.de hr hgd (de_var 0)) (da_cons (P_Line_setting.de hr hgd (de_var 1)) da_nil))) da_nil))))))
abbrev s__law_right : Stmt := topS 94
theorem sc__law_right : FnScope ["_law_jar", "_law_turn", "_law_told", "_law_again", "_law_near", "_law_pairs", "_law_asked", "_law_slip"] ["_law_jar"] (defScope s__law_right) := ⟨rfl, rfl, rfl, by decide +kernel, rfl, by decide +kernel, by decide +kernel⟩
noncomputable abbrev b__law_right : FS := (sSeq (sFor (fIterA dRg1 (fCons (fC (.int 5)) fNil)) (gNam 1) (sSeq (sSet 2 (fCall phi__law_set (fCons (fVar 0) (fCons (fCall phi__law_one (fCons (fVar 0) (fCons (fLst (fCons (fC (.int 6)) (fCons (fC (.int 40)) (fCons (f2 dPow (fC (.int 10)) (fC (.int 27))) fNil)))) fNil))) fNil))))
  (sFor (fIterA dRg1 (fCons (fC (.int 4)) fNil)) (gNam 3) (sSeq (sSet 4 (fCall phi__law_mate (fCons (fVar 0) (fCons (fVar 2) fNil))))
  (sSeq (sSet 5 (fLst (fCons (fCall phi_certify_same (fCons (fCall phi__law_line (fCons (fVar 2) fNil)) (fCons (fCall phi__law_line (fCons (fVar 4) fNil)) fNil))) (fCons (fCall (denK phi_certify_same 2 sw2) (fCons (fCall phi__law_line (fCons (fVar 4) fNil)) (fCons (fCall phi__law_line (fCons (fVar 2) fNil)) fNil))) fNil))))
  (sSeq (sIf (fOr (fBool (f2 dNeS (fCall dRepr (fCons (f2 dIx (fVar 5) (fC (.int 0))) fNil)) (fCall dRepr (fCons (f2 dIx (fVar 5) (fC (.int 1))) fNil)))) (fBool (f2 dNe (f2 dIsNot (f2 dIx (fVar 5) (fC (.int 0))) (fC .non)) (f2 dEq (fCall phi__law_form (fCons (fVar 2) fNil)) (fCall phi__law_form (fCons (fVar 4) fNil)))))) (sRet (fC (.bl false))) sSkip)
  (sIf (fBool (f2 dIsNot (f2 dIx (fVar 5) (fC (.int 0))) (fC .non))) (sSeq (sAsg (f2 dIx (fVar 5) (fC (.int 0))) (gTup 2 (gsCons (gNam 6) (gsCons (gNam 7) gsNil))))
  (sSeq (sIf (fOr (fBool (f2 dNeS (fCall dRepr (fCons (fVar 6) fNil)) (fCall dRepr (fCons (fTup (fCons (fC (.str "same line")) (fCons (fVar 2) (fCons (fVar 4) fNil)))) fNil)))) (fNot (fTru (fCall phi__law_is_shown (fCons (fVar 2) (fCons (fVar 4) (fCons (fVar 7) fNil))))))) (sRet (fC (.bl false))) sSkip)
  (sIf (fBool (f2 dIsNot (fCall phi_accepts (fCons (fVar 6) (fCons (fVar 7) fNil))) (fC (.bl true)))) (sRet (fC (.bl false))) sSkip))) sSkip)))))))
  (sRet (fC (.bl true))))
noncomputable def phi__law_right : Den := runDef 1 8 b__law_right
theorem d__law_right {P : Program} {w : World} {K : PySem.W.Frag} {mg : Str → Option Value} {base : Heap} {k : Nat} {fA : Addr} {fd : FuncData} (G : GF K w mg) (C__law_form : Cal P w K mg base k "_law_form" phi__law_form) (C__law_is_shown : Cal P w K mg base k "_law_is_shown" phi__law_is_shown) (C__law_line : Cal P w K mg base k "_law_line" phi__law_line) (C__law_mate : Cal P w K mg base k "_law_mate" phi__law_mate) (C__law_one : Cal P w K mg base k "_law_one" phi__law_one) (C__law_set : Cal P w K mg base k "_law_set" phi__law_set) (C_accepts : Cal P w K mg base k "accepts" phi_accepts) (C_certify_same : Cal P w K mg base k "certify_same" phi_certify_same) (K_certify_same : CalK P w K mg base k "certify_same" phi_certify_same ["other", "line"] sw2) (F : Fun K "_law_right" "_law_right" s__law_right fA fd) : Dfn P w K mg base (k + 1) fA fd ["_law_jar"] phi__law_right :=
  okD (O' := []) F sc__law_right fun cdv A outer s H E B hr tk hgd hp => (dss_cons (O' := []) (ds_for hp rfl (di_range1 G.b_range (da_cons de_int da_nil)) (dg_name 1 sc__law_right.nd) (dss_cons (O' := []) (ds_set 2 sc__law_right.nd (C__law_set.call hr hgd tk (da_cons (de_var 0) (da_cons (C__law_one.call hr hgd tk (da_cons (de_var 0) (da_cons (de_lst (da_cons de_int (da_cons de_int (da_cons (de_bin dop_pow de_int de_int) da_nil)))) da_nil))) da_nil))))
    (dss_one (ds_for hp rfl (di_range1 G.b_range (da_cons de_int da_nil)) (dg_name 3 sc__law_right.nd) (dss_cons (O' := []) (ds_set 4 sc__law_right.nd (C__law_mate.call hr hgd tk (da_cons (de_var 0) (da_cons (de_var 2) da_nil))))
    (dss_cons (O' := []) (ds_set 5 sc__law_right.nd (de_lst (da_cons (C_certify_same.call hr hgd tk (da_cons (C__law_line.call hr hgd tk (da_cons (de_var 2) da_nil)) (da_cons (C__law_line.call hr hgd tk (da_cons (de_var 4) da_nil)) da_nil))) (da_cons (K_certify_same.call hr hgd tk rfl (dk_cons (C__law_line.call hr hgd tk (da_cons (de_var 4) da_nil)) (dk_cons (C__law_line.call hr hgd tk (da_cons (de_var 2) da_nil)) dk_nil))) da_nil))))
    (dss_cons (O' := []) (ds_if (dw_pt (dw_or (dt_cmp dop_neS (de_callB (dc_repr hr.units hgd) G.b_repr bt_repr (da_cons (de_ix (hu_of hr) (de_var 5) de_int) da_nil)) (de_callB (dc_repr hr.units hgd) G.b_repr bt_repr (da_cons (de_ix (hu_of hr) (de_var 5) de_int) da_nil))) (dw_or1 (dt_cmp (dop_ne hr.units) (de_cmp dop_isNot (de_ix (hu_of hr) (de_var 5) de_int) de_non) (de_cmp (dop_eq hr.units) (C__law_form.call hr hgd tk (da_cons (de_var 2) da_nil)) (C__law_form.call hr hgd tk (da_cons (de_var 4) da_nil))))))) (dss_one (ds_ret de_bl)) dss_nil)
    (dss_one (ds_if (dt_cmp dop_isNot (de_ix (hu_of hr) (de_var 5) de_int) de_non) (dss_cons (O' := []) (ds_asg (de_ix (hu_of hr) (de_var 5) de_int) (dg_tup rfl (dgs_cons (dg_name 6 sc__law_right.nd) (dgs_cons (dg_name 7 sc__law_right.nd) dgs_nil))))
    (dss_cons (O' := []) (ds_if (dw_pt (dw_or (dt_cmp dop_neS (de_callB (dc_repr hr.units hgd) G.b_repr bt_repr (da_cons (de_var 6) da_nil)) (de_callB (dc_repr hr.units hgd) G.b_repr bt_repr (da_cons (de_tup (da_cons de_str (da_cons (de_var 2) (da_cons (de_var 4) da_nil)))) da_nil))) (dw_or1 (dt_not (dt_truth (C__law_is_shown.call hr hgd tk (da_cons (de_var 2) (da_cons (de_var 4) (da_cons (de_var 7) da_nil))))))))) (dss_one (ds_ret de_bl)) dss_nil)
    (dss_one (ds_if (dt_cmp dop_isNot (C_accepts.call hr hgd tk (da_cons (de_var 6) (da_cons (de_var 7) da_nil))) de_bl) (dss_one (ds_ret de_bl)) dss_nil)))) dss_nil)))))))))
    (dss_one (ds_ret de_bl)))
abbrev s_law : Stmt := topS 95
theorem sc_law : FnScope ["_law_script", "_law_turn"] ["_law_script"] (defScope s_law) := ⟨rfl, rfl, rfl, by decide +kernel, rfl, by decide +kernel, by decide +kernel⟩
noncomputable abbrev b_law : FS := (sRet (fCall dAll (fCons (fLc (fIterA dRg1 (fCons (fCall dMax2 (fCons (fC (.int 2)) (fCons (fCall dMin2 (fCons (fCall dLen (fCons (fVar 0) fNil)) (fCons (fC (.int 5)) fNil))) fNil))) fNil)) (.one 1) ftYes (fCall phi__law_right (fCons (fCall phi__law_poured (fCons (fVar 0) (fCons (fVar 1) fNil))) fNil))) fNil)))
noncomputable def phi_law : Den := runDef 1 2 b_law
theorem d_law {P : Program} {w : World} {K : PySem.W.Frag} {mg : Str → Option Value} {base : Heap} {k : Nat} {fA : Addr} {fd : FuncData} (G : GF K w mg) (C__law_poured : Cal P w K mg base k "_law_poured" phi__law_poured) (C__law_right : Cal P w K mg base k "_law_right" phi__law_right) (F : Fun K "law" "law" s_law fA fd) : Dfn P w K mg base (k + 1) fA fd ["_law_script"] phi_law :=
  okD (O' := []) F sc_law fun cdv A outer s H E B hr tk hgd hp => (dss_one (ds_ret (de_callB (dc_all rfl) G.b_all bt_all (da_cons (de_lc (.one 1) rfl sc_law.nd (di_range1 G.b_range (da_cons (de_callB (dc_max2 rfl) G.b_max bt_max (da_cons de_int (da_cons (de_callB (dc_min2 rfl) G.b_min bt_min (da_cons (de_callB dc_len G.b_len bt_len (da_cons (de_var 0) da_nil)) (da_cons de_int da_nil))) da_nil))) da_nil)) (blkOk_by (own := [("_law_turn", 1)]) rfl) rfl (by decide) (fun s H C cl fp => (pgn 1 sc_law.nd)) (fun s H C cl fp => dts_nil) (fun s H C cl fp => (C__law_right.call hr hgd takes0 (da_cons (C__law_poured.call hr hgd takes0 (da_cons (de_var 0) (da_cons (de_var 1) da_nil))) da_nil)))) da_nil))))
theorem all {P : Program} {w : World} {K : PySem.W.Frag} {mg : Str → Option Value} {h : Heap} {fa : Addr} (X : K.In h) (Gn : h.Ns mainGlobals mg) (G : GF K w mg) (hfa : mg "law" = some (.ref fa)) (D__law_poured : DefFact K "_law_poured" s__law_poured) (D__law_shared : DefFact K "_law_shared" s__law_shared) (D__law_part : DefFact K "_law_part" s__law_part) (D__law_form : DefFact K "_law_form" s__law_form) (D__law_arrows : DefFact K "_law_arrows" s__law_arrows) (D__law_is_part : DefFact K "_law_is_part" s__law_is_part) (D__law_is_shown : DefFact K "_law_is_shown" s__law_is_shown) (D_is_between : DefFact K "is_between" s_is_between) (D_is_one_of : DefFact K "is_one_of" s_is_one_of) (D_is_stroke : DefFact K "is_stroke" s_is_stroke) (D_wheel_fits : DefFact K "wheel_fits" s_wheel_fits) (D_Line___init__ : MthFact K "Line" "__init__" "Line.__init__" s_Line___init__) (B_Line___init__ : BndD K "Line" "__init__" "Line.__init__" s_Line___init__ ["self", "side", "ring", "wheel", "arm", "tooth"]) (D__law_line : DefFact K "_law_line" s__law_line) (D__law_sip : DefFact K "_law_sip" s__law_sip) (D__law_one : DefFact K "_law_one" s__law_one) (D__law_speeds : DefFact K "_law_speeds" s__law_speeds) (D__law_wide : DefFact K "_law_wide" s__law_wide) (D__law_set : DefFact K "_law_set" s__law_set) (D__law_twin : DefFact K "_law_twin" s__law_twin) (D__law_mate : DefFact K "_law_mate" s__law_mate) (D_common : DefFact K "common" s_common) (D_reduced : DefFact K "reduced" s_reduced) (D_scaled : DefFact K "scaled" s_scaled) (D_summed : DefFact K "summed" s_summed) (D_are_matched : DefFact K "are_matched" s_are_matched) (D_is_part : DefFact K "is_part" s_is_part) (D_terms_of : DefFact K "terms_of" s_terms_of) (D_is_same_line : DefFact K "is_same_line" s_is_same_line) (D_is_setting : DefFact K "is_setting" s_is_setting) (D_accepts : DefFact K "accepts" s_accepts) (D_Line_setting : PrpFact K "Line" "setting" "Line.setting" s_Line_setting) (D_inverse : DefFact K "inverse" s_inverse) (D_shift_of : DefFact K "shift_of" s_shift_of) (D_paper_for : DefFact K "paper_for" s_paper_for) (D_signed : DefFact K "signed" s_signed) (D_plain_of : DefFact K "plain_of" s_plain_of) (D_Line_plain : PrpFact K "Line" "plain" "Line.plain" s_Line_plain) (D_check_line : DefFact K "check_line" s_check_line) (D_same : DefFact K "same" s_same) (D_certify_same : DefFact K "certify_same" s_certify_same) (D__law_right : DefFact K "_law_right" s__law_right) (D_law : DefFact K "law" s_law) (Z_Line : MakeFact K "Line") :
    ∃ fd : FuncData, (∀ (s : Shared) (u : Value), BindsTo s fd ⟨[u], []⟩ [("_law_script", u)]) ∧ ∀ base : Heap, K.In base → base.Ns mainGlobals mg → FnG P w K mg base 11 fa fd ["_law_script"] (spD K mg phi_law) := by
  obtain ⟨f__law_poured, fd__law_poured, g__law_poured⟩ := D__law_poured.got X Gn
  obtain ⟨f__law_shared, fd__law_shared, g__law_shared⟩ := D__law_shared.got X Gn
  obtain ⟨f__law_part, fd__law_part, g__law_part⟩ := D__law_part.got X Gn
  obtain ⟨f__law_form, fd__law_form, g__law_form⟩ := D__law_form.got X Gn
  obtain ⟨f__law_arrows, fd__law_arrows, g__law_arrows⟩ := D__law_arrows.got X Gn
  obtain ⟨f__law_is_part, fd__law_is_part, g__law_is_part⟩ := D__law_is_part.got X Gn
  obtain ⟨f__law_is_shown, fd__law_is_shown, g__law_is_shown⟩ := D__law_is_shown.got X Gn
  obtain ⟨f_is_between, fd_is_between, g_is_between⟩ := D_is_between.got X Gn
  obtain ⟨f_is_one_of, fd_is_one_of, g_is_one_of⟩ := D_is_one_of.got X Gn
  obtain ⟨f_is_stroke, fd_is_stroke, g_is_stroke⟩ := D_is_stroke.got X Gn
  obtain ⟨f_wheel_fits, fd_wheel_fits, g_wheel_fits⟩ := D_wheel_fits.got X Gn
  obtain ⟨C_Line___init__, f_Line___init__, fd_Line___init__, g_Line___init__⟩ := D_Line___init__.got X Gn
  obtain ⟨f__law_line, fd__law_line, g__law_line⟩ := D__law_line.got X Gn
  obtain ⟨f__law_sip, fd__law_sip, g__law_sip⟩ := D__law_sip.got X Gn
  obtain ⟨f__law_one, fd__law_one, g__law_one⟩ := D__law_one.got X Gn
  obtain ⟨f__law_speeds, fd__law_speeds, g__law_speeds⟩ := D__law_speeds.got X Gn
  obtain ⟨f__law_wide, fd__law_wide, g__law_wide⟩ := D__law_wide.got X Gn
  obtain ⟨f__law_set, fd__law_set, g__law_set⟩ := D__law_set.got X Gn
  obtain ⟨f__law_twin, fd__law_twin, g__law_twin⟩ := D__law_twin.got X Gn
  obtain ⟨f__law_mate, fd__law_mate, g__law_mate⟩ := D__law_mate.got X Gn
  obtain ⟨f_common, fd_common, g_common⟩ := D_common.got X Gn
  obtain ⟨f_reduced, fd_reduced, g_reduced⟩ := D_reduced.got X Gn
  obtain ⟨f_scaled, fd_scaled, g_scaled⟩ := D_scaled.got X Gn
  obtain ⟨f_summed, fd_summed, g_summed⟩ := D_summed.got X Gn
  obtain ⟨f_are_matched, fd_are_matched, g_are_matched⟩ := D_are_matched.got X Gn
  obtain ⟨f_is_part, fd_is_part, g_is_part⟩ := D_is_part.got X Gn
  obtain ⟨f_terms_of, fd_terms_of, g_terms_of⟩ := D_terms_of.got X Gn
  obtain ⟨f_is_same_line, fd_is_same_line, g_is_same_line⟩ := D_is_same_line.got X Gn
  obtain ⟨f_is_setting, fd_is_setting, g_is_setting⟩ := D_is_setting.got X Gn
  obtain ⟨f_accepts, fd_accepts, g_accepts⟩ := D_accepts.got X Gn
  obtain ⟨C_Line_setting, p_Line_setting, f_Line_setting, fd_Line_setting, g_Line_setting, n_Line_setting⟩ := D_Line_setting.got X Gn
  obtain ⟨f_inverse, fd_inverse, g_inverse⟩ := D_inverse.got X Gn
  obtain ⟨f_shift_of, fd_shift_of, g_shift_of⟩ := D_shift_of.got X Gn
  obtain ⟨f_paper_for, fd_paper_for, g_paper_for⟩ := D_paper_for.got X Gn
  obtain ⟨f_signed, fd_signed, g_signed⟩ := D_signed.got X Gn
  obtain ⟨f_plain_of, fd_plain_of, g_plain_of⟩ := D_plain_of.got X Gn
  obtain ⟨C_Line_plain, p_Line_plain, f_Line_plain, fd_Line_plain, g_Line_plain, n_Line_plain⟩ := D_Line_plain.got X Gn
  obtain ⟨f_check_line, fd_check_line, g_check_line⟩ := D_check_line.got X Gn
  obtain ⟨f_same, fd_same, g_same⟩ := D_same.got X Gn
  obtain ⟨f_certify_same, fd_certify_same, g_certify_same⟩ := D_certify_same.got X Gn
  obtain ⟨f__law_right, fd__law_right, g__law_right⟩ := D__law_right.got X Gn
  obtain ⟨f_law, fd_law, g_law⟩ := D_law.got X Gn
  have e := hfa.symm.trans g_law.mg_
  cases e
  refine ⟨fd_law, fun s u => ?_, fun base _ _ => ?_⟩
  · obtain ⟨an, kV, dc, pm, cd, ct, rfl⟩ := g_law.fd_
    exact .of_eq rfl
  have F__law_poured := d__law_poured (P := P) (base := base) (k := 0) G g__law_poured.fn
  have C__law_poured := g__law_poured.cal F__law_poured (g__law_poured.binds fun _ _ _ _ _ _ us hl => match us, hl with | [_, _], _ => rfl)
  have F__law_shared := d__law_shared (P := P) (base := base) (k := 0) G g__law_shared.fn
  have C__law_shared := g__law_shared.cal F__law_shared (g__law_shared.binds fun _ _ _ _ _ _ us hl => match us, hl with | [_, _], _ => rfl)
  have F__law_part := d__law_part (P := P) (base := base) (k := 1) G (C__law_shared.mono (by decide)) g__law_part.fn
  have C__law_part := g__law_part.cal F__law_part (g__law_part.binds fun _ _ _ _ _ _ us hl => match us, hl with | [_, _], _ => rfl)
  have F__law_form := d__law_form (P := P) (base := base) (k := 2) G (C__law_part.mono (by decide)) (C__law_shared.mono (by decide)) g__law_form.fn
  have C__law_form := g__law_form.cal F__law_form (g__law_form.binds fun _ _ _ _ _ _ us hl => match us, hl with | [_], _ => rfl)
  have F__law_arrows := d__law_arrows (P := P) (base := base) (k := 2) G (C__law_part.mono (by decide)) (C__law_shared.mono (by decide)) g__law_arrows.fn
  have C__law_arrows := g__law_arrows.cal F__law_arrows (g__law_arrows.binds fun _ _ _ _ _ _ us hl => match us, hl with | [_], _ => rfl)
  have F__law_is_part := d__law_is_part (P := P) (base := base) (k := 2) G (C__law_part.mono (by decide)) g__law_is_part.fn
  have C__law_is_part := g__law_is_part.cal F__law_is_part (g__law_is_part.binds fun _ _ _ _ _ _ us hl => match us, hl with | [_], _ => rfl)
  have F__law_is_shown := d__law_is_shown (P := P) (base := base) (k := 3) G (C__law_arrows.mono (by decide)) (C__law_is_part.mono (by decide)) (C__law_part.mono (by decide)) g__law_is_shown.fn
  have C__law_is_shown := g__law_is_shown.cal F__law_is_shown (g__law_is_shown.binds fun _ _ _ _ _ _ us hl => match us, hl with | [_, _, _], _ => rfl)
  have F_is_between := d_is_between (P := P) (base := base) (k := 0) G g_is_between.fn
  have C_is_between := g_is_between.cal F_is_between (g_is_between.binds fun _ _ _ _ _ _ us hl => match us, hl with | [_, _, _], _ => rfl)
  have F_is_one_of := d_is_one_of (P := P) (base := base) (k := 0) G g_is_one_of.fn
  have C_is_one_of := g_is_one_of.cal F_is_one_of (g_is_one_of.binds fun _ _ _ _ _ _ us hl => match us, hl with | [_, _], _ => rfl)
  have F_is_stroke := d_is_stroke (P := P) (base := base) (k := 0) G g_is_stroke.fn
  have C_is_stroke := g_is_stroke.cal F_is_stroke (g_is_stroke.binds fun _ _ _ _ _ _ us hl => match us, hl with | [_, _, _, _], _ => rfl)
  have F_wheel_fits := d_wheel_fits (P := P) (base := base) (k := 0) G g_wheel_fits.fn
  have C_wheel_fits := g_wheel_fits.cal F_wheel_fits (g_wheel_fits.binds fun _ _ _ _ _ _ us hl => match us, hl with | [_, _, _], _ => rfl)
  have F_Line___init__ := d_Line___init__ (P := P) (base := base) (k := 1) G (C_is_between.mono (by decide)) (C_is_one_of.mono (by decide)) (C_is_stroke.mono (by decide)) (C_wheel_fits.mono (by decide)) g_Line___init__.fn
  have b_Line___init__ := B_Line___init__.binds X Gn g_Line___init__
  have M_Line := g_Line___init__.mkr' Z_Line X Gn F_Line___init__ b_Line___init__
  have F__law_line := d__law_line (P := P) (base := base) (k := 2) G (M_Line.mono (by decide)) g__law_line.fn
  have C__law_line := g__law_line.cal F__law_line (g__law_line.binds fun _ _ _ _ _ _ us hl => match us, hl with | [_], _ => rfl)
  have F__law_sip := d__law_sip (P := P) (base := base) (k := 0) G g__law_sip.fn
  have C__law_sip := g__law_sip.cal F__law_sip (g__law_sip.binds fun _ _ _ _ _ _ us hl => match us, hl with | [_, _], _ => rfl)
  have F__law_one := d__law_one (P := P) (base := base) (k := 1) G (C__law_sip.mono (by decide)) g__law_one.fn
  have C__law_one := g__law_one.cal F__law_one (g__law_one.binds fun _ _ _ _ _ _ us hl => match us, hl with | [_, _], _ => rfl)
  have F__law_speeds := d__law_speeds (P := P) (base := base) (k := 1) G (C__law_shared.mono (by decide)) (C__law_sip.mono (by decide)) g__law_speeds.fn
  have C__law_speeds := g__law_speeds.cal F__law_speeds (g__law_speeds.binds fun _ _ _ _ _ _ us hl => match us, hl with | [_, _], _ => rfl)
  have F__law_wide := d__law_wide (P := P) (base := base) (k := 1) G (C__law_sip.mono (by decide)) g__law_wide.fn
  have C__law_wide := g__law_wide.cal F__law_wide (g__law_wide.binds fun _ _ _ _ _ _ us hl => match us, hl with | [_, _], _ => rfl)
  have F__law_set := d__law_set (P := P) (base := base) (k := 2) G (C__law_one.mono (by decide)) (C__law_sip.mono (by decide)) (C__law_speeds.mono (by decide)) (C__law_wide.mono (by decide)) g__law_set.fn
  have C__law_set := g__law_set.cal F__law_set (g__law_set.binds fun _ _ _ _ _ _ us hl => match us, hl with | [_, _], _ => rfl)
  have F__law_twin := d__law_twin (P := P) (base := base) (k := 1) G (C__law_shared.mono (by decide)) g__law_twin.fn
  have C__law_twin := g__law_twin.cal F__law_twin (g__law_twin.binds fun _ _ _ _ _ _ us hl => match us, hl with | [_], _ => rfl)
  have F__law_mate := d__law_mate (P := P) (base := base) (k := 3) G (C__law_one.mono (by decide)) (C__law_set.mono (by decide)) (C__law_shared.mono (by decide)) (C__law_sip.mono (by decide)) (C__law_twin.mono (by decide)) (C__law_wide.mono (by decide)) g__law_mate.fn
  have C__law_mate := g__law_mate.cal F__law_mate (g__law_mate.binds fun _ _ _ _ _ _ us hl => match us, hl with | [_, _], _ => rfl)
  have F_common := d_common (P := P) (base := base) (k := 0) G g_common.fn
  have C_common := g_common.cal F_common (g_common.binds fun _ _ _ _ _ _ us hl => match us, hl with | [_, _], _ => rfl)
  have F_reduced := d_reduced (P := P) (base := base) (k := 1) G (C_common.mono (by decide)) g_reduced.fn
  have C_reduced := g_reduced.cal F_reduced (g_reduced.binds fun _ _ _ _ _ _ us hl => match us, hl with | [_, _], _ => rfl)
  have F_scaled := d_scaled (P := P) (base := base) (k := 2) G (C_reduced.mono (by decide)) g_scaled.fn
  have C_scaled := g_scaled.cal F_scaled (g_scaled.binds fun _ _ _ _ _ _ us hl => match us, hl with | [_, _], _ => rfl)
  have F_summed := d_summed (P := P) (base := base) (k := 2) G (C_reduced.mono (by decide)) g_summed.fn
  have C_summed := g_summed.cal F_summed (g_summed.binds fun _ _ _ _ _ _ us hl => match us, hl with | [_, _], _ => rfl)
  have F_are_matched := d_are_matched (P := P) (base := base) (k := 3) G (C_scaled.mono (by decide)) (C_summed.mono (by decide)) g_are_matched.fn
  have C_are_matched := g_are_matched.cal F_are_matched (g_are_matched.binds fun _ _ _ _ _ _ us hl => match us, hl with | [_, _, _], _ => rfl)
  have F_is_part := d_is_part (P := P) (base := base) (k := 2) G (C_is_between.mono (by decide)) (C_reduced.mono (by decide)) g_is_part.fn
  have C_is_part := g_is_part.cal F_is_part (g_is_part.binds fun _ _ _ _ _ _ us hl => match us, hl with | [_], _ => rfl)
  have F_terms_of := d_terms_of (P := P) (base := base) (k := 3) G (C_common.mono (by decide)) (C_reduced.mono (by decide)) (C_summed.mono (by decide)) g_terms_of.fn
  have C_terms_of := g_terms_of.cal F_terms_of (g_terms_of.binds fun _ _ _ _ _ _ us hl => match us, hl with | [_], _ => rfl)
  have F_is_same_line := d_is_same_line (P := P) (base := base) (k := 4) G (C_are_matched.mono (by decide)) (C_is_part.mono (by decide)) (C_terms_of.mono (by decide)) g_is_same_line.fn
  have C_is_same_line := g_is_same_line.cal F_is_same_line (g_is_same_line.binds fun _ _ _ _ _ _ us hl => match us, hl with | [_, _, _], _ => rfl)
  have F_is_setting := d_is_setting (P := P) (base := base) (k := 1) G (C_is_between.mono (by decide)) (C_is_one_of.mono (by decide)) (C_is_stroke.mono (by decide)) (C_wheel_fits.mono (by decide)) g_is_setting.fn
  have C_is_setting := g_is_setting.cal F_is_setting (g_is_setting.binds fun _ _ _ _ _ _ us hl => match us, hl with | [_, _], _ => rfl)
  have F_accepts := d_accepts (P := P) (base := base) (k := 5) G (C_is_same_line.mono (by decide)) (C_is_setting.mono (by decide)) g_accepts.fn
  have C_accepts := g_accepts.cal F_accepts (g_accepts.binds fun _ _ _ _ _ _ us hl => match us, hl with | [_, _], _ => rfl)
  have F_Line_setting := d_Line_setting (P := P) (base := base) (k := 0) G g_Line_setting.fn
  have b_Line_setting : Binds K fd_Line_setting ["self"] [] := n_Line_setting.binds fun _ _ _ _ _ _ us hl => match us, hl with | [_], _ => rfl
  have P_Line_setting := g_Line_setting.prp G.k_Line F_Line_setting b_Line_setting
  have F_inverse := d_inverse (P := P) (base := base) (k := 0) G g_inverse.fn
  have C_inverse := g_inverse.cal F_inverse (g_inverse.binds fun _ _ _ _ _ _ us hl => match us, hl with | [_, _], _ => rfl)
  have F_shift_of := d_shift_of (P := P) (base := base) (k := 3) G (C_inverse.mono (by decide)) (C_scaled.mono (by decide)) (C_summed.mono (by decide)) g_shift_of.fn
  have C_shift_of := g_shift_of.cal F_shift_of (g_shift_of.binds fun _ _ _ _ _ _ us hl => match us, hl with | [_, _], _ => rfl)
  have F_paper_for := d_paper_for (P := P) (base := base) (k := 5) G (C_is_same_line.mono (by decide)) (C_shift_of.mono (by decide)) (C_terms_of.mono (by decide)) g_paper_for.fn
  have C_paper_for := g_paper_for.cal F_paper_for (g_paper_for.binds fun _ _ _ _ _ _ us hl => match us, hl with | [_, _], _ => rfl)
  have F_signed := d_signed (P := P) (base := base) (k := 0) G g_signed.fn
  have C_signed := g_signed.cal F_signed (g_signed.binds fun _ _ _ _ _ _ us hl => match us, hl with | [_], _ => rfl)
  have F_plain_of := d_plain_of (P := P) (base := base) (k := 4) G (C_scaled.mono (by decide)) (C_signed.mono (by decide)) (C_summed.mono (by decide)) (C_terms_of.mono (by decide)) g_plain_of.fn
  have C_plain_of := g_plain_of.cal F_plain_of (g_plain_of.binds fun _ _ _ _ _ _ us hl => match us, hl with | [_], _ => rfl)
  have F_Line_plain := d_Line_plain (P := P) (base := base) (k := 4) G (C_plain_of.mono (by decide)) (P_Line_setting.mono (by decide)) g_Line_plain.fn
  have b_Line_plain : Binds K fd_Line_plain ["self"] [] := n_Line_plain.binds fun _ _ _ _ _ _ us hl => match us, hl with | [_], _ => rfl
  have P_Line_plain := g_Line_plain.prp G.k_Line F_Line_plain b_Line_plain
  have F_check_line := d_check_line (P := P) (base := base) (k := 0) G g_check_line.fn
  have C_check_line := g_check_line.cal F_check_line (g_check_line.binds fun _ _ _ _ _ _ us hl => match us, hl with | [_], _ => rfl)
  have F_same := d_same (P := P) (base := base) (k := 6) G (C_check_line.mono (by decide)) (P_Line_plain.mono (by decide)) g_same.fn
  have C_same := g_same.cal F_same (g_same.binds fun _ _ _ _ _ _ us hl => match us, hl with | [_, _], _ => rfl)
  have F_certify_same := d_certify_same (P := P) (base := base) (k := 7) G (C_paper_for.mono (by decide)) (C_same.mono (by decide)) (P_Line_setting.mono (by decide)) g_certify_same.fn
  have C_certify_same := g_certify_same.cal F_certify_same (g_certify_same.binds fun _ _ _ _ _ _ us hl => match us, hl with | [_, _], _ => rfl)
  have K_certify_same : CalK P w K mg base 9 "certify_same" phi_certify_same ["other", "line"] sw2 := by
    refine ⟨f_certify_same, fd_certify_same, _, fun _ ws => sw2 ws, fun _ ws => sw2 ws, F_certify_same, g_certify_same.mg_, ⟨fun s us ws _ h1 h2 => ?_, fun {vs us zs ws} _ r => ?_⟩, fun W ds vs r => ?_⟩
    · obtain ⟨an, kV, dc, pm, cd, ct, rfl⟩ := g_certify_same.fd_
      match us, ws, h1, h2 with
      | [], [_, _], _, _ => exact .of_eq rfl
    · exact calk2 r
    · exact calkd2 r
  have F__law_right := d__law_right (P := P) (base := base) (k := 9) G (C__law_form.mono (by decide)) (C__law_is_shown.mono (by decide)) (C__law_line.mono (by decide)) (C__law_mate.mono (by decide)) (C__law_one.mono (by decide)) (C__law_set.mono (by decide)) (C_accepts.mono (by decide)) (C_certify_same.mono (by decide)) (K_certify_same.mono (by decide)) g__law_right.fn
  have C__law_right := g__law_right.cal F__law_right (g__law_right.binds fun _ _ _ _ _ _ us hl => match us, hl with | [_], _ => rfl)
  have F_law := d_law (P := P) (base := base) (k := 10) G (C__law_poured.mono (by decide)) (C__law_right.mono (by decide)) g_law.fn
  exact F_law.ok
end K80
set_option maxRecDepth 100000
set_option maxHeartbeats 4000000
namespace K80
open PySem PySem.Spec PyProof.Rows L2 DL LB LC
theorem pou_is : LB.phi__law_poured = runDef 2 5 (pouW 50023 6373 67 2147483587 (pouB 29989 2147483587)) := rfl
theorem right_is : phi__law_right = runDef 1 8 (cerW (tuB ceB)) := rfl
theorem law_is : phi_law = runDef 1 2 (lawW phi__law_right LB.phi__law_poured 2 5) := rfl
theorem law_true (ns : List Int) (hl : ns.length ≤ 63) (hb : ∀ z ∈ ns, PySem.Builtin.Int.intBits z ≤ 1048576) : ∃ g, phi_law [scriptD ns] [] = .ok (.bl true) g := by
  rw [law_is]
  refine law_eq (by decide) (by decide) (by decide) fun t g ht => ?_
  obtain ⟨g1, e1, j⟩ := pou_eq hb (c0 := 50023) (c1 := 6373) (c2 := 67) (A := 29989) (P := 2147483587) ht (by decide) (by decide) (by decide) (by decide) (by decide) (by decide) (by decide) (by decide) g
  obtain ⟨g2, e2⟩ := cer_eq j (by decide)
  refine ⟨g2, ?_⟩
  rw [pou_is, e1, right_is]
  exact e2
end K80
open PySem PySem.W PyProof.Rows
set_option maxHeartbeats 0 in
theorem PySem.Challenge.cw_spirowheels_k80_whole_same_lines_certifi_holds : PySem.Challenge.rw_spirowheels_k80_whole_same_lines_certifi.Holds := by
  w_on; o_law; k_head; (case hw => w_witness2)
  k_fill
  refine DL.walk_ofD (l := PySem.Challenge.rw_spirowheels_k80_whole_same_lines_certifi) (n := 63) (k := 11) (x := "_law_script") K80.phi_law rfl (by decide) rfl ⟨rfl, by decide, by decide⟩ (fun w h Y => PySem.W.kIn_of Y) K80.law_true ?F
  case F =>
    intro w mg fa h KX G hmg
    refine' K80.all KX G ?GF hmg ?D0 ?D1 ?D2 ?D3 ?D4 ?D5 ?D6 ?D7 ?D8 ?D9 ?D10 ?D11 ?B11 ?D12 ?D13 ?D14 ?D15 ?D16 ?D17 ?D18 ?D19 ?D20 ?D21 ?D22 ?D23 ?D24 ?D25 ?D26 ?D27 ?D28 ?D29 ?D30 ?D31 ?D32 ?D33 ?D34 ?D35 ?D36 ?D37 ?D38 ?D39 ?D40 ?D41 ?Z0
    case GF =>
      refine' {b_abs := DL.none_of KX G ?b0, b_all := DL.none_of KX G ?b1, b_bool := DL.none_of KX G ?b2, b_divmod := DL.none_of KX G ?b3, b_int := DL.none_of KX G ?b4, b_isinstance := DL.none_of KX G ?b5, b_len := DL.none_of KX G ?b6, b_max := DL.none_of KX G ?b7, b_min := DL.none_of KX G ?b8, b_range := DL.none_of KX G ?b9, b_repr := DL.none_of KX G ?b10, b_str := DL.none_of KX G ?b11, b_tuple := DL.none_of KX G ?b12, b_zip := DL.none_of KX G ?b13, c_GREATEST := ?c0, c_LENGTHS := ?c1, c_SIDES := ?c2, k_Line := DL.ClsFact.clsf KX G ?k0, i_Line := DL.InsFact.insf KX G ?k0 ?i0, f_Line_arm := DL.FldFact.fldf KX G ?k0 ?f0, f_Line_ring := DL.FldFact.fldf KX G ?k0 ?f1, f_Line_side := DL.FldFact.fldf KX G ?k0 ?f2, f_Line_tooth := DL.FldFact.fldf KX G ?k0 ?f3, f_Line_wheel := DL.FldFact.fldf KX G ?k0 ?f4}
      (case k0 => refine' DL.ClsFact.mk' ?a ?b ?d ?e ?f; (case a => k_is); (case b => k_is); (case d => k_is); (case e => k_is); (case f => k_is))
      (case i0 => refine' DL.InsFact.mk' ?a ?b ?d ?e ?f; (case a => k_is); (case b => k_is); (case d => k_is); (case e => k_is); (case f => k_is))
      (case f0 => refine' DL.FldFact.mk' ?a ?b; (case a => k_is); (case b => k_is))
      (case f1 => refine' DL.FldFact.mk' ?a ?b; (case a => k_is); (case b => k_is))
      (case f2 => refine' DL.FldFact.mk' ?a ?b; (case a => k_is); (case b => k_is))
      (case f3 => refine' DL.FldFact.mk' ?a ?b; (case a => k_is); (case b => k_is))
      (case f4 => refine' DL.FldFact.mk' ?a ?b; (case a => k_is); (case b => k_is))
      (case b0 => k_is)
      (case b1 => k_is)
      (case b2 => k_is)
      (case b3 => k_is)
      (case b4 => k_is)
      (case b5 => k_is)
      (case b6 => k_is)
      (case b7 => k_is)
      (case b8 => k_is)
      (case b9 => k_is)
      (case b10 => k_is)
      (case b11 => k_is)
      (case b12 => k_is)
      (case b13 => k_is)
      (case c0 => refine' DL.kint_of KX G ?e; (case e => k_is))
      (case c1 => refine' DL.kd3_of KX G ?e ?l ?k ?low ?f1 ?f2 ?f3; (case e => k_is); (case l => k_is); (case k => exact ⟨⟨_, _, rfl, rfl⟩, ⟨_, _, rfl, rfl⟩, ⟨_, _, rfl, rfl⟩, trivial⟩); (case low => rfl); (case f1 => k_is); (case f2 => k_is); (case f3 => k_is))
      (case c2 => refine' DL.ktup_of KX G ?e2 ?l2 ?c2 ?d2 ?z2 ?r2; (case e2 => k_is); (case l2 => k_is); (case c2 => rfl); (case d2 => rfl); (case z2 => decide); (case r2 => exact (.cons ⟨_, rfl⟩ (.cons ⟨_, rfl⟩ (.cons ⟨_, rfl⟩ .nil)))))
    (case Z0 => refine' DL.MakeFact.mk' ?a ?b ?d; (case a => k_is); (case b => k_is); (case d => k_is))
    (case D0 => refine' DL.DefFact.mk' ?a ?l ?c ?k; (case a => k_is); (case l => k_is); (case c => k_is); (case k => k_is))
    (case D1 => refine' DL.DefFact.mk' ?a ?l ?c ?k; (case a => k_is); (case l => k_is); (case c => k_is); (case k => k_is))
    (case D2 => refine' DL.DefFact.mk' ?a ?l ?c ?k; (case a => k_is); (case l => k_is); (case c => k_is); (case k => k_is))
    (case D3 => refine' DL.DefFact.mk' ?a ?l ?c ?k; (case a => k_is); (case l => k_is); (case c => k_is); (case k => k_is))
    (case D4 => refine' DL.DefFact.mk' ?a ?l ?c ?k; (case a => k_is); (case l => k_is); (case c => k_is); (case k => k_is))
    (case D5 => refine' DL.DefFact.mk' ?a ?l ?c ?k; (case a => k_is); (case l => k_is); (case c => k_is); (case k => k_is))
    (case D6 => refine' DL.DefFact.mk' ?a ?l ?c ?k; (case a => k_is); (case l => k_is); (case c => k_is); (case k => k_is))
    (case D7 => refine' DL.DefFact.mk' ?a ?l ?c ?k; (case a => k_is); (case l => k_is); (case c => k_is); (case k => k_is))
    (case D8 => refine' DL.DefFact.mk' ?a ?l ?c ?k; (case a => k_is); (case l => k_is); (case c => k_is); (case k => k_is))
    (case D9 => refine' DL.DefFact.mk' ?a ?l ?c ?k; (case a => k_is); (case l => k_is); (case c => k_is); (case k => k_is))
    (case D10 => refine' DL.DefFact.mk' ?a ?l ?c ?k; (case a => k_is); (case l => k_is); (case c => k_is); (case k => k_is))
    (case B11 => refine' DL.BndD.mk' ?a ?i ?l ?t ?o ?h; (case a => k_is); (case i => k_is); (case l => k_is); (case t => k_is); (case o => rfl); (case h => exact fun us hl => match us, hl with | [_, _, _, _, _, _], _ => ⟨_, rfl, rfl⟩))
    (case D11 => refine' DL.MthFact.mk' ?a ?i ?j ?l ?c ?k; (case a => k_is); (case i => k_is); (case j => k_is); (case l => k_is); (case c => k_is); (case k => k_is))
    (case D12 => refine' DL.DefFact.mk' ?a ?l ?c ?k; (case a => k_is); (case l => k_is); (case c => k_is); (case k => k_is))
    (case D13 => refine' DL.DefFact.mk' ?a ?l ?c ?k; (case a => k_is); (case l => k_is); (case c => k_is); (case k => k_is))
    (case D14 => refine' DL.DefFact.mk' ?a ?l ?c ?k; (case a => k_is); (case l => k_is); (case c => k_is); (case k => k_is))
    (case D15 => refine' DL.DefFact.mk' ?a ?l ?c ?k; (case a => k_is); (case l => k_is); (case c => k_is); (case k => k_is))
    (case D16 => refine' DL.DefFact.mk' ?a ?l ?c ?k; (case a => k_is); (case l => k_is); (case c => k_is); (case k => k_is))
    (case D17 => refine' DL.DefFact.mk' ?a ?l ?c ?k; (case a => k_is); (case l => k_is); (case c => k_is); (case k => k_is))
    (case D18 => refine' DL.DefFact.mk' ?a ?l ?c ?k; (case a => k_is); (case l => k_is); (case c => k_is); (case k => k_is))
    (case D19 => refine' DL.DefFact.mk' ?a ?l ?c ?k; (case a => k_is); (case l => k_is); (case c => k_is); (case k => k_is))
    (case D20 => refine' DL.DefFact.mk' ?a ?l ?c ?k; (case a => k_is); (case l => k_is); (case c => k_is); (case k => k_is))
    (case D21 => refine' DL.DefFact.mk' ?a ?l ?c ?k; (case a => k_is); (case l => k_is); (case c => k_is); (case k => k_is))
    (case D22 => refine' DL.DefFact.mk' ?a ?l ?c ?k; (case a => k_is); (case l => k_is); (case c => k_is); (case k => k_is))
    (case D23 => refine' DL.DefFact.mk' ?a ?l ?c ?k; (case a => k_is); (case l => k_is); (case c => k_is); (case k => k_is))
    (case D24 => refine' DL.DefFact.mk' ?a ?l ?c ?k; (case a => k_is); (case l => k_is); (case c => k_is); (case k => k_is))
    (case D25 => refine' DL.DefFact.mk' ?a ?l ?c ?k; (case a => k_is); (case l => k_is); (case c => k_is); (case k => k_is))
    (case D26 => refine' DL.DefFact.mk' ?a ?l ?c ?k; (case a => k_is); (case l => k_is); (case c => k_is); (case k => k_is))
    (case D27 => refine' DL.DefFact.mk' ?a ?l ?c ?k; (case a => k_is); (case l => k_is); (case c => k_is); (case k => k_is))
    (case D28 => refine' DL.DefFact.mk' ?a ?l ?c ?k; (case a => k_is); (case l => k_is); (case c => k_is); (case k => k_is))
    (case D29 => refine' DL.DefFact.mk' ?a ?l ?c ?k; (case a => k_is); (case l => k_is); (case c => k_is); (case k => k_is))
    (case D30 => refine' DL.PrpFact.mk' ?a ?i ?g ?t ?r ?l ?c ?k; (case a => k_is); (case i => k_is); (case g => k_is); (case t => k_is); (case r => k_is); (case l => k_is); (case c => k_is); (case k => k_is))
    (case D31 => refine' DL.DefFact.mk' ?a ?l ?c ?k; (case a => k_is); (case l => k_is); (case c => k_is); (case k => k_is))
    (case D32 => refine' DL.DefFact.mk' ?a ?l ?c ?k; (case a => k_is); (case l => k_is); (case c => k_is); (case k => k_is))
    (case D33 => refine' DL.DefFact.mk' ?a ?l ?c ?k; (case a => k_is); (case l => k_is); (case c => k_is); (case k => k_is))
    (case D34 => refine' DL.DefFact.mk' ?a ?l ?c ?k; (case a => k_is); (case l => k_is); (case c => k_is); (case k => k_is))
    (case D35 => refine' DL.DefFact.mk' ?a ?l ?c ?k; (case a => k_is); (case l => k_is); (case c => k_is); (case k => k_is))
    (case D36 => refine' DL.PrpFact.mk' ?a ?i ?g ?t ?r ?l ?c ?k; (case a => k_is); (case i => k_is); (case g => k_is); (case t => k_is); (case r => k_is); (case l => k_is); (case c => k_is); (case k => k_is))
    (case D37 => refine' DL.DefFact.mk' ?a ?l ?c ?k; (case a => k_is); (case l => k_is); (case c => k_is); (case k => k_is))
    (case D38 => refine' DL.DefFact.mk' ?a ?l ?c ?k; (case a => k_is); (case l => k_is); (case c => k_is); (case k => k_is))
    (case D39 => refine' DL.DefFact.mk' ?a ?l ?c ?k; (case a => k_is); (case l => k_is); (case c => k_is); (case k => k_is))
    (case D40 => refine' DL.DefFact.mk' ?a ?l ?c ?k; (case a => k_is); (case l => k_is); (case c => k_is); (case k => k_is))
    (case D41 => refine' DL.DefFact.mk' ?a ?l ?c ?k; (case a => k_is); (case l => k_is); (case c => k_is); (case k => k_is))
