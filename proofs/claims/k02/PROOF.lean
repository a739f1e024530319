import PyProof.Rows.All
import Wide.All
import OpenK.AllK
import Wide.FinOn
import HandS.Base
import HandS.Call
import HandS.List
import HandS.Dict
import HandS.Words
import HandS.WordsList
import HandS.Wide
import HandS.Deep
import HandS.Text
import HandS.Exc
import HandS.Comp
import HandS.ExcOwn
import HandS.WordsExc
import HandS.TryOnly
import HandS.More
import HandS.Style
import HandS.Strs
import HandS.SortInts
import HandS.IsInst
import KE.SortData
import HandS.Zip
import HandS.Conv
import PySem.Challenge.RW_rootcheap_k02_trees_known
set_option Elab.async false
set_option linter.all false
set_option maxRecDepth 100000
set_option maxHeartbeats 4000000
/-! DWa: pure data, the store of a def's names as pure data, how both stand for slots and heap. -/
namespace DW
open PySem L2

/-- pure data; scr: a list of ints that is only read; ins: an instance by its class and attributes -/
inductive D where
  | non | bl (b : Bool) | int (i : Int) | str (x : Str)
  | lst (xs : List D) | tup (xs : List D) | scr (ns : List Int)
  | dct (kvs : List (Key × D)) | ins (C : Addr) (fs : List (Str × D))

mutual
/-- the value v stands for the data, read off the part S of the heap -/
def Rp (K : PySem.W.Frag) (S : Hp) : D → V → Prop
  | .non, v => v = .non
  | .bl b, v => v = .bl b
  | .int i, v => v = .int i
  | .str x, v => v = .str x
  | .lst xs, v => ∃ a vs, v = .ref a ∧ S a = some (.lst vs) ∧ RpL K S xs vs
  | .tup xs, v => ∃ a vs, v = .ref a ∧ SqT K S a vs ∧ RpL K S xs vs
  | .scr ns, v => ∃ a, v = .ref a ∧ SqL K S a (ns.map V.int)
  | .dct kvs, v => ∃ a ws, v = .ref a ∧ S a = some (.dK ws) ∧ RpK K S kvs ws
  | .ins C fs, v => ∃ a dx ws, v = .ref a ∧ S a = some (.ins C dx ws) ∧ RpF K S fs ws
def RpL (K : PySem.W.Frag) (S : Hp) : List D → List V → Prop
  | [], vs => vs = []
  | x :: xs, vs => ∃ v ws, vs = v :: ws ∧ Rp K S x v ∧ RpL K S xs ws
def RpK (K : PySem.W.Frag) (S : Hp) : List (Key × D) → List (Key × V) → Prop
  | [], vs => vs = []
  | (k, x) :: xs, vs => ∃ v ws, vs = (k, v) :: ws ∧ Rp K S x v ∧ RpK K S xs ws
def RpF (K : PySem.W.Frag) (S : Hp) : List (Str × D) → List (Str × V) → Prop
  | [], vs => vs = []
  | (k, x) :: xs, vs => ∃ v ws, vs = (k, v) :: ws ∧ Rp K S x v ∧ RpF K S xs ws
end

theorem sqT_mono {K : PySem.W.Frag} {S S' : Hp} {a : Addr} {xs : List V} (e : Same S S') (h : SqT K S a xs) : SqT K S' a xs := by
  rcases h with (h | ⟨o, h⟩) | h
  · exact .inl (.inl (e _ _ h))
  · exact .inl (.inr ⟨o, e _ _ h⟩)
  · exact .inr h

mutual
theorem Rp.mono {K : PySem.W.Frag} {S S' : Hp} (e : Same S S') : ∀ {x : D} {v : V}, Rp K S x v → Rp K S' x v
  | .non, _, h => h
  | .bl _, _, h => h
  | .int _, _, h => h
  | .str _, _, h => h
  | .lst _, _, ⟨a, vs, h1, h2, h3⟩ => ⟨a, vs, h1, e _ _ h2, RpL.mono e h3⟩
  | .tup _, _, ⟨a, vs, h1, h2, h3⟩ => ⟨a, vs, h1, sqT_mono e h2, RpL.mono e h3⟩
  | .scr _, _, ⟨a, h1, h2⟩ => ⟨a, h1, e.seq h2⟩
  | .dct _, _, ⟨a, vs, h1, h2, h3⟩ => ⟨a, vs, h1, e _ _ h2, RpK.mono e h3⟩
  | .ins _ _, _, ⟨a, dx, vs, h1, h2, h3⟩ => ⟨a, dx, vs, h1, e _ _ h2, RpF.mono e h3⟩
theorem RpL.mono {K : PySem.W.Frag} {S S' : Hp} (e : Same S S') : ∀ {x : List D} {v : List V}, RpL K S x v → RpL K S' x v
  | [], _, h => h
  | _ :: _, _, ⟨v, ws, h1, h2, h3⟩ => ⟨v, ws, h1, Rp.mono e h2, RpL.mono e h3⟩
theorem RpK.mono {K : PySem.W.Frag} {S S' : Hp} (e : Same S S') : ∀ {x : List (Key × D)} {v : List (Key × V)}, RpK K S x v → RpK K S' x v
  | [], _, h => h
  | (_, _) :: _, _, ⟨v, ws, h1, h2, h3⟩ => ⟨v, ws, h1, Rp.mono e h2, RpK.mono e h3⟩
theorem RpF.mono {K : PySem.W.Frag} {S S' : Hp} (e : Same S S') : ∀ {x : List (Str × D)} {v : List (Str × V)}, RpF K S x v → RpF K S' x v
  | [], _, h => h
  | (_, _) :: _, _, ⟨v, ws, h1, h2, h3⟩ => ⟨v, ws, h1, Rp.mono e h2, RpF.mono e h3⟩
end

section
variable {K : PySem.W.Frag} {S : Hp}
theorem RpL.length : ∀ {xs : List D} {vs : List V}, RpL K S xs vs → vs.length = xs.length
  | [], _, h => by rw [h]; rfl
  | _ :: _, _, ⟨v, ws, h1, _, h3⟩ => by rw [h1, List.length_cons, List.length_cons, RpL.length h3]
theorem RpL.get : ∀ {xs : List D} {vs : List V} {i : Nat} {x : D}, RpL K S xs vs → xs[i]? = some x → ∃ v, vs[i]? = some v ∧ Rp K S x v
  | [], _, _, _, _, e => by simp at e
  | _ :: _, _, 0, _, ⟨v, ws, h1, h2, h3⟩, e => by simp at e; subst e; exact ⟨v, by rw [h1]; rfl, h2⟩
  | _ :: _, _, i + 1, _, ⟨v, ws, h1, h2, h3⟩, e => by
    obtain ⟨u, a, b⟩ := RpL.get (i := i) h3 (by simpa using e)
    exact ⟨u, by rw [h1]; simpa using a, b⟩
theorem RpL.getV : ∀ {xs : List D} {vs : List V} {i : Nat} {v : V}, RpL K S xs vs → vs[i]? = some v → ∃ x, xs[i]? = some x ∧ Rp K S x v
  | [], _, _, _, h, e => by rw [h] at e; simp at e
  | x :: _, _, 0, _, ⟨v, ws, h1, h2, h3⟩, e => by rw [h1] at e; simp at e; subst e; exact ⟨x, rfl, h2⟩
  | _ :: _, _, i + 1, _, ⟨v, ws, h1, h2, h3⟩, e => by
    obtain ⟨u, a, b⟩ := RpL.getV (i := i) h3 (by rw [h1] at e; simpa using e)
    exact ⟨u, by simpa using a, b⟩
theorem RpL.append : ∀ {xs ys : List D} {vs ws : List V}, RpL K S xs vs → RpL K S ys ws → RpL K S (xs ++ ys) (vs ++ ws)
  | [], _, _, _, h, g => by rw [h]; exact g
  | _ :: _, _, _, _, ⟨v, ws, h1, h2, h3⟩, g => by
    rw [h1]
    exact ⟨v, _, rfl, h2, RpL.append h3 g⟩
theorem RpL.one {x : D} {v : V} (h : Rp K S x v) : RpL K S [x] [v] := ⟨v, [], rfl, h, rfl⟩
theorem RpL.nil : RpL K S [] [] := rfl
theorem RpL.cons {x : D} {v : V} {xs : List D} {vs : List V} (h : Rp K S x v) (t : RpL K S xs vs) : RpL K S (x :: xs) (v :: vs) := ⟨v, vs, rfl, h, t⟩
theorem RpL.set : ∀ {xs : List D} {vs : List V} (i : Nat) {x : D} {v : V}, RpL K S xs vs → Rp K S x v → RpL K S (xs.set i x) (vs.set i v)
  | [], _, _, _, _, h, _ => by rw [h]; exact rfl
  | _ :: _, _, 0, _, _, ⟨v, ws, h1, h2, h3⟩, g => by rw [h1]; exact ⟨_, _, rfl, g, h3⟩
  | _ :: _, _, i + 1, _, _, ⟨v, ws, h1, h2, h3⟩, g => by rw [h1]; exact ⟨_, _, rfl, h2, RpL.set i h3 g⟩
theorem RpL.take : ∀ {xs : List D} {vs : List V} (i : Nat), RpL K S xs vs → RpL K S (xs.take i) (vs.take i)
  | _, _, 0, _ => by simp [RpL]
  | [], _, _ + 1, h => by rw [h]; simp [RpL]
  | _ :: _, _, i + 1, ⟨v, ws, h1, h2, h3⟩ => by rw [h1]; exact ⟨_, _, rfl, h2, RpL.take i h3⟩
theorem RpL.drop : ∀ {xs : List D} {vs : List V} (i : Nat), RpL K S xs vs → RpL K S (xs.drop i) (vs.drop i)
  | _, _, 0, h => h
  | [], _, _ + 1, h => by rw [h]; simp [RpL]
  | _ :: _, _, i + 1, ⟨v, ws, h1, h2, h3⟩ => by rw [h1]; exact RpL.drop i h3
theorem RpL.eraseIdx : ∀ {xs : List D} {vs : List V} (i : Nat), RpL K S xs vs → RpL K S (xs.eraseIdx i) (vs.eraseIdx i)
  | [], _, _, h => by rw [h]; simp [RpL]
  | _ :: _, _, 0, ⟨v, ws, h1, h2, h3⟩ => by rw [h1]; exact h3
  | _ :: _, _, i + 1, ⟨v, ws, h1, h2, h3⟩ => by rw [h1]; exact ⟨_, _, rfl, h2, RpL.eraseIdx i h3⟩
theorem RpL.reverse {xs : List D} {vs : List V} (h : RpL K S xs vs) : RpL K S xs.reverse vs.reverse := by
  induction xs generalizing vs with
  | nil => rw [h]; exact rfl
  | cons x xs ih =>
    obtain ⟨v, ws, h1, h2, h3⟩ := h
    rw [h1, List.reverse_cons, List.reverse_cons]
    exact RpL.append (ih h3) (RpL.one h2)
theorem RpL.dropLast {xs : List D} {vs : List V} (h : RpL K S xs vs) : RpL K S xs.dropLast vs.dropLast := by
  rw [List.dropLast_eq_take, List.dropLast_eq_take, h.length]
  exact h.take _
theorem RpL.flatten : ∀ (k : Nat) {xs : List D} {vs : List V}, RpL K S xs vs → RpL K S (List.replicate k xs).flatten (List.replicate k vs).flatten
  | 0, _, _, _ => by simp [RpL]
  | k + 1, _, _, h => by
    rw [List.replicate_succ, List.replicate_succ, List.flatten_cons, List.flatten_cons]
    exact RpL.append h (RpL.flatten k h)
theorem RpL.int : ∀ {ns : List Int}, RpL K S (ns.map D.int) (ns.map V.int)
  | [] => rfl
  | n :: ns => ⟨V.int n, ns.map V.int, rfl, rfl, RpL.int⟩
theorem RpL.int_inv : ∀ {ns : List Int} {vs : List V}, RpL K S (ns.map D.int) vs → vs = ns.map V.int
  | [], _, h => h
  | n :: ns, _, ⟨v, ws, h1, h2, h3⟩ => by
    have e : v = V.int n := h2
    rw [h1, e, RpL.int_inv h3]
    rfl
theorem RpL.str_inv : ∀ {ns : List Str} {vs : List V}, RpL K S (ns.map D.str) vs → vs = ns.map V.str
  | [], _, h => h
  | n :: ns, _, ⟨v, ws, h1, h2, h3⟩ => by
    have e : v = V.str n := h2
    rw [h1, e, RpL.str_inv h3]
    rfl
theorem RpF.lookup : ∀ {xs : List (Str × D)} {vs : List (Str × V)} {f : Str}, RpF K S xs vs → (∀ x, xs.lookup f = some x → ∃ v, vs.lookup f = some v ∧ Rp K S x v) ∧ (xs.lookup f = none → vs.lookup f = none)
  | [], _, f, h => by rw [h]; exact ⟨fun x e => (by cases e), fun _ => rfl⟩
  | (k, y) :: xs, _, f, ⟨v, ws, h1, h2, h3⟩ => by
    rw [h1, List.lookup_cons, List.lookup_cons]
    cases f == k with
    | true => exact ⟨fun x e => ⟨v, rfl, (by cases e; exact h2)⟩, fun e => (by cases e)⟩
    | false => exact RpF.lookup h3
theorem RpF.length : ∀ {xs : List (Str × D)} {vs : List (Str × V)}, RpF K S xs vs → vs.length = xs.length
  | [], _, h => by rw [h]; rfl
  | (_, _) :: _, _, ⟨v, ws, h1, _, h3⟩ => by rw [h1, List.length_cons, List.length_cons, RpF.length h3]
/-- a stored attribute, by data -/
def putFD (f : Str) (y : D) : List (Str × D) → List (Str × D)
  | [] => [(f, y)]
  | (k, z) :: r => if k = f then (k, y) :: r else (k, z) :: putFD f y r
theorem RpF.put : ∀ {xs : List (Str × D)} {vs : List (Str × V)} (f : Str) {y : D} {v : V}, RpF K S xs vs → Rp K S y v → RpF K S (putFD f y xs) (putF f v vs)
  | [], _, f, y, v, h, g => by rw [h]; exact ⟨v, [], rfl, g, rfl⟩
  | (k, z) :: xs, _, f, y, v, ⟨u, ws, h1, h2, h3⟩, g => by
    rw [h1]
    show RpF K S (if k = f then (k, y) :: xs else (k, z) :: putFD f y xs) (if k = f then (k, v) :: ws else (k, u) :: putF f v ws)
    by_cases e : k = f
    · rw [if_pos e, if_pos e]
      exact ⟨v, ws, rfl, g, h3⟩
    · rw [if_neg e, if_neg e]
      exact ⟨u, _, rfl, h2, RpF.put f h3 g⟩
theorem RpK.keys : ∀ {xs : List (Key × D)} {vs : List (Key × V)}, RpK K S xs vs → vs.map (·.1) = xs.map (·.1)
  | [], _, h => by rw [h]; rfl
  | (_, _) :: _, _, ⟨v, ws, h1, _, h3⟩ => by rw [h1, List.map_cons, List.map_cons, RpK.keys h3]
theorem RpK.length {xs : List (Key × D)} {vs : List (Key × V)} (h : RpK K S xs vs) : vs.length = xs.length := by
  have e := congrArg List.length h.keys
  simpa using e
end

/-- a thing that a name owns: a list, a dict, an instance -/
inductive OO where
  | l (xs : List D) | k (kvs : List (Key × D)) | i (C : Addr) (fs : List (Str × D))
def OO.toD : OO → D
  | .l xs => .lst xs
  | .k kvs => .dct kvs
  | .i C fs => .ins C fs
/-- what a slot holds: nothing that is told; data; a thing of its own; a thing handed in by reference -/
inductive SV where
  | un | d (x : D) | ow (o : OO) | rf (o : OO)
/-- what an expression gives: data; a new thing that nobody else holds; the thing in a slot -/
inductive DV where
  | d (x : D) | fr (o : OO) | sl (i : Nat)
def SV.oo : SV → Option OO
  | .ow o => some o
  | .rf o => some o
  | _ => none
/-- the same kind of slot, another thing -/
def SV.re (y : SV) (o : OO) : SV := match y with
  | .rf _ => .rf o
  | _ => .ow o
def OR (K : PySem.W.Frag) (S H : Hp) (p : Addr) : OO → Prop
  | .l xs => ∃ vs, H p = some (.lst vs) ∧ RpL K S xs vs
  | .k kvs => ∃ ws, H p = some (.dK ws) ∧ RpK K S kvs ws
  | .i C fs => ∃ dx ws, H p = some (.ins C dx ws) ∧ RpF K S fs ws
theorem OR.there {K : PySem.W.Frag} {S H : Hp} {p : Addr} {o : OO} (h : OR K S H p o) : ∃ u, H p = some u := by
  cases o with
  | l xs => obtain ⟨vs, h, _⟩ := h; exact ⟨_, h⟩
  | k xs => obtain ⟨vs, h, _⟩ := h; exact ⟨_, h⟩
  | i C fs => obtain ⟨dx, vs, h, _⟩ := h; exact ⟨_, h⟩
theorem OR.mono {K : PySem.W.Frag} {S H S' H' : Hp} {p : Addr} {o : OO} (e : Same S S') (f : H' p = H p) (h : OR K S H p o) : OR K S' H' p o := by
  cases o with
  | l xs => obtain ⟨vs, h, r⟩ := h; exact ⟨vs, f.trans h, RpL.mono e r⟩
  | k xs => obtain ⟨vs, h, r⟩ := h; exact ⟨vs, f.trans h, RpK.mono e r⟩
  | i C fs => obtain ⟨dx, vs, h, r⟩ := h; exact ⟨dx, vs, f.trans h, RpF.mono e r⟩
/-- the frame of a run: what stood and stays, the arguments -/
structure Fm where
  B : Hp
  vs : List V
  n : Nat
/-- S grows outside of B -/
structure Gr (B S S' : Hp) : Prop where
  s : Same S S'
  n : ∀ a, S a = none → S' a ≠ none → B a = none
theorem Gr.refl (B S : Hp) : Gr B S S := ⟨Same.refl S, fun _ h k => absurd h k⟩
theorem Gr.trans {B S S' S'' : Hp} (a : Gr B S S') (b : Gr B S' S'') : Gr B S S'' := ⟨a.s.trans b.s, fun c h k => by
  cases q : S' c with
  | none => exact b.n c q k
  | some o => exact a.n c h (by rw [q]; exact fun z => nomatch z)⟩
theorem Gr.free {B S S' : Hp} (g : Gr B S S') {p : Addr} (h : S p = none) (b : B p ≠ none) : S' p = none := by
  cases q : S' p with
  | none => rfl
  | some o => exact absurd (g.n p h (by rw [q]; exact fun z => nomatch z)) b
/-- a slot -/
def SR (K : PySem.W.Frag) (B S H : Hp) (ov : Option V) (arg : Option V) : SV → Prop
  | .un => True
  | .d x => ∃ v, ov = some v ∧ Rp K S x v
  | .ow o => ∃ p, ov = some (.ref p) ∧ B p = none ∧ S p = none ∧ OR K S H p o
  | .rf o => ∃ p, ov = some (.ref p) ∧ arg = some (.ref p) ∧ B p = none ∧ S p = none ∧ OR K S H p o
structure R (K : PySem.W.Frag) (F : Fm) (S : Hp) (ρ : List SV) (σ : St) (H : Hp) : Prop where
  len : ρ.length = σ.length
  ln : ρ.length = F.n
  b : Same F.B H
  s : Same S H
  at_ : ∀ (i : Nat) (x : SV), ρ[i]? = some x → ∃ ov : Option V, σ[i]? = some ov ∧ SR K F.B S H ov (F.vs[i]?) x
  ap : ∀ (i j : Nat) (x y : SV) (p : Addr), ρ[i]? = some x → ρ[j]? = some y → x.oo.isSome = true → y.oo.isSome = true → σ[i]? = some (some (.ref p)) → σ[j]? = some (some (.ref p)) → i = j
/-- no slot's own thing is at p -/
def NoSl (ρ : List SV) (σ : St) (p : Addr) : Prop := ∀ (i : Nat) (x : SV), ρ[i]? = some x → x.oo.isSome = true → σ[i]? ≠ some (some (.ref p))
def VR (K : PySem.W.Frag) (F : Fm) (S : Hp) (ρ : List SV) (σ : St) (H : Hp) (v : V) : DV → Prop
  | .d x => Rp K S x v
  | .fr o => ∃ p, v = .ref p ∧ F.B p = none ∧ S p = none ∧ NoSl ρ σ p ∧ OR K S H p o
  | .sl i => σ[i]? = some (some v)
/-- an exception: its class, its attributes (none: it has no dict) -/
structure DExc where
  cls : Value
  fs : Option (List (Str × D))
def XR (K : PySem.W.Frag) (S H : Hp) (e : DExc) (cls : Value) (d : Option Addr) : Prop :=
  cls = e.cls ∧ match e.fs with
    | none => True
    | some fs => ∃ (dd : Addr) (ws : List (Str × V)), d = some dd ∧ H dd = some (.xd ws) ∧ RpF K S fs ws
/-- an expression's pure reading -/
abbrev DTE := List SV → (DV → List SV → Prop) → (DExc → List SV → Prop) → Prop
structure DEnds where
  nx : List SV → Prop
  rt : DV → List SV → Prop
  ex : DExc → List SV → Prop
  bk : List SV → Prop := fun _ => False
  ct : List SV → Prop := fun _ => False
abbrev DTS := DEnds → List SV → Prop

section
variable {K : PySem.W.Frag} {F : Fm} {S S' H H' : Hp} {ρ ρ' : List SV} {σ : St} {v : V} {x : DV}
theorem SR.mono {ov arg : Option V} {y : SV} (g : Same S S') (hn : ∀ p, ov = some (.ref p) → y.oo.isSome = true → S p = none → S' p = none ∧ H' p = H p) (h : SR K F.B S H ov arg y) : SR K F.B S' H' ov arg y := by
  cases y with
  | un => exact trivial
  | d x => obtain ⟨v, e, h⟩ := h; exact ⟨v, e, Rp.mono g h⟩
  | ow o =>
    obtain ⟨p, e, h1, h2, h⟩ := h
    have q := hn p e rfl h2
    exact ⟨p, e, h1, q.1, h.mono g q.2⟩
  | rf o =>
    obtain ⟨p, e, e2, h1, h2, h⟩ := h
    have q := hn p e rfl h2
    exact ⟨p, e, e2, h1, q.1, h.mono g q.2⟩
theorem SR.own {B : Hp} {ov arg : Option V} {y : SV} {o : OO} (h : SR K B S H ov arg y) (e : y.oo = some o) : ∃ p, ov = some (.ref p) ∧ B p = none ∧ S p = none ∧ OR K S H p o := by
  cases y with
  | un => cases e
  | d x => cases e
  | ow o' => cases e; exact h
  | rf o' => cases e; obtain ⟨p, a, _, b⟩ := h; exact ⟨p, a, b⟩
theorem R.own (r : R K F S ρ σ H) {i : Nat} {y : SV} {o : OO} (h : ρ[i]? = some y) (e : y.oo = some o) : ∃ p, σ[i]? = some (some (.ref p)) ∧ F.B p = none ∧ S p = none ∧ OR K S H p o := by
  obtain ⟨ov, h1, h2⟩ := r.at_ i y h
  obtain ⟨p, e1, h3⟩ := h2.own e
  exact ⟨p, by rw [h1, e1], h3⟩
/-- the heap grows, nothing that was told changes -/
theorem R.grow (r : R K F S ρ σ H) (e : Same H H') : R K F S ρ σ H' :=
  ⟨r.len, r.ln, r.b.trans e, r.s.trans e, fun i x h => by
    obtain ⟨ov, h1, h2⟩ := r.at_ i x h
    refine ⟨ov, h1, h2.mono (Same.refl S) fun p e1 ho hn => ⟨hn, ?_⟩⟩
    obtain ⟨o, eo⟩ := Option.isSome_iff_exists.mp ho
    obtain ⟨q, e2, _, _, h3⟩ := h2.own eo
    obtain ⟨u, hu⟩ := h3.there
    rw [e1] at e2
    cases e2
    rw [hu, e p u hu], r.ap⟩
/-- a thing at p, outside of all slots, is told from now on -/
theorem R.tell (r : R K F S ρ σ H) {p : Addr} {o : HO} (h : H p = some o) (hs : S p = none) (hb : F.B p = none) (hn : NoSl ρ σ p) : R K F (upd S p o) ρ σ H ∧ Gr F.B S (upd S p o) := by
  have g : Same S (upd S p o) := fun a u e => by rw [upd_ne (ne_of_none e hs)]; exact e
  refine ⟨⟨r.len, r.ln, r.b, fun a u e => ?_, fun i x h1 => ?_, r.ap⟩, g, fun a e k => ?_⟩
  · by_cases q : a = p
    · rw [q, upd_same] at e
      rw [q, h]; exact e
    · rw [upd_ne q] at e
      exact r.s a u e
  · obtain ⟨ov, h2, h3⟩ := r.at_ i x h1
    refine ⟨ov, h2, h3.mono g fun q e1 ho hq => ⟨?_, rfl⟩⟩
    by_cases z : q = p
    · rw [e1, z] at h2
      exact absurd h2 (hn i x h1 ho)
    · rw [upd_ne z]; exact hq
  · by_cases q : a = p
    · rw [q]; exact hb
    · rw [upd_ne q] at k
      exact absurd e k
theorem NoSl.new (r : R K F S ρ σ H) {p : Addr} (h : H p = none) : NoSl ρ σ p := fun i x h1 ho e => by
  obtain ⟨o, eo⟩ := Option.isSome_iff_exists.mp ho
  obtain ⟨q, e2, _, _, h3⟩ := r.own h1 eo
  rw [e] at e2
  cases e2
  obtain ⟨u, hu⟩ := h3.there
  rw [h] at hu
  cases hu
theorem R.newB (r : R K F S ρ σ H) {p : Addr} (h : H p = none) : F.B p = none ∧ S p = none := ⟨r.b.free h, r.s.free h⟩
theorem OR.toRp {p : Addr} {o : OO} (h : OR K S H p o) : ∃ u, H p = some u ∧ ∀ S', Same S S' → S' p = some u → Rp K S' o.toD (.ref p) := by
  cases o with
  | l xs => obtain ⟨vs, h, g⟩ := h; exact ⟨_, h, fun S' e q => ⟨p, vs, rfl, q, RpL.mono e g⟩⟩
  | k xs => obtain ⟨vs, h, g⟩ := h; exact ⟨_, h, fun S' e q => ⟨p, vs, rfl, q, RpK.mono e g⟩⟩
  | i C fs => obtain ⟨dx, vs, h, g⟩ := h; exact ⟨_, h, fun S' e q => ⟨p, dx, vs, rfl, q, RpF.mono e g⟩⟩
/-- a new thing is given up to the told part -/
theorem VR.freeze {o : OO} (r : R K F S ρ σ H) (h : VR K F S ρ σ H v (.fr o)) : ∃ S', Gr F.B S S' ∧ R K F S' ρ σ H ∧ Rp K S' o.toD v := by
  obtain ⟨p, rfl, h1, h2, h3, h4⟩ := h
  obtain ⟨u, hu, k⟩ := h4.toRp
  have q := r.tell hu h2 h1 h3
  exact ⟨_, q.2, q.1, k _ q.2.s upd_same⟩
/-- a slot's own thing is given up to the told part -/
theorem R.freeze (r : R K F S ρ σ H) {i : Nat} {o : OO} (h : ρ[i]? = some (.ow o)) (hv : σ[i]? = some (some v)) : ∃ S', Gr F.B S S' ∧ R K F S' (ρ.set i (.d o.toD)) σ H ∧ Rp K S' o.toD v := by
  obtain ⟨p, e1, h1, h2, h4⟩ := r.own h rfl
  rw [hv] at e1
  cases e1
  obtain ⟨u, hu, k⟩ := h4.toRp
  have g : Same S (upd S p u) := fun a w e => by rw [upd_ne (ne_of_none e h2)]; exact e
  have rp := k _ g upd_same
  have hi : i < ρ.length := (List.getElem?_eq_some_iff.mp h).1
  have other : ∀ j y, j ≠ i → (ρ.set i (.d o.toD))[j]? = some y → ρ[j]? = some y := fun j y hj e => by
    rw [List.getElem?_set_ne (Ne.symm hj)] at e; exact e
  have same : ∀ y, (ρ.set i (.d o.toD))[i]? = some y → y = .d o.toD := fun y e => by
    rw [List.getElem?_set_self hi] at e; cases e; rfl
  refine ⟨upd S p u, ⟨g, fun a e k => ?_⟩, ⟨by rw [List.length_set]; exact r.len, by rw [List.length_set]; exact r.ln, r.b, fun a w e => ?_, fun j y e => ?_, fun a b x y q ha hb xa yb sa sb => ?_⟩, rp⟩
  · by_cases q : a = p
    · rw [q]; exact h1
    · rw [upd_ne q] at k
      exact absurd e k
  · by_cases q : a = p
    · rw [q, upd_same] at e
      rw [q, hu]; exact e
    · rw [upd_ne q] at e
      exact r.s a w e
  · by_cases hj : j = i
    · subst hj
      rw [same y e]
      exact ⟨_, hv, _, rfl, rp⟩
    · have e' := other j y hj e
      obtain ⟨ov, h5, h6⟩ := r.at_ j y e'
      refine ⟨ov, h5, h6.mono g fun q e2 ho hq => ⟨?_, rfl⟩⟩
      have : q ≠ p := fun z => hj (r.ap j i y _ p e' h ho rfl (by rw [h5, e2, z]) hv)
      rw [upd_ne this]; exact hq
  · by_cases ha' : a = i
    · subst ha'
      rw [same x ha] at xa
      cases xa
    · by_cases hb' : b = i
      · subst hb'
        rw [same y hb] at yb
        cases yb
      · exact r.ap a b x y q (other a x ha' ha) (other b y hb' hb) xa yb sa sb
/-- a slot is stored: data -/
theorem R.setD (r : R K F S ρ σ H) {i : Nat} {x : D} (hi : i < σ.length) (h : Rp K S x v) : R K F S (ρ.set i (.d x)) (σ.set i (some v)) H := by
  have hr : i < ρ.length := by rw [r.len]; exact hi
  refine ⟨by rw [List.length_set, List.length_set]; exact r.len, by rw [List.length_set]; exact r.ln, r.b, r.s, fun j y e => ?_, fun a b x' y q ha hb xa yb sa sb => ?_⟩
  · by_cases hj : i = j
    · subst hj
      rw [List.getElem?_set_self hr] at e
      cases e
      exact ⟨_, List.getElem?_set_self hi, v, rfl, h⟩
    · rw [List.getElem?_set_ne hj] at e
      rw [List.getElem?_set_ne hj]
      exact r.at_ j y e
  · by_cases h1 : i = a
    · subst h1
      rw [List.getElem?_set_self hr] at ha
      cases ha
      cases xa
    · by_cases h2 : i = b
      · subst h2
        rw [List.getElem?_set_self hr] at hb
        cases hb
        cases yb
      · rw [List.getElem?_set_ne h1] at ha sa
        rw [List.getElem?_set_ne h2] at hb sb
        exact r.ap a b x' y q ha hb xa yb sa sb
/-- a slot is stored: a new thing -/
theorem R.setO (r : R K F S ρ σ H) {i : Nat} {o : OO} (hi : i < σ.length) (h : VR K F S ρ σ H v (.fr o)) : R K F S (ρ.set i (.ow o)) (σ.set i (some v)) H := by
  have hr : i < ρ.length := by rw [r.len]; exact hi
  obtain ⟨p, rfl, h1, h2, h3, h4⟩ := h
  refine ⟨by rw [List.length_set, List.length_set]; exact r.len, by rw [List.length_set]; exact r.ln, r.b, r.s, fun j y e => ?_, fun a b x' y q ha hb xa yb sa sb => ?_⟩
  · by_cases hj : i = j
    · subst hj
      rw [List.getElem?_set_self hr] at e
      cases e
      exact ⟨_, List.getElem?_set_self hi, p, rfl, h1, h2, h4⟩
    · rw [List.getElem?_set_ne hj] at e
      rw [List.getElem?_set_ne hj]
      exact r.at_ j y e
  · by_cases e1 : i = a
    · by_cases e2 : i = b
      · exact e1.symm.trans e2
      · subst e1
        rw [List.getElem?_set_self hi] at sa
        cases sa
        rw [List.getElem?_set_ne e2] at hb sb
        exact absurd sb (h3 b y hb yb)
    · by_cases e2 : i = b
      · subst e2
        rw [List.getElem?_set_self hi] at sb
        cases sb
        rw [List.getElem?_set_ne e1] at ha sa
        exact absurd sa (h3 a x' ha xa)
      · rw [List.getElem?_set_ne e1] at ha sa
        rw [List.getElem?_set_ne e2] at hb sb
        exact r.ap a b x' y q ha hb xa yb sa sb
/-- a slot's own thing is changed in place -/
theorem R.change (r : R K F S ρ σ H) {i : Nat} {y y' : SV} {o o' : OO} {p : Addr} {u : HO} (h : ρ[i]? = some y) (ho : y.oo = some o) (hv : σ[i]? = some (some (.ref p))) (hy : y' = y.re o')
    (hu : OR K S (upd H p u) p o') : R K F S (ρ.set i y') σ (upd H p u) := by
  have hr : i < ρ.length := (List.getElem?_eq_some_iff.mp h).1
  obtain ⟨ov0, e0, sr0⟩ := r.at_ i y h
  obtain ⟨p', e1, h1, h2, h4⟩ := sr0.own ho
  rw [hv] at e0
  cases e0
  cases e1
  have ne : ∀ {X : Hp} {a : Addr} {w : HO}, X p = none → X a = some w → a ≠ p := fun n e z => by rw [z, n] at e; cases e
  refine ⟨by rw [List.length_set]; exact r.len, by rw [List.length_set]; exact r.ln, fun a w e => ?_, fun a w e => ?_, fun j z e => ?_, fun a b x' z q ha hb xa yb sa sb => ?_⟩
  · rw [upd_ne (ne h1 e)]; exact r.b a w e
  · rw [upd_ne (ne h2 e)]; exact r.s a w e
  · by_cases hj : i = j
    · subst hj
      rw [List.getElem?_set_self hr] at e
      cases e
      refine ⟨_, hv, ?_⟩
      cases y with
      | un => cases ho
      | d _ => cases ho
      | ow _ => rw [hy]; exact ⟨p, rfl, h1, h2, hu⟩
      | rf _ =>
        rw [hy]
        obtain ⟨q, e3, e4, _⟩ := sr0
        cases e3
        exact ⟨p, rfl, e4, h1, h2, hu⟩
    · rw [List.getElem?_set_ne hj] at e
      obtain ⟨ov, h5, h6⟩ := r.at_ j z e
      refine ⟨ov, h5, h6.mono (Same.refl S) fun q e2 hoq hq => ⟨hq, ?_⟩⟩
      have : q ≠ p := fun e3 => hj (r.ap i j y z p h e (by rw [ho]; rfl) hoq hv (by rw [h5, e2, e3]))
      rw [upd_ne this]
  · have w : ∀ {a : Nat} {x' : SV}, (ρ.set i y')[a]? = some x' → x'.oo.isSome = true → ∃ x, ρ[a]? = some x ∧ x.oo.isSome = true := fun {a x'} ha xa => by
      by_cases e1 : i = a
      · subst e1
        exact ⟨y, h, by rw [ho]; rfl⟩
      · rw [List.getElem?_set_ne e1] at ha
        exact ⟨x', ha, xa⟩
    obtain ⟨x1, g1, g2⟩ := w ha xa
    obtain ⟨x2, g3, g4⟩ := w hb yb
    exact r.ap a b x1 x2 q g1 g3 g2 g4 sa sb
/-- another object beside, outside of all that is told -/
theorem R.beside (r : R K F S ρ σ H) {p : Addr} {u : HO} (h1 : F.B p = none) (h2 : S p = none) (h3 : NoSl ρ σ p) : R K F S ρ σ (upd H p u) := by
  have ne : ∀ {X : Hp} {a : Addr} {w : HO}, X p = none → X a = some w → a ≠ p := fun n e z => by rw [z, n] at e; cases e
  refine ⟨r.len, r.ln, fun a w e => by rw [upd_ne (ne h1 e)]; exact r.b a w e, fun a w e => by rw [upd_ne (ne h2 e)]; exact r.s a w e, fun j z e => ?_, r.ap⟩
  obtain ⟨ov, h5, h6⟩ := r.at_ j z e
  refine ⟨ov, h5, h6.mono (Same.refl S) fun q e2 hoq hq => ⟨hq, ?_⟩⟩
  have : q ≠ p := fun e3 => h3 j z e hoq (by rw [h5, e2, e3])
  rw [upd_ne this]
/-- a slot is no longer told -/
theorem R.forget (r : R K F S ρ σ H) (i : Nat) : R K F S (ρ.set i .un) σ H := by
  refine ⟨by rw [List.length_set]; exact r.len, by rw [List.length_set]; exact r.ln, r.b, r.s, fun j z e => ?_, fun a b x y q ha hb xa yb sa sb => ?_⟩
  · by_cases hj : i = j
    · subst hj
      by_cases hr : i < ρ.length
      · rw [List.getElem?_set_self hr] at e
        cases e
        refine ⟨_, List.getElem?_eq_getElem (by rw [← r.len]; exact hr), trivial⟩
      · rw [List.getElem?_eq_none (by rw [List.length_set]; omega)] at e
        cases e
    · rw [List.getElem?_set_ne hj] at e
      exact r.at_ j z e
  · have w : ∀ {a : Nat} {x' : SV}, (ρ.set i .un)[a]? = some x' → x'.oo.isSome = true → ρ[a]? = some x' := fun {a x'} ha xa => by
      by_cases e1 : i = a
      · subst e1
        by_cases hr : i < ρ.length
        · rw [List.getElem?_set_self hr] at ha
          cases ha
          cases xa
        · rw [List.getElem?_eq_none (by rw [List.length_set]; omega)] at ha
          cases ha
      · rw [List.getElem?_set_ne e1] at ha
        exact ha
    exact r.ap a b x y q (w ha xa) (w hb yb) xa yb sa sb
end
end DW
/-! DWb: judgements by pure readings; names, constants, operators, comparisons, tests, displays, attributes, subscripts. -/
namespace DW
open PySem L2

/-- the reading in the layer's words of a pure one -/
def tD (K : PySem.W.Frag) (W : WX) (de : DTE) : TE := fun σ H QQ => ∃ (F : Fm) (S : Hp) (ρ : List SV) (Q : DV → List SV → Prop) (Ee : DExc → List SV → Prop), R K F S ρ σ H ∧ de ρ Q Ee ∧
  (∀ v x S' ρ' H', Gr F.B S S' → R K F S' ρ' σ H' → VR K F S' ρ' σ H' v x → Q x ρ' → QQ v H') ∧
  (∀ e cls d S' ρ' H', Gr F.B S S' → R K F S' ρ' σ H' → XR K S' H' e cls d → Ee e ρ' → W cls d σ H')
abbrev DTT := List SV → (Bool → List SV → Prop) → (DExc → List SV → Prop) → Prop
def tDT (K : PySem.W.Frag) (W : WX) (de : DTT) : TT := fun σ H QQ => ∃ (F : Fm) (S : Hp) (ρ : List SV) (Q : Bool → List SV → Prop) (Ee : DExc → List SV → Prop), R K F S ρ σ H ∧ de ρ Q Ee ∧
  (∀ b S' ρ' H', Gr F.B S S' → R K F S' ρ' σ H' → Q b ρ' → QQ b H') ∧
  (∀ e cls d S' ρ' H', Gr F.B S S' → R K F S' ρ' σ H' → XR K S' H' e cls d → Ee e ρ' → W cls d σ H')
abbrev DTA := List SV → (List D → List SV → Prop) → (DExc → List SV → Prop) → Prop
def tDA (K : PySem.W.Frag) (W : WX) (de : DTA) : TA := fun σ H QQ => ∃ (F : Fm) (S : Hp) (ρ : List SV) (Q : List D → List SV → Prop) (Ee : DExc → List SV → Prop), R K F S ρ σ H ∧ de ρ Q Ee ∧
  (∀ vs xs S' ρ' H', Gr F.B S S' → R K F S' ρ' σ H' → RpL K S' xs vs → Q xs ρ' → QQ vs H') ∧
  (∀ e cls d S' ρ' H', Gr F.B S S' → R K F S' ρ' σ H' → XR K S' H' e cls d → Ee e ρ' → W cls d σ H')
def DE (X : Cx) (W : WX) (e : Expr) (de : DTE) : Prop := PE X e (tD X.K W de)
def DT (X : Cx) (W : WX) (e : Expr) (de : DTT) : Prop := PT X e (tDT X.K W de)
def DPW (X : Cx) (W : WX) (e : Expr) (de : DTT) : Prop := PW X e (tDT X.K W de)
def DA (X : Cx) (W : WX) (es : List Expr) (de : DTA) : Prop := PA X es (tDA X.K W de)
theorem pe_imp {X : Cx} {e : Expr} {t t' : TE} (h : PE X e t) (i : ∀ σ H Q, t' σ H Q → t σ H Q) : PE X e t' := ⟨fun pins s σ H Q I q => h.run pins s σ H Q I (i σ H Q q)⟩
theorem pt_imp {X : Cx} {e : Expr} {t t' : TT} (h : PT X e t) (i : ∀ σ H Q, t' σ H Q → t σ H Q) : PT X e t' := ⟨fun pins s σ H Q I q => h.run pins s σ H Q I (i σ H Q q)⟩
theorem pw_imp {X : Cx} {e : Expr} {t t' : TT} (h : PW X e t) (i : ∀ σ H Q, t' σ H Q → t σ H Q) : PW X e t' := ⟨fun w pins s σ H Q I q => h.run w pins s σ H Q I (i σ H Q q)⟩
theorem pa_imp {X : Cx} {e : List Expr} {t t' : TA} (h : PA X e t) (i : ∀ σ H Q, t' σ H Q → t σ H Q) : PA X e t' := ⟨fun p pins s σ H Q I q => h.run p pins s σ H Q I (i σ H Q q)⟩

/-! ### peeking, freezing -/
def pk (ρ : List SV) (x : DV) (k : D → Prop) : Prop := match x with
  | .d x => k x
  | .fr o => k o.toD
  | .sl i => match ρ[i]? with
    | some (.d x) => k x
    | some (.ow o) => k o.toD
    | some (.rf o) => k o.toD
    | _ => False
def DV.fz : DV → DV
  | .fr o => .d o.toD
  | x => x
def stab (x : DV) (ρ : List SV) (k : D → List SV → Prop) : Prop := match x with
  | .d a => k a ρ
  | .fr o => k o.toD ρ
  | .sl i => match ρ[i]? with
    | some (.d a) => k a ρ
    | some (.ow o) => k o.toD (ρ.set i (.d o.toD))
    | _ => False
/-- the top read off H, what is within off S -/
def Rp1 (K : PySem.W.Frag) (S H : Hp) : D → V → Prop
  | .lst xs, v => ∃ a vs, v = .ref a ∧ H a = some (.lst vs) ∧ RpL K S xs vs
  | .dct kvs, v => ∃ a ws, v = .ref a ∧ H a = some (.dK ws) ∧ RpK K S kvs ws
  | .ins C fs, v => ∃ a dx ws, v = .ref a ∧ H a = some (.ins C dx ws) ∧ RpF K S fs ws
  | x, v => Rp K S x v
theorem Rp.one {K : PySem.W.Frag} {S H : Hp} {x : D} {v : V} (e : Same S H) (h : Rp K S x v) : Rp1 K S H x v := by
  cases x with
  | lst xs => obtain ⟨a, vs, h1, h2, h3⟩ := h; exact ⟨a, vs, h1, e _ _ h2, h3⟩
  | dct xs => obtain ⟨a, vs, h1, h2, h3⟩ := h; exact ⟨a, vs, h1, e _ _ h2, h3⟩
  | ins C fs => obtain ⟨a, dx, vs, h1, h2, h3⟩ := h; exact ⟨a, dx, vs, h1, e _ _ h2, h3⟩
  | _ => exact h
theorem OR.one {K : PySem.W.Frag} {S H : Hp} {p : Addr} {o : OO} (h : OR K S H p o) : Rp1 K S H o.toD (.ref p) := by
  cases o with
  | l xs => obtain ⟨vs, h, g⟩ := h; exact ⟨p, vs, rfl, h, g⟩
  | k xs => obtain ⟨vs, h, g⟩ := h; exact ⟨p, vs, rfl, h, g⟩
  | i C fs => obtain ⟨dx, vs, h, g⟩ := h; exact ⟨p, dx, vs, rfl, h, g⟩
theorem Rp1.all {K : PySem.W.Frag} {S H : Hp} {x : D} {v : V} (e : Same S H) (h : Rp1 K S H x v) : Rp K H x v := by
  cases x with
  | lst xs => obtain ⟨a, vs, h1, h2, h3⟩ := h; exact ⟨a, vs, h1, h2, RpL.mono e h3⟩
  | dct xs => obtain ⟨a, vs, h1, h2, h3⟩ := h; exact ⟨a, vs, h1, h2, RpK.mono e h3⟩
  | ins C fs => obtain ⟨a, dx, vs, h1, h2, h3⟩ := h; exact ⟨a, dx, vs, h1, h2, RpF.mono e h3⟩
  | non => exact h
  | bl b => exact h
  | int i => exact h
  | str x => exact h
  | tup xs => exact Rp.mono (x := .tup xs) e h
  | scr ns => exact Rp.mono (x := .scr ns) e h
/-- what an operation gives: data that is told; a new told thing; a new thing that nobody holds -/
inductive Res (K : PySem.W.Frag) (S H : Hp) : V → DV → Hp → Prop where
  | d {v : V} {c : D} (h : Rp K S c v) : Res K S H v (.d c) H
  | new {p : Addr} {u : HO} {c : D} (n : H p = none) (h : ∀ S', Same S S' → S' p = some u → Rp K S' c (.ref p)) : Res K S H (.ref p) (.d c) (upd H p u)
  | fr {p : Addr} {u : HO} {o : OO} (n : H p = none) (h : OR K S (upd H p u) p o) : Res K S H (.ref p) (.fr o) (upd H p u)

section
variable {K : PySem.W.Frag} {F : Fm} {S S' H H' : Hp} {ρ ρ' : List SV} {σ : St} {v : V} {x : DV}
theorem VR.fz (r : R K F S ρ σ H) (h : VR K F S ρ σ H v x) : ∃ S', Gr F.B S S' ∧ R K F S' ρ σ H ∧ VR K F S' ρ σ H v x.fz ∧ ∀ {S'' ρ'' H''}, Gr F.B S' S'' → VR K F S'' ρ'' σ H'' v x.fz := by
  cases x with
  | d a => exact ⟨S, Gr.refl _ _, r, h, fun g => Rp.mono g.s h⟩
  | fr o =>
    obtain ⟨S', g, r', q⟩ := VR.freeze r h
    exact ⟨S', g, r', q, fun g' => Rp.mono g'.s q⟩
  | sl i => exact ⟨S, Gr.refl _ _, r, h, fun g => h⟩
theorem VR.pk {k : D → Prop} (r : R K F S ρ σ H) (h : VR K F S ρ σ H v x) (q : DW.pk ρ x k) : ∃ a, Rp1 K S H a v ∧ k a := by
  cases x with
  | d a => exact ⟨a, Rp.one r.s h, q⟩
  | fr o =>
    obtain ⟨p, rfl, _, _, _, h4⟩ := h
    exact ⟨o.toD, h4.one, q⟩
  | sl i =>
    have h' : σ[i]? = some (some v) := h
    unfold DW.pk at q
    cases e : ρ[i]? with
    | none => simp only [e] at q
    | some y =>
      obtain ⟨ov, e1, sr⟩ := r.at_ i y e
      rw [h'] at e1
      cases e1
      cases y with
      | un => simp only [e] at q
      | d a =>
        simp only [e] at q
        obtain ⟨w, e2, h2⟩ := sr
        cases e2
        exact ⟨a, Rp.one r.s h2, q⟩
      | ow o =>
        simp only [e] at q
        obtain ⟨p, e2, _, _, h2⟩ := sr
        cases e2
        exact ⟨_, h2.one, q⟩
      | rf o =>
        simp only [e] at q
        obtain ⟨p, e2, _, _, _, h2⟩ := sr
        cases e2
        exact ⟨_, h2.one, q⟩
theorem VR.stab {k : D → List SV → Prop} (r : R K F S ρ σ H) (h : VR K F S ρ σ H v x) (q : DW.stab x ρ k) : ∃ a S' ρ', Gr F.B S S' ∧ R K F S' ρ' σ H ∧ Rp K S' a v ∧ k a ρ' := by
  cases x with
  | d a => exact ⟨a, S, ρ, Gr.refl _ _, r, h, q⟩
  | fr o =>
    obtain ⟨S', g, r', q'⟩ := VR.freeze r h
    exact ⟨_, S', ρ, g, r', q', q⟩
  | sl i =>
    have h' : σ[i]? = some (some v) := h
    unfold DW.stab at q
    cases e : ρ[i]? with
    | none => simp only [e] at q
    | some y =>
      cases y with
      | un => simp only [e] at q
      | d a =>
        simp only [e] at q
        obtain ⟨ov, e1, w, e2, h2⟩ := r.at_ i _ e
        rw [h', e2] at e1
        cases e1
        exact ⟨a, S, ρ, Gr.refl _ _, r, h2, q⟩
      | ow o =>
        simp only [e] at q
        obtain ⟨S', g, r', q'⟩ := r.freeze e h'
        exact ⟨_, S', _, g, r', q', q⟩
      | rf o => simp only [e] at q
theorem Res.ok {z : DV} (r : R K F S ρ σ H) (h : Res K S H v z H') : ∃ S', Gr F.B S S' ∧ R K F S' ρ σ H' ∧ VR K F S' ρ σ H' v z := by
  cases h with
  | d h => exact ⟨S, Gr.refl _ _, r, h⟩
  | @new p u c n h =>
    have hb := r.newB n
    have hn := NoSl.new r n
    have r1 := r.beside (u := u) hb.1 hb.2 hn
    have q := r1.tell upd_same hb.2 hb.1 hn
    exact ⟨_, q.2, q.1, h _ q.2.s upd_same⟩
  | @fr p u o n h =>
    have hb := r.newB n
    have hn := NoSl.new r n
    exact ⟨S, Gr.refl _ _, r.beside hb.1 hb.2 hn, p, rfl, hb.1, hb.2, hn, h⟩
/-- an operation by values, against its pure form -/
def OpOk (K : PySem.W.Frag) (f : D → D → (DV → Prop) → Prop) (r : R2) : Prop := ∀ (S H : Hp) (a b : D) (x y : V) (Qz : DV → Prop) (QQ : VK), Same S H → Rp1 K S H a x → Rp1 K S H b y → f a b Qz → (∀ v z H', Res K S H v z H' → Qz z → QQ v H') → r x y H QQ
def UnOk (K : PySem.W.Frag) (f : D → (DV → Prop) → Prop) (r : V → Hp → VK → Prop) : Prop := ∀ (S H : Hp) (a : D) (x : V) (Qz : DV → Prop) (QQ : VK), Same S H → Rp1 K S H a x → f a Qz → (∀ v z H', Res K S H v z H' → Qz z → QQ v H') → r x H QQ
end

/-! ### the pure readings -/
def dVar (i : Nat) : DTE := fun ρ Q _ => match ρ[i]? with
  | some (.d x) => Q (.d x) ρ
  | some (.ow _) => Q (.sl i) ρ
  | some (.rf _) => Q (.sl i) ρ
  | _ => False
def dC (x : D) : DTE := fun ρ Q _ => Q (.d x) ρ
def dBin (f : D → D → (DV → Prop) → Prop) (da db : DTE) : DTE := fun ρ Q E => da ρ (fun x ρ1 => db ρ1 (fun y ρ2 => pk ρ2 x.fz fun a => pk ρ2 y fun b => f a b fun z => Q z ρ2) E) E
def dUn (f : D → (DV → Prop) → Prop) (da : DTE) : DTE := fun ρ Q E => da ρ (fun x ρ1 => pk ρ1 x fun a => f a fun z => Q z ρ1) E
/-- a test's value -/
def dTst (de : DTE) : DTT := fun ρ Q E => de ρ (fun x ρ1 => match x with | .d (.bl b) => Q b ρ1 | _ => False) E
def dAnd (da db : DTT) : DTT := fun ρ Q E => da ρ (fun b ρ1 => if b = true then db ρ1 Q E else Q false ρ1) E
def dOr (da db : DTT) : DTT := fun ρ Q E => da ρ (fun b ρ1 => if b = true then Q true ρ1 else db ρ1 Q E) E
def dNot (da : DTT) : DTT := fun ρ Q E => da ρ (fun b ρ1 => Q (!b) ρ1) E
/-- and, or, not as values, of bools -/
def dAndV (da db : DTE) : DTE := fun ρ Q E => da ρ (fun x ρ1 => match x with | .d (.bl b) => if b = true then db ρ1 Q E else Q (.d (.bl false)) ρ1 | _ => False) E
def dOrV (da db : DTE) : DTE := fun ρ Q E => da ρ (fun x ρ1 => match x with | .d (.bl b) => if b = true then Q (.d (.bl true)) ρ1 else db ρ1 Q E | _ => False) E
def dNotV (da : DTE) : DTE := fun ρ Q E => da ρ (fun x ρ1 => match x with | .d (.bl b) => Q (.d (.bl (!b))) ρ1 | _ => False) E
def dIf (dt : DTT) (da db : DTE) : DTE := fun ρ Q E => dt ρ (fun b ρ1 => if b = true then da ρ1 Q E else db ρ1 Q E) E
/-- a op b op' c -/
def dChain (f f' : D → D → (DV → Prop) → Prop) (da db dc : DTE) : DTE := fun ρ Q E => da ρ (fun x ρ1 => db ρ1 (fun y ρ2 => pk ρ2 x.fz fun a => pk ρ2 y.fz fun b => f a b fun z => match z with
  | .d (.bl k) => if k = true then dc ρ2 (fun w ρ3 => pk ρ3 y.fz fun b' => pk ρ3 w fun c => f' b' c fun z' => Q z' ρ3) E else Q (.d (.bl false)) ρ2
  | _ => False) E) E
def dANil : DTA := fun ρ Q _ => Q [] ρ
def dACons (da : DTE) (dl : DTA) : DTA := fun ρ Q E => da ρ (fun x ρ1 => stab x ρ1 fun a ρ2 => dl ρ2 (fun as ρ3 => Q (a :: as) ρ3) E) E
def dLst (dl : DTA) : DTE := fun ρ Q E => dl ρ (fun as ρ1 => as.length ≤ sizeLine ∧ Q (.fr (.l as)) ρ1) E
def dTup (dl : DTA) : DTE := fun ρ Q E => dl ρ (fun as ρ1 => as.length ≤ sizeLine ∧ Q (.d (.tup as)) ρ1) E
/-- the attribute f of an instance of the class at C0 -/
def fFld (C0 : Addr) (f : Str) (a : D) (k : DV → Prop) : Prop := match a with
  | .ins C fs => C = C0 ∧ match fs.lookup f with
    | some y => k (.d y)
    | none => False
  | _ => False
def dFld (C0 : Addr) (f : Str) (da : DTE) : DTE := dUn (fFld C0 f) da

section
variable {X : Cx} {W : WX} {e a b c : Expr} {es rest : List Expr} {pos : Pos} {da db dc : DTE} {ta tb : DTT} {dl : DTA} {f f' : D → D → (DV → Prop) → Prop} {r r' : R2}
theorem d_var (i : Nat) {x : Str} (hN : X.N[i]? = some x := by rfl) (hv : Vis X.env.scope x := by first | exact Or.inl rfl | exact Or.inr (Or.inl rfl) | exact Or.inr (Or.inr rfl)) (hd : (x == ("__debug__" : Str)) = false := by decide)
    (hcd : (x == ("__classdict__" : Str)) = false := by decide) : DE X W (.Name x pos) (dVar i) := by
  refine pe_imp (pv i hN hv hd hcd) fun σ H QQ ⟨F, S, ρ, Q, Ee, r, h, kq, ke⟩ => ?_
  unfold dVar at h
  cases q : ρ[i]? with
  | none => simp only [q] at h
  | some y =>
    cases y with
    | un => simp only [q] at h
    | d x =>
      simp only [q] at h
      obtain ⟨ov, e1, w, e2, h2⟩ := r.at_ i _ q
      exact ⟨w, by rw [e1, e2], kq w (.d x) S ρ H (Gr.refl _ _) r h2 h⟩
    | ow o =>
      simp only [q] at h
      obtain ⟨ov, e1, p, e2, h2⟩ := r.at_ i _ q
      exact ⟨.ref p, by rw [e1, e2], kq _ (.sl i) S ρ H (Gr.refl _ _) r (by show σ[i]? = _; rw [e1, e2]) h⟩
    | rf o =>
      simp only [q] at h
      obtain ⟨ov, e1, p, e2, h2⟩ := r.at_ i _ q
      exact ⟨.ref p, by rw [e1, e2], kq _ (.sl i) S ρ H (Gr.refl _ _) r (by show σ[i]? = _; rw [e1, e2]) h⟩
theorem d_const {v : V} {x : D} (h : PE X e (tC v)) (hr : ∀ S, Rp X.K S x v) : DE X W e (dC x) :=
  pe_imp h fun σ H QQ ⟨F, S, ρ, Q, Ee, r, h, kq, ke⟩ => kq v (.d x) S ρ H (Gr.refl _ _) r (hr S) h
theorem d_int {i : Int} {j : Nat} : DE X W (.Constant (.int i) j pos) (dC (.int i)) := d_const pe_int fun _ => rfl
theorem d_bl {i : Bool} {j : Nat} : DE X W (.Constant (.bool i) j pos) (dC (.bl i)) := d_const pe_bl fun _ => rfl
theorem d_non {j : Nat} : DE X W (.Constant .none j pos) (dC .non) := d_const pe_non fun _ => rfl
theorem d_str {x : Str} {j : Nat} : DE X W (.Constant (.str x) j pos) (dC (.str x)) := d_const pe_str fun _ => rfl
/-- a module's constant that is an int -/
theorem d_glob {x : Str} {i : Int} {t : Tok} (hm : X.mg x = some (.int i t)) (hg : Gl X x := by rfl) (hd : (x == ("__debug__" : Str)) = false := by decide) : DE X W (.Name x pos) (dC (.int i)) := d_const (pe_glob (v := .int i) hg hm ⟨t, rfl⟩ (by first | exact hd | rfl)) fun _ => rfl
theorem d_globS {x z : Str} {t : Tok} (hm : X.mg x = some (.str z t)) (hg : Gl X x := by rfl) (hd : (x == ("__debug__" : Str)) = false := by decide) : DE X W (.Name x pos) (dC (.str z)) := d_const (pe_glob (v := .str z) hg hm ⟨t, rfl⟩ (by first | exact hd | rfl)) fun _ => rfl

/-- what two expressions and an operation come to -/
theorem bin_ok (ho : OpOk X.K f r) {σ : St} {H : Hp} {QQ : VK} (h : tD X.K W (dBin f da db) σ H QQ) : tOp r (tD X.K W da) (tD X.K W db) σ H QQ := by
  obtain ⟨F, S, ρ, Q, Ee, rr, h, kq, ke⟩ := h
  refine ⟨F, S, ρ, _, Ee, rr, h, fun v x S1 ρ1 H1 g1 r1 vr1 q1 => ?_, ke⟩
  obtain ⟨S2, g2, r2, vr2, keep⟩ := VR.fz r1 vr1
  refine ⟨F, S2, ρ1, _, Ee, r2, q1, fun w y S3 ρ3 H3 g3 r3 vr3 q3 => ?_, fun e cls d S' ρ' H' g' r' xr' q' => ke e cls d S' ρ' H' ((g1.trans g2).trans g') r' xr' q'⟩
  obtain ⟨a', p1, q4⟩ := VR.pk r3 (keep g3) q3
  obtain ⟨b', p2, q5⟩ := VR.pk r3 vr3 q4
  refine ho S3 H3 a' b' v w _ QQ r3.s p1 p2 q5 fun z dz H4 rs q6 => ?_
  obtain ⟨S5, g5, r5, vr5⟩ := rs.ok r3
  exact kq z dz S5 ρ3 H4 (((g1.trans g2).trans g3).trans g5) r5 vr5 q6
theorem d_bin {op : Operator} (ho : OpR X (binaryOp op) r) (hf : OpOk X.K f r) (ha : DE X W a da) (hb : DE X W b db) : DE X W (.BinOp a op b pos) (dBin f da db) :=
  pe_imp (pe_op ho ha hb) fun _ _ _ h => bin_ok hf h
theorem d_cmp {op : CmpOp} (ho : OpR X (compareOp op) r) (hf : OpOk X.K f r) (ha : DE X W a da) (hb : DE X W b db) (hm : behindInMarks op b = false := by first | exact nomark _ | with_unfolding_all rfl) : DE X W (.Compare a [op] [b] pos) (dBin f da db) :=
  pe_imp (pe_cmpR ho ha hb hm) fun _ _ _ h => bin_ok hf h
theorem tst_ok {te : TE} (i : ∀ σ H QQ, tD X.K W da σ H QQ → te σ H QQ) {σ : St} {H : Hp} {QQ : Bool → Hp → Prop} (h : tDT X.K W (dTst da) σ H QQ) : te σ H (fun x H' => ∃ k, x = .bl k ∧ QQ k H') := by
  obtain ⟨F, S, ρ, Q, Ee, rr, h, kq, ke⟩ := h
  refine i σ H _ ⟨F, S, ρ, _, Ee, rr, h, fun v x S1 ρ1 H1 g1 r1 vr1 q1 => ?_, ke⟩
  cases x with
  | d y =>
    cases y with
    | bl k =>
      have e : v = .bl k := vr1
      exact ⟨k, e, kq k S1 ρ1 H1 g1 r1 q1⟩
    | _ => exact q1.elim
  | _ => exact q1.elim
theorem d_cmpT {op : CmpOp} (ho : OpR X (compareOp op) r) (hf : OpOk X.K f r) (ha : DE X W a da) (hb : DE X W b db) (hm : behindInMarks op b = false := by first | exact nomark _ | with_unfolding_all rfl) : DT X W (.Compare a [op] [b] pos) (dTst (dBin f da db)) :=
  pt_imp (pt_cmpR ho ha hb hm) fun _ _ _ h => tst_ok (te := tOp r (tD X.K W da) (tD X.K W db)) (fun _ _ _ h => bin_ok hf h) h
/-- any expression that gives a bool, as a test (not a comparison, not and, or, not) -/
theorem d_valT (ha : DE X W e da) (he : ∀ whole, isTrue e X.env whole = (do let v ← whole; standAt e.pos; holding [v] (truthy v)) := by intro _; rfl) : DT X W e (dTst da) :=
  pt_imp (pt_val ha he) fun _ _ _ h => tst_ok (te := tD X.K W da) (fun _ _ _ h => h) h
theorem d_and1 (ha : DT X W a ta) : DPW X W (.BoolOp .And [a] pos) ta := pw_and1 ha
theorem d_or1 (ha : DT X W a ta) : DPW X W (.BoolOp .Or [a] pos) ta := pw_or1 ha
theorem d_and (ha : DT X W a ta) (hb : DPW X W (.BoolOp .And (b :: rest) pos) tb) : DPW X W (.BoolOp .And (a :: b :: rest) pos) (dAnd ta tb) := by
  refine pw_imp (pw_and ha hb) fun σ H QQ ⟨F, S, ρ, Q, Ee, rr, h, kq, ke⟩ => ?_
  refine ⟨F, S, ρ, _, Ee, rr, h, fun k S1 ρ1 H1 g1 r1 q1 => ?_, ke⟩
  cases k with
  | true => exact ⟨F, S1, ρ1, Q, Ee, r1, q1, fun b S' ρ' H' g' r' q' => kq b S' ρ' H' (g1.trans g') r' q', fun e cls d S' ρ' H' g' r' xr' q' => ke e cls d S' ρ' H' (g1.trans g') r' xr' q'⟩
  | false => exact kq false S1 ρ1 H1 g1 r1 q1
theorem d_or (ha : DT X W a ta) (hb : DPW X W (.BoolOp .Or (b :: rest) pos) tb) : DPW X W (.BoolOp .Or (a :: b :: rest) pos) (dOr ta tb) := by
  refine pw_imp (pw_or ha hb) fun σ H QQ ⟨F, S, ρ, Q, Ee, rr, h, kq, ke⟩ => ?_
  refine ⟨F, S, ρ, _, Ee, rr, h, fun k S1 ρ1 H1 g1 r1 q1 => ?_, ke⟩
  cases k with
  | true => exact kq true S1 ρ1 H1 g1 r1 q1
  | false => exact ⟨F, S1, ρ1, Q, Ee, r1, q1, fun b S' ρ' H' g' r' q' => kq b S' ρ' H' (g1.trans g') r' q', fun e cls d S' ρ' H' g' r' xr' q' => ke e cls d S' ρ' H' (g1.trans g') r' xr' q'⟩
theorem d_pw (h : DPW X W e ta) : DT X W e ta := PW.pt h
theorem d_not (ha : DT X W a ta) : DT X W (.UnaryOp .Not a pos) (dNot ta) :=
  pt_imp (pt_not ha) fun σ H QQ ⟨F, S, ρ, Q, Ee, rr, h, kq, ke⟩ => ⟨F, S, ρ, _, Ee, rr, h, fun k S1 ρ1 H1 g1 r1 q1 => kq (!k) S1 ρ1 H1 g1 r1 q1, ke⟩
theorem d_one {op : BoolOp} (ha : DE X W a da) : DE X W (.BoolOp op [a] pos) da := pe_one ha
theorem d_andV (ha : DE X W a da) (hb : DE X W (.BoolOp .And (b :: rest) pos) db) : DE X W (.BoolOp .And (a :: b :: rest) pos) (dAndV da db) := by
  refine pe_imp (pe_and ha hb) fun σ H QQ ⟨F, S, ρ, Q, Ee, rr, h, kq, ke⟩ => ?_
  refine ⟨F, S, ρ, _, Ee, rr, h, fun v x S1 ρ1 H1 g1 r1 vr1 q1 => ?_, ke⟩
  cases x with
  | d y =>
    cases y with
    | bl k =>
      have e : v = .bl k := vr1
      refine ⟨k, e, ?_⟩
      cases k with
      | true => exact ⟨F, S1, ρ1, Q, Ee, r1, q1, fun v x S' ρ' H' g' r' vr' q' => kq v x S' ρ' H' (g1.trans g') r' vr' q', fun e cls d S' ρ' H' g' r' xr' q' => ke e cls d S' ρ' H' (g1.trans g') r' xr' q'⟩
      | false => exact kq (.bl false) (.d (.bl false)) S1 ρ1 H1 g1 r1 rfl q1
    | _ => exact q1.elim
  | _ => exact q1.elim
theorem d_orV (ha : DE X W a da) (hb : DE X W (.BoolOp .Or (b :: rest) pos) db) : DE X W (.BoolOp .Or (a :: b :: rest) pos) (dOrV da db) := by
  refine pe_imp (pe_or ha hb) fun σ H QQ ⟨F, S, ρ, Q, Ee, rr, h, kq, ke⟩ => ?_
  refine ⟨F, S, ρ, _, Ee, rr, h, fun v x S1 ρ1 H1 g1 r1 vr1 q1 => ?_, ke⟩
  cases x with
  | d y =>
    cases y with
    | bl k =>
      have e : v = .bl k := vr1
      refine ⟨k, e, ?_⟩
      cases k with
      | false => exact ⟨F, S1, ρ1, Q, Ee, r1, q1, fun v x S' ρ' H' g' r' vr' q' => kq v x S' ρ' H' (g1.trans g') r' vr' q', fun e cls d S' ρ' H' g' r' xr' q' => ke e cls d S' ρ' H' (g1.trans g') r' xr' q'⟩
      | true => exact kq (.bl true) (.d (.bl true)) S1 ρ1 H1 g1 r1 rfl q1
    | _ => exact q1.elim
  | _ => exact q1.elim
theorem d_notV (ha : DE X W a da) : DE X W (.UnaryOp .Not a pos) (dNotV da) := by
  refine pe_imp (pe_not ha) fun σ H QQ ⟨F, S, ρ, Q, Ee, rr, h, kq, ke⟩ => ?_
  refine ⟨F, S, ρ, _, Ee, rr, h, fun v x S1 ρ1 H1 g1 r1 vr1 q1 => ?_, ke⟩
  cases x with
  | d y =>
    cases y with
    | bl k =>
      have e : v = .bl k := vr1
      exact ⟨k, e, kq (.bl (!k)) (.d (.bl (!k))) S1 ρ1 H1 g1 r1 rfl q1⟩
    | _ => exact q1.elim
  | _ => exact q1.elim
theorem d_if (hc : DT X W c ta) (ha : DE X W a da) (hb : DE X W b db) : DE X W (.IfExp c a b pos) (dIf ta da db) := by
  refine pe_imp (pe_ifExp hc ha hb) fun σ H QQ ⟨F, S, ρ, Q, Ee, rr, h, kq, ke⟩ => ?_
  refine ⟨F, S, ρ, _, Ee, rr, h, fun k S1 ρ1 H1 g1 r1 q1 => ?_, ke⟩
  cases k with
  | true => exact ⟨F, S1, ρ1, Q, Ee, r1, q1, fun v x S' ρ' H' g' r' vr' q' => kq v x S' ρ' H' (g1.trans g') r' vr' q', fun e cls d S' ρ' H' g' r' xr' q' => ke e cls d S' ρ' H' (g1.trans g') r' xr' q'⟩
  | false => exact ⟨F, S1, ρ1, Q, Ee, r1, q1, fun v x S' ρ' H' g' r' vr' q' => kq v x S' ρ' H' (g1.trans g') r' vr' q', fun e cls d S' ρ' H' g' r' xr' q' => ke e cls d S' ρ' H' (g1.trans g') r' xr' q'⟩
theorem chain_ok (hf : OpOk X.K f r) (hf' : OpOk X.K f' r') {σ : St} {H : Hp} {QQ : VK} (h : tD X.K W (dChain f f' da db dc) σ H QQ) : tChain r r' (tD X.K W da) (tD X.K W db) (tD X.K W dc) σ H QQ := by
  obtain ⟨F, S, ρ, Q, Ee, rr, h, kq, ke⟩ := h
  refine ⟨F, S, ρ, _, Ee, rr, h, fun v x S1 ρ1 H1 g1 r1 vr1 q1 => ?_, ke⟩
  obtain ⟨S2, g2, r2, vr2, keep⟩ := VR.fz r1 vr1
  refine ⟨F, S2, ρ1, _, Ee, r2, q1, fun w y S3 ρ3 H3 g3 r3 vr3 q3 => ?_, fun e cls d S' ρ' H' g' r' xr' q' => ke e cls d S' ρ' H' ((g1.trans g2).trans g') r' xr' q'⟩
  obtain ⟨S4, g4, r4, vr4, keep4⟩ := VR.fz r3 vr3
  obtain ⟨a', p1, q4⟩ := VR.pk r4 (keep (g3.trans g4)) q3
  obtain ⟨b', p2, q5⟩ := VR.pk r4 vr4 q4
  refine hf S4 H3 a' b' v w _ _ r4.s p1 p2 q5 fun z dz H4 rs q6 => ?_
  obtain ⟨S5, g5, r5, vr5⟩ := rs.ok r4
  cases dz with
  | d y =>
    cases y with
    | bl k =>
      have e : z = .bl k := vr5
      refine ⟨k, e, ?_⟩
      have gg := (((g1.trans g2).trans g3).trans g4).trans g5
      cases k with
      | false => exact kq (.bl false) (.d (.bl false)) S5 ρ3 H4 gg r5 rfl q6
      | true =>
        refine ⟨F, S5, ρ3, _, Ee, r5, q6, fun u wv S6 ρ6 H6 g6 r6 vr6 q7 => ?_, fun e cls d S' ρ' H' g' r' xr' q' => ke e cls d S' ρ' H' (gg.trans g') r' xr' q'⟩
        obtain ⟨b2, p3, q8⟩ := VR.pk r6 (keep4 (g5.trans g6)) q7
        obtain ⟨c2, p4, q9⟩ := VR.pk r6 vr6 q8
        refine hf' S6 H6 b2 c2 w u _ QQ r6.s p3 p4 q9 fun z2 dz2 H7 rs2 q10 => ?_
        obtain ⟨S8, g8, r8, vr8⟩ := rs2.ok r6
        exact kq z2 dz2 S8 ρ6 H7 ((gg.trans g6).trans g8) r8 vr8 q10
    | _ => exact q6.elim
  | _ => exact q6.elim
theorem d_chain {op op' : CmpOp} (ho : OpR X (compareOp op) r) (hf : OpOk X.K f r) (ho' : OpR X (compareOp op') r') (hf' : OpOk X.K f' r') (ha : DE X W a da) (hb : DE X W b db) (hc : DE X W c dc)
    (hm : lastMarks [op, op'] [b, c] = false := by with_unfolding_all rfl) : DE X W (.Compare a [op, op'] [b, c] pos) (dChain f f' da db dc) :=
  pe_imp (pe_chain ho ho' ha hb hc hm) fun _ _ _ h => chain_ok hf hf' h
theorem d_chainT {op op' : CmpOp} (ho : OpR X (compareOp op) r) (hf : OpOk X.K f r) (ho' : OpR X (compareOp op') r') (hf' : OpOk X.K f' r') (ha : DE X W a da) (hb : DE X W b db) (hc : DE X W c dc)
    (hm : lastMarks [op, op'] [b, c] = false := by with_unfolding_all rfl) : DT X W (.Compare a [op, op'] [b, c] pos) (dTst (dChain f f' da db dc)) :=
  pt_imp (pt_chain ho ho' ha hb hc hm) fun _ _ _ h => tst_ok (te := tChain r r' (tD X.K W da) (tD X.K W db) (tD X.K W dc)) (fun _ _ _ h => chain_ok hf hf' h) h
/-! arguments, displays -/
theorem d_anil : DA X W [] dANil := pa_imp pa_nil fun σ H QQ ⟨F, S, ρ, Q, Ee, rr, h, kq, ke⟩ => kq [] [] S ρ H (Gr.refl _ _) rr rfl h
theorem d_acons (ha : DE X W e da) (hl : DA X W es dl) (hs : starEach (e :: es) X.env = (false, eval e X.env) :: starEach es X.env := by rfl) : DA X W (e :: es) (dACons da dl) := by
  refine pa_imp (pa_cons ha hl hs) fun σ H QQ ⟨F, S, ρ, Q, Ee, rr, h, kq, ke⟩ => ?_
  refine ⟨F, S, ρ, _, Ee, rr, h, fun v x S1 ρ1 H1 g1 r1 vr1 q1 => ?_, ke⟩
  obtain ⟨a', S2, ρ2, g2, r2, p2, q2⟩ := VR.stab r1 vr1 q1
  refine ⟨F, S2, ρ2, _, Ee, r2, q2, fun vs xs S3 ρ3 H3 g3 r3 p3 q3 => ?_, fun e cls d S' ρ' H' g' r' xr' q' => ke e cls d S' ρ' H' ((g1.trans g2).trans g') r' xr' q'⟩
  exact kq (v :: vs) (a' :: xs) S3 ρ3 H3 ((g1.trans g2).trans g3) r3 (RpL.cons (Rp.mono g3.s p2) p3) q3
theorem d_lst (h : DA X W es dl) : DE X W (.List es pos) (dLst dl) := by
  refine pe_imp (pe_lst h) fun σ H QQ ⟨F, S, ρ, Q, Ee, rr, h, kq, ke⟩ => ?_
  refine ⟨F, S, ρ, _, Ee, rr, h, fun vs xs S1 ρ1 H1 g1 r1 p1 q1 => ⟨by rw [p1.length]; exact q1.1, fun p hp => ?_⟩, ke⟩
  obtain ⟨S5, g5, r5, vr5⟩ := (Res.fr (S := S1) (u := .lst vs) (o := .l xs) hp ⟨vs, upd_same, p1⟩).ok r1
  exact kq (.ref p) (.fr (.l xs)) S5 ρ1 _ (g1.trans g5) r5 vr5 q1.2
theorem d_tup {x1 : Nat} (h : DA X W es dl) : DE X W (.Tuple es x1 pos) (dTup dl) := by
  refine pe_imp (pe_tup h) fun σ H QQ ⟨F, S, ρ, Q, Ee, rr, h, kq, ke⟩ => ?_
  refine ⟨F, S, ρ, _, Ee, rr, h, fun vs xs S1 ρ1 H1 g1 r1 p1 q1 => ⟨by rw [p1.length]; exact q1.1, fun p hp => ?_⟩, ke⟩
  obtain ⟨S5, g5, r5, vr5⟩ := (Res.new (S := S1) (u := .tup vs) (c := .tup xs) hp fun S' e q => ⟨p, vs, rfl, SqT.of q, RpL.mono e p1⟩).ok r1
  exact kq (.ref p) (.d (.tup xs)) S5 ρ1 _ (g1.trans g5) r5 vr5 q1.2
/-- x.f of an instance -/
theorem d_fld {f : Str} {C0 : Addr} {dd : DTE} (c1 : Cls X.K C0) (c2 : NoAttr X.K C0 f) (ha : DE X W a dd) (hb : attributeBase a f X.env (eval a X.env) = eval a X.env := by rfl) :
    DE X W (.Attribute a f pos) (dFld C0 f dd) := by
  refine pe_imp (pe_fld ha hb) fun σ H QQ ⟨F, S, ρ, Q, Ee, rr, h, kq, ke⟩ => ?_
  refine ⟨F, S, ρ, _, Ee, rr, h, fun v x S1 ρ1 H1 g1 r1 vr1 q1 => ?_, ke⟩
  obtain ⟨a', p1, q2⟩ := VR.pk r1 vr1 q1
  cases a' with
  | ins C fs =>
    obtain ⟨p, dx, ws, e1, e2, e3⟩ := p1
    obtain ⟨rfl, q2⟩ := q2
    cases q : fs.lookup f with
    | none => simp only [q] at q2
    | some y =>
      simp only [q] at q2
      obtain ⟨u, l1, l2⟩ := (e3.lookup (f := f)).1 y q
      exact ⟨p, C, dx, ws, u, e1, e2, c1, c2, l1, kq u (.d y) S1 ρ1 H1 g1 r1 l2 q2⟩
  | _ => exact False.elim q2
end
end DW
/-! DWc: statements, loops, comprehensions, defs and their calls by pure readings. -/
namespace DW
open PySem L2

def tSD (K : PySem.W.Frag) (W : WX) (ds : DTS) : TS := fun D σ H => ∃ (F : Fm) (S : Hp) (ρ : List SV) (De : DEnds), R K F S ρ σ H ∧ ds De ρ ∧
  (∀ ρ' σ' S' H', Gr F.B S S' → R K F S' ρ' σ' H' → De.nx ρ' → D.nx σ' H') ∧
  (∀ v x ρ' σ' S' H', Gr F.B S S' → R K F S' ρ' σ' H' → VR K F S' ρ' σ' H' v x → De.rt x ρ' → D.rt v H') ∧
  (∀ ρ' σ' S' H', Gr F.B S S' → R K F S' ρ' σ' H' → De.bk ρ' → D.bk σ' H') ∧
  (∀ ρ' σ' S' H', Gr F.B S S' → R K F S' ρ' σ' H' → De.ct ρ' → D.ct σ' H') ∧
  (∀ e cls d ρ' σ' S' H', Gr F.B S S' → R K F S' ρ' σ' H' → XR K S' H' e cls d → De.ex e ρ' → W cls d σ' H')
def DS (X : Cx) (W : WX) (st : Stmt) (ds : DTS) : Prop := PS X st (tSD X.K W ds)
def DSs (X : Cx) (W : WX) (st : List Stmt) (ds : DTS) : Prop := PSs X st (tSD X.K W ds)
theorem ps_imp {X : Cx} {st : Stmt} {t t' : TS} (h : PS X st t) (i : ∀ D σ H, t' D σ H → t D σ H) : PS X st t' := ⟨fun p s σ H D I q => h.run p s σ H D I (i D σ H q)⟩
theorem pss_imp {X : Cx} {st : List Stmt} {t t' : TS} (h : PSs X st t) (i : ∀ D σ H, t' D σ H → t D σ H) : PSs X st t' := ⟨fun p s σ H D I q => h.run p s σ H D I (i D σ H q)⟩

/-! ### plain statements -/
def dNil : DTS := fun De ρ => De.nx ρ
def dSeq (a b : DTS) : DTS := fun De ρ => a { De with nx := fun ρ1 => b De ρ1 } ρ
/-- what an expression gives, into the slot i -/
def storeS (i : Nat) (x : DV) (ρ : List SV) (k : List SV → Prop) : Prop := i < ρ.length ∧ match x with
  | .d a => k (ρ.set i (.d a))
  | .fr o => k (ρ.set i (.ow o))
  | .sl j => stab (.sl j) ρ fun a ρ1 => k (ρ1.set i (.d a))
def dSet (i : Nat) (de : DTE) : DTS := fun De ρ => de ρ (fun x ρ1 => storeS i x ρ1 De.nx) De.ex
def dRet (de : DTE) : DTS := fun De ρ => de ρ De.rt De.ex
def dRetN : DTS := fun De ρ => De.rt (.d .non) ρ
def dExpr (de : DTE) : DTS := fun De ρ => de ρ (fun _ ρ1 => De.nx ρ1) De.ex
def dIfS (dt : DTT) (a b : DTS) : DTS := fun De ρ => dt ρ (fun k ρ1 => if k = true then a De ρ1 else b De ρ1) De.ex
def dBreak : DTS := fun De ρ => De.bk ρ
def dCont : DTS := fun De ρ => De.ct ρ
def dWhN (dt : DTT) (body : DTS) (De : DEnds) : Nat → List SV → Prop
  | 0, _ => False
  | n + 1, ρ => dt ρ (fun k ρ1 => if k = true then body { De with nx := dWhN dt body De n, ct := dWhN dt body De n, bk := De.nx } ρ1 else De.nx ρ1) De.ex
def dWhile (dt : DTT) (body : DTS) : DTS := fun De ρ => ∃ n, dWhN dt body De n ρ

section
variable {X : Cx} {W : WX} {st : Stmt} {rest sa sb : List Stmt} {e : Expr} {pos : Pos} {a b : DTS} {de : DTE} {dt : DTT}
theorem d_nil : DSs X W [] dNil := pss_imp pss_nil fun D σ H ⟨F, S, ρ, De, r, h, k1, k2, k3, k4, k5⟩ => k1 ρ σ S H (Gr.refl _ _) r h
theorem d_cons (ha : DS X W st a) (hb : DSs X W rest b) : DSs X W (st :: rest) (dSeq a b) := by
  refine pss_imp (pss_cons ha hb) fun D σ H ⟨F, S, ρ, De, r, h, k1, k2, k3, k4, k5⟩ => ?_
  refine ⟨F, S, ρ, _, r, h, fun ρ1 σ1 S1 H1 g1 r1 q1 => ?_, k2, k3, k4, k5⟩
  exact ⟨F, S1, ρ1, De, r1, q1, fun ρ' σ' S' H' g' => k1 ρ' σ' S' H' (g1.trans g'), fun v x ρ' σ' S' H' g' => k2 v x ρ' σ' S' H' (g1.trans g'), fun ρ' σ' S' H' g' => k3 ρ' σ' S' H' (g1.trans g'), fun ρ' σ' S' H' g' => k4 ρ' σ' S' H' (g1.trans g'),
    fun e cls d ρ' σ' S' H' g' => k5 e cls d ρ' σ' S' H' (g1.trans g')⟩
theorem d_last (ha : DS X W st a) : DSs X W [st] a := pss_one ha
theorem VR.store {K : PySem.W.Frag} {F : Fm} {S H : Hp} {ρ : List SV} {σ : St} {v : V} {x : DV} {i : Nat} {k : List SV → Prop} (r : R K F S ρ σ H) (h : VR K F S ρ σ H v x) (q : storeS i x ρ k) : ∃ S' ρ', Gr F.B S S' ∧ R K F S' ρ' (σ.set i (some v)) H ∧ k ρ' := by
  obtain ⟨hi, q⟩ := q
  have hi' : i < σ.length := by rw [← r.len]; exact hi
  cases x with
  | d a => exact ⟨S, _, Gr.refl _ _, r.setD hi' h, q⟩
  | fr o => exact ⟨S, _, Gr.refl _ _, r.setO hi' h, q⟩
  | sl j =>
    obtain ⟨a, S1, ρ1, g1, r1, p1, q1⟩ := VR.stab r h q
    exact ⟨S1, _, g1, r1.setD hi' p1, q1⟩
theorem d_set (i : Nat) {x : Str} {pos' : Pos} (he : DE X W e de) (hN : X.N.Nodup) (hi : X.N[i]? = some x := by rfl) (hx : Loc X.env.scope x := by first | exact Or.inl rfl | exact Or.inr rfl) (hs : swapsWith e (some (.Name x pos')) pos.line X.env = pure false := by rfl)
    (hf : X.fn x = true ∨ X.env.scope.names.lookup x = some .local := by first | exact .inl rfl | exact .inr rfl | assumption) : DS X W (.Assign [.Name x pos'] e pos) (dSet i de) := by
  refine ps_imp (ps_set hN hi hx he hs hf) fun D σ H ⟨F, S, ρ, De, r, h, k1, k2, k3, k4, k5⟩ => ?_
  refine ⟨F, S, ρ, _, _, r, h, fun v x S1 ρ1 H1 g1 r1 vr1 q1 => ?_, fun e cls d S' ρ' H' g' r' => k5 e cls d ρ' σ S' H' g' r'⟩
  obtain ⟨S2, ρ2, g2, r2, q2⟩ := VR.store r1 vr1 q1
  exact k1 ρ2 _ S2 H1 (g1.trans g2) r2 q2
theorem d_ret (he : DE X W e de) : DS X W (.Return (some e) pos) (dRet de) := by
  refine ps_imp (ps_ret he) fun D σ H ⟨F, S, ρ, De, r, h, k1, k2, k3, k4, k5⟩ => ?_
  exact ⟨F, S, ρ, _, _, r, h, fun v x S1 ρ1 H1 g1 r1 vr1 q1 => k2 v x ρ1 σ S1 H1 g1 r1 vr1 q1, fun e cls d S' ρ' H' g' r' => k5 e cls d ρ' σ S' H' g' r'⟩
theorem d_retN : DS X W (.Return none pos) dRetN := ps_imp ps_retN fun D σ H ⟨F, S, ρ, De, r, h, k1, k2, k3, k4, k5⟩ => k2 .non (.d .non) ρ σ S H (Gr.refl _ _) r rfl h
theorem d_expr (he : DE X W e de) (hs : swapsWith e none pos.line X.env = pure false := by rfl) : DS X W (.Expr e pos) (dExpr de) := by
  refine ps_imp (ps_expr he hs) fun D σ H ⟨F, S, ρ, De, r, h, k1, k2, k3, k4, k5⟩ => ?_
  exact ⟨F, S, ρ, _, _, r, h, fun v x S1 ρ1 H1 g1 r1 vr1 q1 => k1 ρ1 σ S1 H1 g1 r1 q1, fun e cls d S' ρ' H' g' r' => k5 e cls d ρ' σ S' H' g' r'⟩
theorem d_ifS (hc : DT X W e dt) (ha : DSs X W sa a) (hb : DSs X W sb b) : DS X W (.If e sa sb pos) (dIfS dt a b) := by
  refine ps_imp (ps_if hc ha hb) fun D σ H ⟨F, S, ρ, De, r, h, k1, k2, k3, k4, k5⟩ => ?_
  refine ⟨F, S, ρ, _, _, r, h, fun k S1 ρ1 H1 g1 r1 q1 => ?_, fun e cls d S' ρ' H' g' r' => k5 e cls d ρ' σ S' H' g' r'⟩
  have go : ∀ c : DTS, c De ρ1 → tSD X.K W c D σ H1 := fun c q => ⟨F, S1, ρ1, De, r1, q, fun ρ' σ' S' H' g' => k1 ρ' σ' S' H' (g1.trans g'), fun v x ρ' σ' S' H' g' => k2 v x ρ' σ' S' H' (g1.trans g'), fun ρ' σ' S' H' g' => k3 ρ' σ' S' H' (g1.trans g'),
    fun ρ' σ' S' H' g' => k4 ρ' σ' S' H' (g1.trans g'), fun e cls d ρ' σ' S' H' g' => k5 e cls d ρ' σ' S' H' (g1.trans g')⟩
  cases k with
  | true => exact go a q1
  | false => exact go b q1
theorem d_break : DS X W (.Break pos) dBreak := ps_imp ps_break fun D σ H ⟨F, S, ρ, De, r, h, k1, k2, k3, k4, k5⟩ => k3 ρ σ S H (Gr.refl _ _) r h
theorem d_cont : DS X W (.Continue pos) dCont := ps_imp ps_continue fun D σ H ⟨F, S, ρ, De, r, h, k1, k2, k3, k4, k5⟩ => k4 ρ σ S H (Gr.refl _ _) r h
theorem d_pass : DS X W (.Pass pos) dNil := ps_imp ps_pass fun D σ H ⟨F, S, ρ, De, r, h, k1, k2, k3, k4, k5⟩ => k1 ρ σ S H (Gr.refl _ _) r h
theorem d_while (hp : PassesOwn (model X.prog X.w) X.A X.env X.xe) (hc : DT X W e dt) (hb : DSs X W sa a) : DS X W (.While e sa [] pos) (dWhile dt a) := by
  refine ps_imp (ps_while hp hc hb) fun D σ H ⟨F, S, ρ, De, r, ⟨n, h⟩, k1, k2, k3, k4, k5⟩ => ?_
  refine ⟨fun m σ H => ∃ S' ρ', Gr F.B S S' ∧ R X.K F S' ρ' σ H ∧ dWhN dt a De m ρ', ⟨n, S, ρ, Gr.refl _ _, r, h⟩, ?_⟩
  rintro m σ1 H1 ⟨S1, ρ1, g1, r1, w1⟩
  cases m with
  | zero => exact w1.elim
  | succ m =>
    refine ⟨F, S1, ρ1, _, _, r1, w1, fun k S2 ρ2 H2 g2 r2 q2 => ?_, fun e cls d S' ρ' H' g' r' => k5 e cls d ρ' σ1 S' H' (g1.trans g') r'⟩
    have g12 := g1.trans g2
    cases k with
    | false => exact k1 ρ2 σ1 S2 H2 g12 r2 q2
    | true =>
      refine ⟨fun σ' H' => ∃ S' ρ', Gr F.B S S' ∧ R X.K F S' ρ' σ' H' ∧ dWhN dt a De m ρ', fun σ' H' q => ⟨m, Nat.lt_succ_self m, q⟩, ?_⟩
      exact ⟨F, S2, ρ2, _, r2, q2, fun ρ' σ' S' H' g' r' q' => ⟨S', ρ', g12.trans g', r', q'⟩, fun v x ρ' σ' S' H' g' => k2 v x ρ' σ' S' H' (g12.trans g'), fun ρ' σ' S' H' g' => k1 ρ' σ' S' H' (g12.trans g'),
        fun ρ' σ' S' H' g' r' q' => ⟨S', ρ', g12.trans g', r', q'⟩, fun e cls d ρ' σ' S' H' g' => k5 e cls d ρ' σ' S' H' (g12.trans g')⟩
end

/-! ### targets -/
abbrev DTG := D → List SV → (List SV → Prop) → Prop
/-- js: the slots that the target stores -/
def gD (K : PySem.W.Frag) (js : List Nat) (dg : DTG) : TG := fun v σ H Q => ∃ (F : Fm) (S : Hp) (ρ : List SV) (a : D) (k : List SV → Prop), R K F S ρ σ H ∧ Rp K S a v ∧ dg a ρ k ∧
  ∀ ρ' σ' S' H', Gr F.B S S' → R K F S' ρ' σ' H' → (∀ vs : List Nat, (∀ j, j ∈ js → j ∈ vs) → wipe σ' vs = wipe σ vs) → k ρ' → Q σ' H'
def DG (X : Cx) (tg : Expr) (js : List Nat) (dg : DTG) : Prop := PG X tg (gD X.K js dg)
theorem wipe_set {σ : St} {i : Nat} {x : Option V} : ∀ {vs : List Nat}, i ∈ vs → wipe (σ.set i x) vs = wipe σ vs
  | [], h => absurd h (by simp)
  | v :: vs, h => by
    unfold wipe
    by_cases e : i ∈ vs
    · rw [wipe_set e]
    · have ev : i = v := by
        rcases List.mem_cons.mp h with q | q
        · exact q
        · exact absurd q e
      subst ev
      have c : ∀ (ws : List Nat), i ∉ ws → wipe (σ.set i x) ws = (wipe σ ws).set i x := fun ws => by
        induction ws with
        | nil => intro _; rfl
        | cons w ws ih =>
          intro hn
          rw [List.mem_cons, not_or] at hn
          unfold wipe
          rw [ih hn.2, List.set_comm _ _ hn.1]
      rw [c vs e, List.set_set]
def dgN (i : Nat) : DTG := fun a ρ k => i < ρ.length ∧ k (ρ.set i (.d a))
def setAll : List Nat → List D → List SV → (List SV → Prop) → Prop
  | [], [], ρ, k => k ρ
  | i :: is, a :: as, ρ, k => i < ρ.length ∧ setAll is as (ρ.set i (.d a)) k
  | _, _, _, _ => False
def dgT (is : List Nat) : DTG := fun a ρ k => match a with
  | .tup xs => setAll is xs ρ k
  | _ => False
theorem pg_imp {X : Cx} {tg : Expr} {t t' : TG} (h : PG X tg t) (i : ∀ v σ H Q, t' v σ H Q → t v σ H Q) : PG X tg t' := ⟨fun p s σ H x v Q I rx q => h.run p s σ H x v Q I rx (i x σ H Q q)⟩
/-- the names of a tuple target, by slots -/
def gNames : List Nat → TGs
  | [] => gNil
  | i :: is => gCons (gName i) (gNames is)
section
variable {X : Cx} {tg : Expr} {pos : Pos}
theorem d_gname (i : Nat) {x : Str} (hN : X.N.Nodup) (hi : X.N[i]? = some x := by rfl) (hx : Loc X.env.scope x := by first | exact Or.inl rfl | exact Or.inr rfl)
    (hf : X.fn x = true ∨ X.env.scope.names.lookup x = some .local := by first | exact .inl rfl | exact .inr rfl | assumption) : DG X (.Name x pos) [i] (dgN i) := by
  refine pg_imp (pg_name hN hi hx hf) fun v σ H Q ⟨F, S, ρ, a, k, r, p, q, kk⟩ => ?_
  exact kk _ _ S H (Gr.refl _ _) (r.setD (by rw [← r.len]; exact q.1) p) (fun vs h => wipe_set (h i (by simp))) q.2
theorem names_ok {K : PySem.W.Frag} : ∀ (is : List Nat) (xs : List D) (vs : List V) {F : Fm} {S H : Hp} {ρ : List SV} {σ : St} {k : List SV → Prop} {Q : St → Hp → Prop}, R K F S ρ σ H → RpL K S xs vs → setAll is xs ρ k → (∀ ρ' σ', R K F S ρ' σ' H → (∀ vs : List Nat, (∀ j, j ∈ is → j ∈ vs) → wipe σ' vs = wipe σ vs) → k ρ' → Q σ' H) → gNames is vs σ H Q
  | [], [], _, _, _, _, _, _, _, _, r, p, q, kk => ⟨p, kk _ _ r (fun _ _ => rfl) q⟩
  | i :: is, a :: as, _, F, S, H, ρ, σ, k, Q, r, ⟨v, ws, e, p1, p2⟩, ⟨h1, q⟩, kk => ⟨v, ws, e, names_ok is as ws (r.setD (by rw [← r.len]; exact h1) p1) p2 q fun ρ' σ' r' hw q' => kk ρ' σ' r' (fun us hu => (hw us fun j hj => hu j (List.mem_cons_of_mem _ hj)).trans (wipe_set (hu i List.mem_cons_self))) q'⟩
  | [], _ :: _, _, _, _, _, _, _, _, _, _, _, q, _ => q.elim
  | _ :: _, [], _, _, _, _, _, _, _, _, _, _, q, _ => q.elim
theorem setAll_len : ∀ (is : List Nat) (xs : List D) {ρ : List SV} {k : List SV → Prop}, setAll is xs ρ k → xs.length = is.length
  | [], [], _, _, _ => rfl
  | _ :: is, _ :: xs, _, _, h => by rw [List.length_cons, List.length_cons, setAll_len is xs h.2]
  | [], _ :: _, _, _, h => h.elim
  | _ :: _, [], _, _, h => h.elim
theorem d_gtup (is : List Nat) {es : List Expr} {k : Nat} (hc : X.calm = true) (h : PGs X es (gNames is)) (hn : (assignEach es X.env).length = is.length := by rfl) (hst : (assignEach es X.env).findIdx? (·.1) = none := by rfl) : DG X (.Tuple es k pos) is (dgT is) := by
  have h0 : PG X (.Tuple es k pos) (gTup X.K is.length (gNames is)) := pg_tup hc h hn hst
  refine pg_imp h0 fun v σ H Q ⟨F, S, ρ, a, kk, r, p, q, kq⟩ => ?_
  cases a with
  | tup xs =>
    obtain ⟨c, vs, e, p1, p2⟩ := p
    exact ⟨c, vs, e, sqT_mono r.s p1, by rw [p2.length]; exact setAll_len is xs q, names_ok is xs vs r p2 q fun ρ' σ' r' hw q' => kq ρ' σ' S H (Gr.refl _ _) r' hw q'⟩
  | _ => exact False.elim q
end
def dAsg (de : DTE) (dg : DTG) : DTS := fun De ρ => de ρ (fun x ρ1 => stab x ρ1 fun a ρ2 => dg a ρ2 De.nx) De.ex
theorem d_asg {X : Cx} {W : WX} {tg e : Expr} {pos : Pos} {de : DTE} {dg : DTG} (he : DE X W e de) {js : List Nat} (hg : DG X tg js dg) (hs : swapsWithSole [tg] e pos.line X.env = pure false := by rfl) (hw : swappedStores [tg] e X.env = pure none := by rfl)
    (h1 : (assignEach [tg] X.env).map (·.2) = [assign tg X.env] := by rfl) : DS X W (.Assign [tg] e pos) (dAsg de dg) := by
  refine ps_imp (ps_asg he hg hs hw h1) fun D σ H ⟨F, S, ρ, De, r, h, k1, k2, k3, k4, k5⟩ => ?_
  refine ⟨F, S, ρ, _, _, r, h, fun v x S1 ρ1 H1 g1 r1 vr1 q1 => ?_, fun e cls d S' ρ' H' g' r' => k5 e cls d ρ' σ S' H' g' r'⟩
  obtain ⟨a, S2, ρ2, g2, r2, p2, q2⟩ := VR.stab r1 vr1 q1
  exact ⟨F, S2, ρ2, a, _, r2, p2, q2, fun ρ' σ' S' H' g' r' _ q' => k1 ρ' σ' S' H' ((g1.trans g2).trans g') r' q'⟩

/-! ### what a loop walks -/
def items (a : D) (k : List D → Prop) : Prop := match a with
  | .lst xs => k xs
  | .tup xs => k xs
  | .scr ns => k (ns.map .int)
  | _ => False
/-- a list or a tuple, as it is walked -/
def iSeq (K : PySem.W.Frag) (te : TE) : TI := fun σ H Rr => te σ H fun x H1 => ∃ a, x = .ref a ∧ (((∃ xs, SqL K H1 a xs) ∧ Rr (Itl K a) H1) ∨ ((∃ xs, SqT K H1 a xs) ∧ Rr (Itt K a) H1))
theorem pi_seq {X : Cx} {tg l : Expr} {te : TE} (hl : PE X l te) : PI X tg l (iSeq X.K te) := by
  refine ⟨fun pp s0 σ0 H0 Rr I0 h0 => ?_⟩
  refine thn (hl.run pp s0 σ0 H0 _ I0 h0) fun u s1 ⟨x, H1, I1, r1, a, ex, q⟩ => ?_
  subst ex
  cases r1
  have new : ∀ {o : Obj}, Inv X pp σ0 H1 { s1 with heap := s1.heap.push o } := fun {o} => I1.kept (t' := s1.toks) fun b c e => Heap.get?_push_of_some _ e
  have fp : ∀ b, b ∈ [s1.heap.objs.size] → FpOk X pp H1 b := fun b hb => by
    obtain rfl : b = s1.heap.objs.size := by simpa using hb
    exact I1.fpOk (Nat.le_refl _) (I1.hok.fresh (Nat.le_refl _))
  rcases q with ⟨⟨xs, hq⟩, q⟩ | ⟨⟨xs, hq⟩, q⟩
  · obtain ⟨its, _, pl, _⟩ := I1.list hq
    exact wpAny_pyIter_list pl.isList ⟨_, _, _, _, H1, rfl, new, turn_list a _, ⟨_, Heap.get?_push_size _ rfl, rfl, rfl⟩, fp, q⟩
  · obtain ⟨its, _, pt, _⟩ := I1.tuple hq
    exact wpAny_pyIter_tuple (show s1.heap.IsTuple a its.toArray from pt) ⟨_, _, _, _, H1, rfl, new, turn_tuple a _, ⟨_, Heap.get?_push_size _ rfl, rfl, rfl⟩, fp, q⟩
/-- data that is walked: its items stand still while the told part stands -/
theorem Rp.walk {K : PySem.W.Frag} {S : Hp} {a : D} {v : V} {k : List D → Prop} (h : Rp K S a v) (q : items a k) : ∃ (ds : List D) (p : Addr) (vs : List V), k ds ∧ v = .ref p ∧ RpL K S ds vs ∧ ((∀ H, Same S H → SqL K H p vs) ∨ (∀ H, Same S H → SqT K H p vs)) := by
  cases a with
  | lst xs => obtain ⟨p, vs, e, h1, h2⟩ := h; exact ⟨xs, p, vs, q, e, h2, .inl fun H s => SqL.of (s _ _ h1)⟩
  | tup xs => obtain ⟨p, vs, e, h1, h2⟩ := h; exact ⟨xs, p, vs, q, e, h2, .inr fun H s => sqT_mono s h1⟩
  | scr ns => obtain ⟨p, e, h1⟩ := h; exact ⟨_, p, _, q, e, RpL.int, .inl fun H s => s.seq h1⟩
  | _ => exact False.elim q

/-! ### for -/
def dForN (dg : DTG) (body : DTS) (De : DEnds) : List D → List SV → Prop
  | [], ρ => De.nx ρ
  | a :: as, ρ => dg a ρ fun ρ1 => body { De with nx := dForN dg body De as, ct := dForN dg body De as, bk := De.nx } ρ1
def dFor (de : DTE) (dg : DTG) (body : DTS) : DTS := fun De ρ => de ρ (fun x ρ1 => stab x ρ1 fun a ρ2 => items a fun ds => dForN dg body De ds ρ2) De.ex
def rangeD (lo : Int) (n : Nat) : List D := (List.range n).map fun i => .int (lo + (i : Nat))
/-- a range's arguments: where it begins, how many -/
def rng (as : List D) (k : Int → Nat → Prop) : Prop := match as with
  | [.int n] => -1000000000000 ≤ n ∧ n ≤ 1000000000000 ∧ k 0 n.toNat
  | [.int m, .int n] => -1000000000000 ≤ m ∧ m ≤ 1000000000000 ∧ -1000000000000 ≤ n ∧ n ≤ 1000000000000 ∧ k m (n - m).toNat
  | _ => False
def dForR (dl : DTA) (dg : DTG) (body : DTS) : DTS := fun De ρ => dl ρ (fun as ρ1 => rng as fun lo n => dForN dg body De (rangeD lo n) ρ1) De.ex
section
variable {X : Cx} {W : WX} {tg it : Expr} {es body : List Stmt} {pos : Pos} {de : DTE} {dg : DTG} {db : DTS}
/-- the turns of a for over fixed items -/
theorem for_core {K : PySem.W.Frag} {J : It} {js : List Nat} {F : Fm} {S : Hp} {De : DEnds} {D0 : Ends} {σ : St} {H : Hp} {ρ : List SV} {ds : List D} {vs : List V}
    (r : R K F S ρ σ H) (pl : RpL K S ds vs) (h : dForN dg db De ds ρ)
    (go : ∀ i H', Same S H' → i < vs.length → J.go i H' ∧ ∀ x H2, J.yld i H' x H2 → H2 = H' ∧ vs[i]? = some x) (stop : ∀ H', Same S H' → J.stop vs.length H')
    (k1 : ∀ ρ' σ' S' H', Gr F.B S S' → R K F S' ρ' σ' H' → De.nx ρ' → D0.nx σ' H') (k2 : ∀ v x ρ' σ' S' H', Gr F.B S S' → R K F S' ρ' σ' H' → VR K F S' ρ' σ' H' v x → De.rt x ρ' → D0.rt v H')
    (k5 : ∀ e cls d ρ' σ' S' H', Gr F.B S S' → R K F S' ρ' σ' H' → XR K S' H' e cls d → De.ex e ρ' → W cls d σ' H') :
    ∃ Wt : Nat → Nat → St → Hp → Prop, (∃ m, Wt 0 m σ H) ∧ ∀ i m σ H, Wt i m σ H → (J.stop i H ∧ D0.nx σ H) ∨ (J.go i H ∧ ∃ N : St → Hp → Prop, (∀ σ' H', N σ' H' → ∃ m', m' < m ∧ Wt (i + 1) m' σ' H') ∧ ∀ x H', J.yld i H x H' →
      gD K js dg x σ H' fun σ2 H2 => tSD K W db { D0 with nx := N, ct := N, bk := D0.nx } σ2 H2) := by
  have ln := pl.length
  refine ⟨fun i m σ1 H1 => m = ds.length - i ∧ i ≤ ds.length ∧ ∃ S1 ρ1, Gr F.B S S1 ∧ R K F S1 ρ1 σ1 H1 ∧ dForN dg db De (ds.drop i) ρ1, ⟨_, rfl, Nat.zero_le _, S, ρ, Gr.refl _ _, r, h⟩, ?_⟩
  rintro i m σ1 H1 ⟨rfl, hi, S1, ρ1, g1, r1, w1⟩
  have sH : Same S H1 := g1.s.trans r1.s
  by_cases c : i < ds.length
  · have e : ds.drop i = ds[i] :: ds.drop (i + 1) := List.drop_eq_getElem_cons c
    rw [e] at w1
    obtain ⟨gg, gy⟩ := go i H1 sH (by omega)
    refine .inr ⟨gg, fun σ' H' => ∃ S' ρ', Gr F.B S S' ∧ R K F S' ρ' σ' H' ∧ dForN dg db De (ds.drop (i + 1)) ρ', fun σ' H' q => ⟨ds.length - (i + 1), by omega, rfl, c, q⟩, fun x H2 y => ?_⟩
    obtain ⟨rfl, hx⟩ := gy x H2 y
    obtain ⟨v, hv, hp⟩ := pl.get (i := i) (x := ds[i]) (List.getElem?_eq_getElem c)
    rw [hx] at hv
    cases hv
    refine ⟨F, S1, ρ1, ds[i], _, r1, Rp.mono g1.s hp, w1, fun ρ2 σ2 S2 H3 g2 r2 _ q2 => ?_⟩
    have g12 := g1.trans g2
    exact ⟨F, S2, ρ2, _, r2, q2, fun ρ' σ' S' H' g' r' q' => ⟨S', ρ', g12.trans g', r', q'⟩, fun v x ρ' σ' S' H' g' => k2 v x ρ' σ' S' H' (g12.trans g'), fun ρ' σ' S' H' g' => k1 ρ' σ' S' H' (g12.trans g'),
      fun ρ' σ' S' H' g' r' q' => ⟨S', ρ', g12.trans g', r', q'⟩, fun e cls d ρ' σ' S' H' g' => k5 e cls d ρ' σ' S' H' (g12.trans g')⟩
  · have e : i = ds.length := by omega
    rw [e, List.drop_length] at w1
    refine .inl ⟨?_, k1 ρ1 σ1 S1 H1 g1 r1 w1⟩
    rw [e, ← ln]
    exact stop H1 sH
theorem goL {K : PySem.W.Frag} {S : Hp} {p : Addr} {vs : List V} (h : ∀ H, Same S H → SqL K H p vs) (i : Nat) (H' : Hp) (s : Same S H') (hi : i < vs.length) : (Itl K p).go i H' ∧ ∀ x H2, (Itl K p).yld i H' x H2 → H2 = H' ∧ vs[i]? = some x :=
  ⟨⟨vs, vs[i], h H' s, List.getElem?_eq_getElem hi⟩, fun x H2 y => ⟨y.1, y.2 vs (h H' s)⟩⟩
theorem goT {K : PySem.W.Frag} {S : Hp} {p : Addr} {vs : List V} (h : ∀ H, Same S H → SqT K H p vs) (i : Nat) (H' : Hp) (s : Same S H') (hi : i < vs.length) : (Itt K p).go i H' ∧ ∀ x H2, (Itt K p).yld i H' x H2 → H2 = H' ∧ vs[i]? = some x :=
  ⟨⟨vs, vs[i], h H' s, List.getElem?_eq_getElem hi⟩, fun x H2 y => ⟨y.1, y.2 vs (h H' s)⟩⟩
theorem d_for (hp : PassesOwn (model X.prog X.w) X.A X.env X.xe) (hc : X.calm = true) (hi : DE X W it de) {js : List Nat} (hg : DG X tg js dg) (hb : DSs X W body db) (hs : ∀ x, foldedSetIterable it X.env x = pure x := by intro _; rfl) : DS X W (.For tg it body [] pos) (dFor de dg db) := by
  refine ps_imp (ps_for hp hc (pi_seq hi) hg hb hs) fun D σ H ⟨F, S, ρ, De, r, h, k1, k2, k3, k4, k5⟩ => ?_
  refine ⟨F, S, ρ, _, _, r, h, fun v x S1 ρ1 H1 g1 r1 vr1 q1 => ?_, fun e cls d S' ρ' H' g' r' => k5 e cls d ρ' σ S' H' g' r'⟩
  obtain ⟨a, S2, ρ2, g2, r2, p2, q2⟩ := VR.stab r1 vr1 q1
  obtain ⟨ds, p, vs, q3, e, pl, ht⟩ := p2.walk q2
  have g12 := g1.trans g2
  refine ⟨p, e, ?_⟩
  have kk1 := fun ρ' σ' S' H' g' => k1 ρ' σ' S' H' (g12.trans g')
  have kk2 := fun v x ρ' σ' S' H' g' => k2 v x ρ' σ' S' H' (g12.trans g')
  have kk5 := fun e cls d ρ' σ' S' H' g' => k5 e cls d ρ' σ' S' H' (g12.trans g')
  rcases ht with ht | ht
  · exact .inl ⟨⟨vs, ht _ r2.s⟩, for_core r2 pl q3 (goL ht) (fun H' s => ⟨vs, ht H' s, Nat.le_refl _⟩) kk1 kk2 kk5⟩
  · exact .inr ⟨⟨vs, ht _ r2.s⟩, for_core r2 pl q3 (goT ht) (fun H' s => ⟨vs, ht H' s, Nat.le_refl _⟩) kk1 kk2 kk5⟩
end
section
variable {X : Cx} {W : WX} {tg : Expr} {body : List Stmt} {pos p1 p2 : Pos} {dl : DTA} {dg : DTG} {db : DTS}
theorem RpL.range {K : PySem.W.Frag} {S : Hp} (f : Nat → Int) : ∀ l : List Nat, RpL K S (l.map fun i => D.int (f i)) (l.map fun i => V.int (f i))
  | [] => rfl
  | _ :: l => ⟨_, _, rfl, rfl, RpL.range f l⟩
def rangeV (lo : Int) (n : Nat) : List V := (List.range n).map fun i => .int (lo + (i : Nat))
theorem goR {lo : Int} {n : Nat} (i : Nat) (H' : Hp) (hi : i < (rangeV lo n).length) : (Itr lo n).go i H' ∧ ∀ x H2, (Itr lo n).yld i H' x H2 → H2 = H' ∧ (rangeV lo n)[i]? = some x := by
  have hn : i < n := by simpa [rangeV] using hi
  refine ⟨hn, fun x H2 y => ⟨y.1, ?_⟩⟩
  unfold rangeV
  rw [y.2, List.getElem?_map, List.getElem?_range hn]
  all_goals rfl
theorem stopR {lo : Int} {n : Nat} {H' : Hp} : (Itr lo n).stop (rangeV lo n).length H' := by
  show n ≤ (rangeV lo n).length
  simp [rangeV]
/-- a range's arguments as values -/
theorem rng_ok {K : PySem.W.Frag} {S : Hp} {as : List D} {vs : List V} {k : Int → Nat → Prop} (p : RpL K S as vs) (q : rng as k) :
    (∃ n : Int, vs = [.int n] ∧ -(2 ^ 62) ≤ n ∧ n < 2 ^ 62 ∧ k 0 n.toNat ∧ as.length = 1) ∨ (∃ m n : Int, vs = [.int m, .int n] ∧ (-(2 ^ 62) ≤ m ∧ m < 2 ^ 62 ∧ -(2 ^ 62) ≤ n ∧ n < 2 ^ 62) ∧ k m (n - m).toNat ∧ as.length = 2) := by
  unfold rng at q
  split at q
  · obtain ⟨v, w, e, e1, e2⟩ := p
    have e1 : v = .int _ := e1
    have e2 : w = [] := e2
    exact .inl ⟨_, by rw [e, e1, e2], by omega, by omega, q.2.2, rfl⟩
  · obtain ⟨v, w, e, e1, v2, w2, e2, e3, e4⟩ := p
    have e1 : v = .int _ := e1
    have e3 : v2 = .int _ := e3
    have e4 : w2 = [] := e4
    exact .inr ⟨_, _, by rw [e, e1, e2, e3, e4], ⟨by omega, by omega, by omega, by omega⟩, q.2.2.2.2, rfl⟩
  · exact q.elim
theorem d_forR1 {a : Expr} (hp : PassesOwn (model X.prog X.w) X.A X.env X.xe) (hc : X.calm = true) (hm : X.mg "range" = none) (ha : DA X W [a] dl) {js : List Nat} (hg : DG X tg js dg) (hb : DSs X W body db) (hgl : Gl X "range" := by rfl) (hs : starEach [a] X.env = [(false, eval a X.env)] := by rfl) :
    DS X W (.For tg (.Call (.Name "range" p1) [a] [] p2) body [] pos) (fun De ρ => dForR (fun ρ Q E => dl ρ (fun as ρ1 => as.length = 1 ∧ Q as ρ1) E) dg db De ρ) := by
  refine ps_imp (ps_for hp hc (pi_range1 hgl hm ha hs) hg hb) fun D σ H ⟨F, S, ρ, De, r, h, k1, k2, k3, k4, k5⟩ => ?_
  refine ⟨F, S, ρ, _, _, r, h, fun vs xs S1 ρ1 H1 g1 r1 p1 q1 => ?_, fun e cls d S' ρ' H' g' r' => k5 e cls d ρ' σ S' H' g' r'⟩
  rcases rng_ok p1 q1.2 with ⟨n, e, b1, b2, q, _⟩ | ⟨m, n, e, b, q, l⟩
  · exact ⟨n, e, b1, b2, for_core r1 (RpL.range (fun i => (0 : Int) + (i : Nat)) _) q (fun i H' _ hi => goR i H' hi) (fun H' _ => stopR) (fun ρ' σ' S' H' g' => k1 ρ' σ' S' H' (g1.trans g')) (fun v x ρ' σ' S' H' g' => k2 v x ρ' σ' S' H' (g1.trans g')) (fun e cls d ρ' σ' S' H' g' => k5 e cls d ρ' σ' S' H' (g1.trans g'))⟩
  · have l1 : xs.length = 1 := q1.1
    omega
theorem d_forR2 {a b : Expr} (hp : PassesOwn (model X.prog X.w) X.A X.env X.xe) (hc : X.calm = true) (hm : X.mg "range" = none) (ha : DA X W [a, b] dl) {js : List Nat} (hg : DG X tg js dg) (hb : DSs X W body db) (hgl : Gl X "range" := by rfl) (hs : starEach [a, b] X.env = [(false, eval a X.env), (false, eval b X.env)] := by rfl)
    (hs2 : starEach [b] X.env = [(false, eval b X.env)] := by rfl) : DS X W (.For tg (.Call (.Name "range" p1) [a, b] [] p2) body [] pos) (fun De ρ => dForR (fun ρ Q E => dl ρ (fun as ρ1 => as.length = 2 ∧ Q as ρ1) E) dg db De ρ) := by
  refine ps_imp (ps_for hp hc (pi_range2 hgl hm ha hs hs2) hg hb) fun D σ H ⟨F, S, ρ, De, r, h, k1, k2, k3, k4, k5⟩ => ?_
  refine ⟨F, S, ρ, _, _, r, h, fun vs xs S1 ρ1 H1 g1 r1 p1 q1 => ?_, fun e cls d S' ρ' H' g' r' => k5 e cls d ρ' σ S' H' g' r'⟩
  rcases rng_ok p1 q1.2 with ⟨n, e, b1, b2, q, l⟩ | ⟨m, n, e, b, q, _⟩
  · have l1 : xs.length = 2 := q1.1
    omega
  · exact ⟨m, n, e, b, for_core r1 (RpL.range (fun i => m + (i : Nat)) _) q (fun i H' _ hi => goR i H' hi) (fun H' _ => stopR) (fun ρ' σ' S' H' g' => k1 ρ' σ' S' H' (g1.trans g')) (fun v x ρ' σ' S' H' g' => k2 v x ρ' σ' S' H' (g1.trans g')) (fun e cls d ρ' σ' S' H' g' => k5 e cls d ρ' σ' S' H' (g1.trans g'))⟩
end
end DW
/-! DWd: comprehensions; defs, their calls, methods, makings. -/
namespace DW
open PySem L2

/-! ### frames: what else must stay -/
section
variable {K : PySem.W.Frag} {F : Fm} {S S' H H' : Hp} {ρ ρ' : List SV} {σ : St} {p : Addr} {u : HO}
def Fm.and (F : Fm) (p : Addr) (u : HO) : Fm := ⟨upd F.B p u, F.vs, F.n⟩
theorem R.keep (r : R K F S ρ σ H) (h : H p = some u) (hn : NoSl ρ σ p) : R K (F.and p u) S ρ σ H := by
  refine ⟨r.len, r.ln, fun a w e => ?_, r.s, fun i x h1 => ?_, r.ap⟩
  · by_cases q : a = p
    · rw [q] at e ⊢
      have e' : some u = some w := (upd_same (H := F.B)).symm.trans e
      rw [h, e']
    · have e' : F.B a = some w := (upd_ne (H := F.B) (o := u) q).symm.trans e
      exact r.b a w e'
  · obtain ⟨ov, e1, h2⟩ := r.at_ i x h1
    refine ⟨ov, e1, ?_⟩
    have far : ∀ {q : Addr}, ov = some (.ref q) → x.oo.isSome = true → F.B q = none → (F.and p u).B q = none := fun {q} e2 ho hb => by
      have : q ≠ p := fun z => hn i x h1 ho (by rw [e1, e2, z])
      exact (upd_ne (H := F.B) (o := u) this).trans hb
    cases x with
    | un => exact trivial
    | d _ => exact h2
    | ow o => obtain ⟨q, a, b, c, d⟩ := h2; exact ⟨q, a, far a rfl b, c, d⟩
    | rf o => obtain ⟨q, a, a', b, c, d⟩ := h2; exact ⟨q, a, a', far a rfl b, c, d⟩
theorem R.drop (r : R K (F.and p u) S ρ σ H) (hb : F.B p = none) : R K F S ρ σ H := by
  refine ⟨r.len, r.ln, fun a w e => r.b a w ?_, r.s, fun i x h1 => ?_, r.ap⟩
  · have : a ≠ p := fun z => by rw [z, hb] at e; cases e
    exact (upd_ne (H := F.B) (o := u) this).trans e
  · obtain ⟨ov, e1, h2⟩ := r.at_ i x h1
    refine ⟨ov, e1, ?_⟩
    have near : ∀ {q : Addr}, (F.and p u).B q = none → F.B q = none := fun {q} e => by
      by_cases z : q = p
      · rw [z]; exact hb
      · exact (upd_ne (H := F.B) (o := u) z).symm.trans e
    cases x with
    | un => exact trivial
    | d _ => exact h2
    | ow o => obtain ⟨q, a, b, c, d⟩ := h2; exact ⟨q, a, near b, c, d⟩
    | rf o => obtain ⟨q, a, a', b, c, d⟩ := h2; exact ⟨q, a, a', near b, c, d⟩
theorem Gr.drop (g : Gr (F.and p u).B S S') (hb : F.B p = none) : Gr F.B S S' := ⟨g.s, fun a h k => by
  by_cases z : a = p
  · rw [z]; exact hb
  · exact (upd_ne (H := F.B) (o := u) z).symm.trans (g.n a h k)⟩
theorem R.kept (r : R K (F.and p u) S ρ σ H) : H p = some u := r.b p u upd_same
theorem Gr.kept (g : Gr (F.and p u).B S S') (h : S p = none) : S' p = none := g.free h (by
  show upd F.B p u p ≠ none
  rw [upd_same]; exact fun z => nomatch z)
theorem R.noSl (r : R K (F.and p u) S ρ σ H) : NoSl ρ σ p := fun i x h1 ho e => by
  obtain ⟨o, eo⟩ := Option.isSome_iff_exists.mp ho
  obtain ⟨q, e2, hb, _⟩ := r.own h1 eo
  rw [e] at e2
  cases e2
  have : upd F.B p u p = none := hb
  rw [upd_same] at this
  cases this
/-- the slots of a block's own names forgotten -/
def wipeD (ρ : List SV) : List Nat → List SV
  | [] => ρ
  | v :: vs => (wipeD ρ vs).set v .un
theorem R.setUn (r : R K F S ρ σ H) (i : Nat) (ov : Option V) : R K F S (ρ.set i .un) (σ.set i ov) H := by
  refine ⟨by rw [List.length_set, List.length_set]; exact r.len, by rw [List.length_set]; exact r.ln, r.b, r.s, fun j z e => ?_, fun a b x y q ha hb xa yb sa sb => ?_⟩
  · by_cases hj : i = j
    · subst hj
      by_cases hr : i < ρ.length
      · rw [List.getElem?_set_self hr] at e
        cases e
        exact ⟨_, List.getElem?_set_self (by rw [← r.len]; exact hr), trivial⟩
      · rw [List.getElem?_eq_none (by rw [List.length_set]; omega)] at e
        cases e
    · rw [List.getElem?_set_ne hj] at e
      rw [List.getElem?_set_ne hj]
      exact r.at_ j z e
  · have w : ∀ {a : Nat} {x' : SV}, (ρ.set i .un)[a]? = some x' → x'.oo.isSome = true → i ≠ a ∧ ρ[a]? = some x' := fun {a x'} ha xa => by
      by_cases e1 : i = a
      · subst e1
        by_cases hr : i < ρ.length
        · rw [List.getElem?_set_self hr] at ha
          cases ha
          cases xa
        · rw [List.getElem?_eq_none (by rw [List.length_set]; omega)] at ha
          cases ha
      · rw [List.getElem?_set_ne e1] at ha
        exact ⟨e1, ha⟩
    obtain ⟨n1, g1⟩ := w ha xa
    obtain ⟨n2, g2⟩ := w hb yb
    rw [List.getElem?_set_ne n1] at sa
    rw [List.getElem?_set_ne n2] at sb
    exact r.ap a b x y q g1 g2 xa yb sa sb
theorem R.wipe (r : R K F S ρ σ H) : ∀ vs : List Nat, R K F S (wipeD ρ vs) (L2.wipe σ vs) H
  | [] => r
  | v :: vs => (R.wipe r vs).setUn v none
/-- behind a block: its own names' slots are as they were -/
def backD (ρ ρ0 : List SV) : List Nat → List SV
  | [] => ρ
  | v :: vs => (backD ρ ρ0 vs).set v (match ρ0[v]? with | some (.d x) => .d x | _ => .un)
theorem wipe_in {σ : St} {i : Nat} : ∀ {vs : List Nat} (h : i ∈ vs) (hi : i < σ.length), (L2.wipe σ vs)[i]? = some none
  | [], h, _ => absurd h (by simp)
  | v :: vs, h, hi => by
    unfold L2.wipe
    by_cases e : v = i
    · rw [e, List.getElem?_set_self (by rw [wipe_length]; exact hi)]
    · rw [List.getElem?_set_ne e]
      refine wipe_in ?_ hi
      rcases List.mem_cons.mp h with q | q
      · exact absurd q.symm e
      · exact q
theorem wipe_out {σ : St} {i : Nat} : ∀ {vs : List Nat} (h : i ∉ vs), (L2.wipe σ vs)[i]? = σ[i]?
  | [], _ => rfl
  | v :: vs, h => by
    rw [List.mem_cons, not_or] at h
    unfold L2.wipe
    rw [List.getElem?_set_ne (fun z => h.1 z.symm)]
    exact wipe_out h.2
theorem wipe_wipe {σ : St} {us : List Nat} : ∀ (vs : List Nat), (∀ j, j ∈ vs → j ∈ us) → L2.wipe (L2.wipe σ us) vs = L2.wipe σ us
  | [], _ => rfl
  | v :: vs, hv => by
    have ih := wipe_wipe (σ := σ) (us := us) vs fun j hj => hv j (List.mem_cons_of_mem _ hj)
    show (L2.wipe (L2.wipe σ us) vs).set v none = L2.wipe σ us
    rw [ih]
    refine List.ext_getElem? fun j => ?_
    by_cases ej : v = j
    · subst ej
      by_cases hl : v < σ.length
      · rw [List.getElem?_set_self (by rw [wipe_length]; exact hl), wipe_in (hv v List.mem_cons_self) hl]
      · rw [List.getElem?_eq_none (by rw [List.length_set, wipe_length]; omega), List.getElem?_eq_none (by rw [wipe_length]; omega)]
    · rw [List.getElem?_set_ne ej]
theorem back_len (ρ ρ0 : List SV) : ∀ vs : List Nat, (backD ρ ρ0 vs).length = ρ.length
  | [] => rfl
  | v :: vs => by unfold backD; rw [List.length_set, back_len ρ ρ0 vs]
theorem back_out {ρ ρ0 : List SV} {i : Nat} : ∀ {vs : List Nat}, i ∉ vs → (backD ρ ρ0 vs)[i]? = ρ[i]?
  | [], _ => rfl
  | v :: vs, h => by
    rw [List.mem_cons, not_or] at h
    unfold backD
    rw [List.getElem?_set_ne (fun z => h.1 z.symm)]
    exact back_out h.2
theorem back_in {ρ ρ0 : List SV} {i : Nat} : ∀ {vs : List Nat}, i ∈ vs → i < ρ.length → (backD ρ ρ0 vs)[i]? = some (match ρ0[i]? with | some (.d x) => .d x | _ => .un)
  | [], h, _ => absurd h (by simp)
  | v :: vs, h, hi => by
    unfold backD
    by_cases e : v = i
    · rw [e, List.getElem?_set_self (by rw [back_len]; exact hi)]
    · rw [List.getElem?_set_ne e]
      refine back_in ?_ hi
      rcases List.mem_cons.mp h with q | q
      · exact absurd q.symm e
      · exact q
theorem R.back {S0 H0 : Hp} {ρ0 : List SV} {vs : List Nat} (r : R K F S ρ (L2.wipe σ vs) H) (r0 : R K F S0 ρ0 σ H0) (g : Gr F.B S0 S) : R K F S (backD ρ ρ0 vs) σ H := by
  have ln : ρ.length = σ.length := by rw [r.len, wipe_length]
  have own : ∀ {i : Nat} {x : SV}, (backD ρ ρ0 vs)[i]? = some x → x.oo.isSome = true → i ∉ vs ∧ ρ[i]? = some x := fun {i x} h ho => by
    by_cases hv : i ∈ vs
    · have hi : i < ρ.length := by
        have := (List.getElem?_eq_some_iff.mp h).1
        rw [back_len] at this; exact this
      rw [back_in hv hi] at h
      cases h
      split at ho <;> cases ho
    · exact ⟨hv, (back_out hv).symm.trans h⟩
  refine ⟨by rw [back_len]; exact ln, by rw [back_len]; exact r.ln, r.b, r.s, fun i x h => ?_, fun i j x y p hx hy ox oy sx sy => ?_⟩
  · have hi : i < ρ.length := by
      have := (List.getElem?_eq_some_iff.mp h).1
      rw [back_len] at this; exact this
    have hs : i < σ.length := by rw [← ln]; exact hi
    by_cases hv : i ∈ vs
    · rw [back_in hv hi] at h
      refine ⟨σ[i], List.getElem?_eq_getElem hs, ?_⟩
      cases q : ρ0[i]? with
      | none =>
        simp only [q] at h
        cases h
        exact trivial
      | some z =>
        simp only [q] at h
        cases z with
        | d a =>
          cases h
          obtain ⟨ov, e1, w, e2, e3⟩ := r0.at_ i _ q
          rw [List.getElem?_eq_getElem hs] at e1
          cases e1
          exact ⟨w, e2, Rp.mono g.s e3⟩
        | _ =>
          cases h
          exact trivial
    · rw [back_out hv] at h
      obtain ⟨ov, e1, e2⟩ := r.at_ i x h
      rw [wipe_out hv] at e1
      exact ⟨ov, e1, e2⟩
  · obtain ⟨n1, g1⟩ := own hx ox
    obtain ⟨n2, g2⟩ := own hy oy
    exact r.ap i j x y p g1 g2 ox oy (by rw [wipe_out n1]; exact sx) (by rw [wipe_out n2]; exact sy)
end

/-! ### list comprehensions: nothing in the block raises -/
def dLcN (dg : DTG) (dt : DTT) (de : DTE) (vs : List Nat) (Q : List D → List SV → Prop) : List D → List D → List SV → Prop
  | [], acc, ρ => Q acc ρ
  | a :: as, acc, ρ => dg a ρ fun ρ1 => dt ρ1 (fun k ρ2 => if k = true then de ρ2 (fun y ρ3 => stab y ρ3 fun c ρ4 => acc.length < sizeLine ∧ dLcN dg dt de vs Q as (acc ++ [c]) (wipeD ρ4 vs)) (fun _ _ => False) else dLcN dg dt de vs Q as acc (wipeD ρ2 vs)) (fun _ _ => False)
def dYes : DTT := fun ρ Q _ => Q true ρ
def dLc (di : DTE) (dg : DTG) (dt : DTT) (de : DTE) (vs : List Nat) : DTE := fun ρ Q E => di ρ (fun x ρ1 => stab x ρ1 fun a ρ2 => items a fun ds => dLcN dg dt de vs (fun acc ρ3 => Q (.fr (.l acc)) (backD ρ3 ρ2 vs)) ds [] (wipeD ρ2 vs)) E
def dLcR (dl : DTA) (dg : DTG) (dt : DTT) (de : DTE) (vs : List Nat) : DTE := fun ρ Q E => dl ρ (fun as ρ2 => rng as fun lo n => dLcN dg dt de vs (fun acc ρ3 => Q (.fr (.l acc)) (backD ρ3 ρ2 vs)) (rangeD lo n) [] (wipeD ρ2 vs)) E
abbrev W0 : WX := fun _ _ _ _ => False
def DTs (X : Cx) (es : List Expr) (dt : DTT) : Prop := PTs X es (tDT X.K W0 dt)
theorem d_tests_nil {X : Cx} : DTs X [] dYes := ⟨fun pp s σ H Q I ⟨F, S, ρ, Qd, Ee, r, h, kq, ke⟩ => pts_nil.run pp s σ H Q I (kq true S ρ H (Gr.refl _ _) r h)⟩
theorem d_tests_one {X : Cx} {c : Expr} {dt : DTT} (h : DT X W0 c dt) : DTs X [c] dt := pts_one h
section
variable {K : PySem.W.Frag} {F : Fm} {S H : Hp} {ρ : List SV} {σ : St}
theorem lc_turns {J : It} {js : List Nat} {dg : DTG} {dt : DTT} {de : DTE} {us : List Nat} {ds : List D} {vs : List V} {Qd : List D → List SV → Prop} {QQ : VK} (r0 : R K F S ρ σ H) (pl : RpL K S ds vs) (hjs : ∀ j, j ∈ js → j ∈ us)
    (h : dLcN dg dt de us (fun acc ρ3 => Qd acc (backD ρ3 ρ us)) ds [] (wipeD ρ us))
    (go : ∀ i H', Same S H' → i < vs.length → J.go i H' ∧ ∀ x H2, J.yld i H' x H2 → H2 = H' ∧ vs[i]? = some x) (stop : ∀ H', Same S H' → J.stop vs.length H')
    (kq : ∀ v acc S' ρ' H', Gr F.B S S' → R K F S' ρ' σ H' → VR K F S' ρ' σ H' v (.fr (.l acc)) → Qd acc ρ' → QQ v H') : ∀ L, H L = none → ∃ Wt : Nat → Nat → Hp → Prop, (∃ m, Wt 0 m (upd H L (.lst []))) ∧ ∀ i m H, Wt i m H →
      (J.stop i H ∧ QQ (.ref L) H) ∨ (J.go i H ∧ ∃ Nx : Hp → Prop, (∀ H', Nx H' → ∃ m', m' < m ∧ Wt (i + 1) m' H') ∧ ∀ x H', J.yld i H x H' → gD K js dg x (L2.wipe σ us) H' fun σ2 H2 => L2.wipe σ2 us = L2.wipe σ us ∧ tDT K W0 dt σ2 H2 fun b H3 =>
        if b = true then tD K W0 de σ2 H3 fun y H4 => ∃ acc, H4 L = some (.lst acc) ∧ acc.length < sizeLine ∧ Nx (upd H4 L (.lst (acc ++ [y]))) else Nx H3) := by
  intro L hL
  have ln := pl.length
  have bL := r0.newB hL
  have nL := NoSl.new r0 hL
  have nLw : ∀ {ρ' : List SV} {σ' : St}, NoSl ρ' σ' L → NoSl ρ' σ' L := fun h => h
  -- between two turns: the list at L holds acc, outside of all that is told
  refine ⟨fun i m H1 => m = ds.length - i ∧ i ≤ ds.length ∧ ∃ S1 ρ1 acc ws, Gr F.B S S1 ∧ R K F S1 ρ1 (L2.wipe σ us) H1 ∧ S1 L = none ∧ NoSl ρ1 (L2.wipe σ us) L ∧ H1 L = some (.lst ws) ∧ RpL K S1 acc ws ∧ dLcN dg dt de us (fun acc ρ3 => Qd acc (backD ρ3 ρ us)) (ds.drop i) acc ρ1,
    ⟨_, rfl, Nat.zero_le _, S, wipeD ρ us, [], [], Gr.refl _ _, ?_, bL.2, ?_, upd_same, rfl, h⟩, ?_⟩
  · exact (r0.beside bL.1 bL.2 nL).wipe us
  · exact NoSl.new (r0.wipe us) hL
  rintro i m H1 ⟨rfl, hi, S1, ρ1, acc, ws, g1, r1, s1, n1, hw, pa, w1⟩
  have sH : Same S H1 := g1.s.trans r1.s
  by_cases c : i < ds.length
  · have e : ds.drop i = ds[i] :: ds.drop (i + 1) := List.drop_eq_getElem_cons c
    rw [e] at w1
    obtain ⟨gg, gy⟩ := go i H1 sH (by omega)
    refine .inr ⟨gg, fun H' => ∃ S' ρ' acc ws, Gr F.B S S' ∧ R K F S' ρ' (L2.wipe σ us) H' ∧ S' L = none ∧ NoSl ρ' (L2.wipe σ us) L ∧ H' L = some (.lst ws) ∧ RpL K S' acc ws ∧ dLcN dg dt de us (fun acc ρ3 => Qd acc (backD ρ3 ρ us)) (ds.drop (i + 1)) acc ρ',
      fun H' q => ⟨ds.length - (i + 1), by omega, rfl, c, q⟩, fun x H2 y => ?_⟩
    obtain ⟨rfl, hx⟩ := gy x H2 y
    obtain ⟨v, hv, hp⟩ := pl.get (i := i) (x := ds[i]) (List.getElem?_eq_getElem c)
    rw [hx] at hv
    cases hv
    have r1' := r1.keep hw n1
    refine ⟨F.and L (.lst ws), S1, ρ1, ds[i], _, r1', Rp.mono g1.s hp, w1, fun ρ2 σ2 S2 H3 g2 r2 hwipe q2 => ⟨(hwipe us hjs).trans (wipe_wipe us fun _ h => h), ?_⟩⟩
    have ew := hwipe us hjs
    rw [wipe_wipe us fun _ h => h] at ew
    have fin : ∀ {S' ρ' H'}, Gr (F.and L (.lst ws)).B S1 S' → R K (F.and L (.lst ws)) S' ρ' σ2 H' → ∃ r' : R K F S' (wipeD ρ' us) (L2.wipe σ us) H', S' L = none ∧ NoSl (wipeD ρ' us) (L2.wipe σ us) L := fun {S' ρ' H'} g' r' => by
      have rw' := r'.wipe us
      rw [ew] at rw'
      exact ⟨rw'.drop bL.1, g'.kept s1, rw'.noSl⟩
    refine ⟨F.and L (.lst ws), S2, ρ2, _, _, r2, q2, fun k S3 ρ3 H4 g3 r3 q3 => ?_, fun _ _ _ _ _ _ _ _ _ z => z.elim⟩
    have g13 := g2.trans g3
    cases k with
    | false =>
      obtain ⟨ra, rb, rc⟩ := fin g13 r3
      exact ⟨S3, _, acc, ws, g1.trans (g13.drop bL.1), ra, rb, rc, r3.kept, RpL.mono g13.s pa, q3⟩
    | true =>
      refine ⟨F.and L (.lst ws), S3, ρ3, _, _, r3, q3, fun w z S4 ρ4 H5 g4 r4 vr4 q4 => ?_, fun _ _ _ _ _ _ _ _ _ z => z.elim⟩
      obtain ⟨a', S5, ρ5, g5, r5, p5, q5⟩ := VR.stab r4 vr4 q4
      have g15 := (g13.trans g4).trans g5
      obtain ⟨ra, rb, rc⟩ := fin g15 r5
      refine ⟨ws, r5.kept, by rw [pa.length]; exact q5.1, S5, _, acc ++ [a'], ws ++ [w], g1.trans (g15.drop bL.1), ra.beside bL.1 rb rc, rb, rc, upd_same, RpL.append (RpL.mono g15.s pa) (RpL.one p5), q5.2⟩
  · have e : i = ds.length := by omega
    rw [e, List.drop_length] at w1
    refine .inl ⟨?_, ?_⟩
    · rw [e, ← ln]
      exact stop H1 sH
    · have rb := r1.back r0 g1
      refine kq _ acc S1 _ H1 g1 rb ⟨L, rfl, bL.1, s1, fun i x h ho es => ?_, ws, hw, pa⟩ w1
      have hv : i ∉ us := fun hv => by
        have hi2 : i < ρ1.length := by
          have := (List.getElem?_eq_some_iff.mp h).1
          rw [back_len] at this; exact this
        rw [back_in hv hi2] at h
        cases h
        split at ho <;> cases ho
      rw [back_out hv] at h
      exact n1 i x h ho (by rw [wipe_out hv]; exact es)
end
section
variable {X : Cx} {W : WX} {elt tg iter : Expr} {ifs : List Expr} {scope : Scope} {own : List (Str × Nat)} {pos : Pos} {di de : DTE} {dg : DTG} {dt : DTT} {js : List Nat}
theorem d_lc (hc : X.calm = true) (hN : X.N.Nodup) (hi : DE X W iter di) (ok : BlkOk X.N X.env.scope scope own) (hjs : ∀ j, j ∈ js → j ∈ own.map (·.2))
    (hg : ∀ (s : Shared) (H : Hp) (C : Addr) (cl : List (Str × Addr)) (fp : List Addr), DG (X.blk s H scope (compEnvC scope cl C X.env) fp) tg js dg) (ht : ∀ (s : Shared) (H : Hp) (C : Addr) (cl : List (Str × Addr)) (fp : List Addr), DTs (X.blk s H scope (compEnvC scope cl C X.env) fp) ifs dt)
    (he : ∀ (s : Shared) (H : Hp) (C : Addr) (cl : List (Str × Addr)) (fp : List Addr), DE (X.blk s H scope (compEnvC scope cl C X.env) fp) W0 elt de) (hs : ∀ x, foldedSetIterable iter X.env x = pure x := by intro _; rfl) :
    DE X W (.ListComp elt [⟨tg, iter, ifs, 0⟩] scope pos) (dLc di dg dt de (own.map (·.2))) := by
  refine pe_imp (pe_lc (g := gD X.K js dg) (tt := tDT X.K W0 dt) (te := tD X.K W0 de) hc hN (pi_seq hi) ok hg ht he hs) fun σ H QQ ⟨F, S, ρ, Q, Ee, r, h, kq, ke⟩ => ?_
  refine ⟨F, S, ρ, _, Ee, r, h, fun v x S1 ρ1 H1 g1 r1 vr1 q1 => ?_, ke⟩
  obtain ⟨a, S2, ρ2, g2, r2, p2, q2⟩ := VR.stab r1 vr1 q1
  obtain ⟨ds, p, vs, q3, e, pl, hw⟩ := p2.walk q2
  have g12 := g1.trans g2
  refine ⟨p, e, ?_⟩
  have kk : ∀ v acc S' ρ' H', Gr F.B S2 S' → R X.K F S' ρ' σ H' → VR X.K F S' ρ' σ H' v (.fr (.l acc)) → Q (.fr (.l acc)) ρ' → QQ v H' := fun v acc S' ρ' H' g' r' vr' q' => kq v _ S' ρ' H' (g12.trans g') r' vr' q'
  rcases hw with hw | hw
  · exact .inl ⟨⟨vs, hw _ r2.s⟩, lc_turns r2 pl hjs q3 (goL hw) (fun H' s => ⟨vs, hw H' s, Nat.le_refl _⟩) kk⟩
  · exact .inr ⟨⟨vs, hw _ r2.s⟩, lc_turns r2 pl hjs q3 (goT hw) (fun H' s => ⟨vs, hw H' s, Nat.le_refl _⟩) kk⟩
/-- y = [..] where the machine stores within the comprehension's frame -/
theorem d_setLc {i : Nat} {y : Str} {py spos : Pos} (hc : X.calm = true) (hN : X.N.Nodup) (hy : X.N[i]? = some y) (hyl : X.env.scope.names.lookup y = some .local) (hsw : swapsWith (.ListComp elt [⟨tg, iter, ifs, 0⟩] scope pos) (some (.Name y py)) spos.line X.env = pure true)
    (hi : DE X W iter di) (ok : BlkOk X.N X.env.scope scope own) (hjs : ∀ j, j ∈ js → j ∈ own.map (·.2))
    (hg : ∀ (s : Shared) (H : Hp) (C : Addr) (cl : List (Str × Addr)) (fp : List Addr), DG (X.blk s H scope (compEnvC scope cl C X.env) fp) tg js dg) (ht : ∀ (s : Shared) (H : Hp) (C : Addr) (cl : List (Str × Addr)) (fp : List Addr), DTs (X.blk s H scope (compEnvC scope cl C X.env) fp) ifs dt)
    (he : ∀ (s : Shared) (H : Hp) (C : Addr) (cl : List (Str × Addr)) (fp : List Addr), DE (X.blk s H scope (compEnvC scope cl C X.env) fp) W0 elt de) (hs : ∀ x, foldedSetIterable iter X.env x = pure x := by intro _; rfl) :
    DS X W (.Assign [.Name y py] (.ListComp elt [⟨tg, iter, ifs, 0⟩] scope pos) spos) (dSet i (dLc di dg dt de (own.map (·.2)))) := by
  refine ps_imp (ps_setLc (g := gD X.K js dg) (tt := tDT X.K W0 dt) (te := tD X.K W0 de) hc hN hy hyl hsw (pi_seq hi) ok hg ht he hs) fun D σ H ⟨F, S, ρ, De, r, h, k1, k2, k3, k4, k5⟩ => ?_
  refine ⟨F, S, ρ, _, _, r, h, fun v x S1 ρ1 H1 g1 r1 vr1 q1 => ?_, fun e cls d S' ρ' H' g' r' => k5 e cls d ρ' σ S' H' g' r'⟩
  obtain ⟨a, S2, ρ2, g2, r2, p2, q2⟩ := VR.stab r1 vr1 q1
  obtain ⟨ds, p, vs, q3, e, pl, hw⟩ := p2.walk q2
  have g12 := g1.trans g2
  refine ⟨p, e, ?_⟩
  have kk : ∀ v acc S' ρ' H', Gr F.B S2 S' → R X.K F S' ρ' σ H' → VR X.K F S' ρ' σ H' v (.fr (.l acc)) → storeS i (.fr (.l acc)) ρ' De.nx → gName i v σ H' D.nx := fun v acc S' ρ' H' g' r' vr' q' => by
    obtain ⟨S4, ρ4, g4, r4, q4⟩ := VR.store r' vr' q'
    exact k1 ρ4 _ S4 H' ((g12.trans g').trans g4) r4 q4
  rcases hw with hw | hw
  · exact .inl ⟨⟨vs, hw _ r2.s⟩, lc_turns r2 pl hjs q3 (goL hw) (fun H' s => ⟨vs, hw H' s, Nat.le_refl _⟩) kk⟩
  · exact .inr ⟨⟨vs, hw _ r2.s⟩, lc_turns r2 pl hjs q3 (goT hw) (fun H' s => ⟨vs, hw H' s, Nat.le_refl _⟩) kk⟩
end
end DW
/-! DWe: comprehensions over ranges; defs, their calls, methods, makings. -/
namespace DW
open PySem L2

section
variable {X : Cx} {W : WX} {elt tg : Expr} {ifs : List Expr} {scope : Scope} {own : List (Str × Nat)} {pos p1 p2 : Pos} {dl : DTA} {de : DTE} {dg : DTG} {dt : DTT} {js : List Nat}
theorem d_lcR1 {a : Expr} (hc : X.calm = true) (hN : X.N.Nodup) (hm : X.mg "range" = none) (ha : DA X W [a] dl) (ok : BlkOk X.N X.env.scope scope own) (hjs : ∀ j, j ∈ js → j ∈ own.map (·.2))
    (hg : ∀ (s : Shared) (H : Hp) (C : Addr) (cl : List (Str × Addr)) (fp : List Addr), DG (X.blk s H scope (compEnvC scope cl C X.env) fp) tg js dg) (ht : ∀ (s : Shared) (H : Hp) (C : Addr) (cl : List (Str × Addr)) (fp : List Addr), DTs (X.blk s H scope (compEnvC scope cl C X.env) fp) ifs dt)
    (he : ∀ (s : Shared) (H : Hp) (C : Addr) (cl : List (Str × Addr)) (fp : List Addr), DE (X.blk s H scope (compEnvC scope cl C X.env) fp) W0 elt de) (hgl : Gl X "range" := by rfl) (hst : starEach [a] X.env = [(false, eval a X.env)] := by rfl)
    (hs : ∀ x, foldedSetIterable (.Call (.Name "range" p1) [a] [] p2) X.env x = pure x := by intro _; rfl) :
    DE X W (.ListComp elt [⟨tg, .Call (.Name "range" p1) [a] [] p2, ifs, 0⟩] scope pos) (dLcR (fun ρ Q E => dl ρ (fun as ρ1 => as.length = 1 ∧ Q as ρ1) E) dg dt de (own.map (·.2))) := by
  refine pe_imp (pe_lc (g := gD X.K js dg) (tt := tDT X.K W0 dt) (te := tD X.K W0 de) hc hN (pi_range1 hgl hm ha hst) ok hg ht he hs) fun σ H QQ ⟨F, S, ρ, Q, Ee, r, h, kq, ke⟩ => ?_
  refine ⟨F, S, ρ, _, Ee, r, h, fun vs xs S1 ρ1 H1 g1 r1 p1 q1 => ?_, ke⟩
  rcases rng_ok p1 q1.2 with ⟨n, e, b1, b2, q, _⟩ | ⟨m, n, e, b, q, l⟩
  · exact ⟨n, e, b1, b2, lc_turns r1 (RpL.range (fun i => (0 : Int) + (i : Nat)) _) hjs q (fun i H' _ hi => goR i H' hi) (fun H' _ => stopR) fun v acc S' ρ' H' g' r' vr' q' => kq v _ S' ρ' H' (g1.trans g') r' vr' q'⟩
  · have l1 : xs.length = 1 := q1.1
    omega
theorem d_lcR2 {a b : Expr} (hc : X.calm = true) (hN : X.N.Nodup) (hm : X.mg "range" = none) (ha : DA X W [a, b] dl) (ok : BlkOk X.N X.env.scope scope own) (hjs : ∀ j, j ∈ js → j ∈ own.map (·.2))
    (hg : ∀ (s : Shared) (H : Hp) (C : Addr) (cl : List (Str × Addr)) (fp : List Addr), DG (X.blk s H scope (compEnvC scope cl C X.env) fp) tg js dg) (ht : ∀ (s : Shared) (H : Hp) (C : Addr) (cl : List (Str × Addr)) (fp : List Addr), DTs (X.blk s H scope (compEnvC scope cl C X.env) fp) ifs dt)
    (he : ∀ (s : Shared) (H : Hp) (C : Addr) (cl : List (Str × Addr)) (fp : List Addr), DE (X.blk s H scope (compEnvC scope cl C X.env) fp) W0 elt de) (hgl : Gl X "range" := by rfl) (hst : starEach [a, b] X.env = [(false, eval a X.env), (false, eval b X.env)] := by rfl)
    (hst2 : starEach [b] X.env = [(false, eval b X.env)] := by rfl) (hs : ∀ x, foldedSetIterable (.Call (.Name "range" p1) [a, b] [] p2) X.env x = pure x := by intro _; rfl) :
    DE X W (.ListComp elt [⟨tg, .Call (.Name "range" p1) [a, b] [] p2, ifs, 0⟩] scope pos) (dLcR (fun ρ Q E => dl ρ (fun as ρ1 => as.length = 2 ∧ Q as ρ1) E) dg dt de (own.map (·.2))) := by
  refine pe_imp (pe_lc (g := gD X.K js dg) (tt := tDT X.K W0 dt) (te := tD X.K W0 de) hc hN (pi_range2 hgl hm ha hst hst2) ok hg ht he hs) fun σ H QQ ⟨F, S, ρ, Q, Ee, r, h, kq, ke⟩ => ?_
  refine ⟨F, S, ρ, _, Ee, r, h, fun vs xs S1 ρ1 H1 g1 r1 p1 q1 => ?_, ke⟩
  rcases rng_ok p1 q1.2 with ⟨n, e, b1, b2, q, l⟩ | ⟨m, n, e, b, q, _⟩
  · have l1 : xs.length = 2 := q1.1
    omega
  · exact ⟨m, n, e, b, lc_turns r1 (RpL.range (fun i => m + (i : Nat)) _) hjs q (fun i H' _ hi => goR i H' hi) (fun H' _ => stopR) fun v acc S' ρ' H' g' r' vr' q' => kq v _ S' ρ' H' (g1.trans g') r' vr' q'⟩
end

/-! ### defs: what they do, purely -/
/-- a def by its arguments: what it gives, what it leaves of the things handed in by reference -/
abbrev DSp := List SV → (DV → List SV → Prop) → (DExc → List SV → Prop) → Prop
def outS (n : Nat) (ρ : List SV) : List SV := (ρ.take n).map fun y => match y with
  | .rf o => .rf o
  | _ => .un
/-- what a def hands back -/
def outV (x : DV) (ρ : List SV) (k : DV → Prop) : Prop := match x with
  | .d a => k (.d a)
  | .fr o => k (.fr o)
  | .sl i => match ρ[i]? with
    | some (.d a) => k (.d a)
    | some (.ow o) => k (.fr o)
    | _ => False
def dRun (n m : Nat) (body : DTS) : DSp := fun as Q E => body { nx := fun ρ => Q (.d .non) (outS n ρ), rt := fun x ρ => outV x ρ fun y => Q y (outS n ρ), ex := fun e ρ => E e (outS n ρ) } (as ++ List.replicate m .un)
def spD (K : PySem.W.Frag) (n : Nat) (G : DSp) : Sp := fun vs H QQ EE => vs.length = n ∧ ∃ (B S : Hp) (as : List SV) (Q : DV → List SV → Prop) (Ee : DExc → List SV → Prop), R K ⟨B, vs, n⟩ S as (vs.map some) H ∧ G as Q Ee ∧
  (∀ v x S' as' H', Gr B S S' → R K ⟨B, vs, n⟩ S' as' (vs.map some) H' → VR K ⟨B, vs, n⟩ S' as' (vs.map some) H' v x → (∀ i, x ≠ .sl i) → Q x as' → QQ v H') ∧
  (∀ e cls d S' as' H', Gr B S S' → R K ⟨B, vs, n⟩ S' as' (vs.map some) H' → XR K S' H' e cls d → Ee e as' → EE cls d H')

section
variable {K : PySem.W.Frag} {B S S' H H' : Hp} {vs : List V} {ρ : List SV} {σ : St} {n : Nat}
theorem out_at {i : Nat} {x : SV} (h : (outS n ρ)[i]? = some x) : i < n ∧ ((x = .un ∧ ∃ y, ρ[i]? = some y) ∨ ∃ o, x = .rf o ∧ ρ[i]? = some (.rf o)) := by
  unfold outS at h
  rw [List.getElem?_map] at h
  cases q : (ρ.take n)[i]? with
  | none => rw [q] at h; cases h
  | some y =>
    rw [q] at h
    have hi : i < n := by
      have := (List.getElem?_eq_some_iff.mp q).1
      rw [List.length_take] at this
      omega
    rw [List.getElem?_take_of_lt hi] at q
    refine ⟨hi, ?_⟩
    cases y with
    | rf o => cases h; exact .inr ⟨o, rfl, q⟩
    | _ => cases h; exact .inl ⟨rfl, _, q⟩
/-- behind a def's end: the frame is gone, what was handed in by reference is told -/
theorem R.out {m : Nat} (r : R K ⟨B, vs, m⟩ S ρ σ H) (hn : vs.length = n) (hl : n ≤ m) : R K ⟨B, vs, n⟩ S (outS n ρ) (vs.map some) H := by
  have hm : ρ.length = m := r.ln
  have key : ∀ {i : Nat} {o : OO}, ρ[i]? = some (.rf o) → ∃ p, σ[i]? = some (some (.ref p)) ∧ vs[i]? = some (.ref p) ∧ B p = none ∧ S p = none ∧ OR K S H p o := fun {i o} h => by
    obtain ⟨ov, e1, p, e2, e3, h1, h2, h3⟩ := r.at_ i _ h
    exact ⟨p, by rw [e1, e2], e3, h1, h2, h3⟩
  have lo : (outS n ρ).length = n := by
    unfold outS
    rw [List.length_map, List.length_take]
    omega
  refine ⟨by rw [lo, List.length_map, hn], lo, r.b, r.s, fun i x h => ?_, fun i j x y p hx hy ox oy sx sy => ?_⟩
  · obtain ⟨hi, q⟩ := out_at h
    rcases q with ⟨rfl, _⟩ | ⟨o, rfl, q⟩
    · refine ⟨some vs[i], ?_, trivial⟩
      rw [List.getElem?_map, List.getElem?_eq_getElem (by omega)]
      rfl
    · obtain ⟨p, _, e3, h1, h2, h3⟩ := key q
      refine ⟨some (.ref p), ?_, p, rfl, e3, h1, h2, h3⟩
      rw [List.getElem?_map, e3]
      rfl
  · obtain ⟨_, q1⟩ := out_at hx
    obtain ⟨_, q2⟩ := out_at hy
    rcases q1 with ⟨rfl, _⟩ | ⟨o1, rfl, q1⟩
    · cases ox
    · rcases q2 with ⟨rfl, _⟩ | ⟨o2, rfl, q2⟩
      · cases oy
      · obtain ⟨p1, s1, a1, _⟩ := key q1
        obtain ⟨p2, s2, a2, _⟩ := key q2
        rw [List.getElem?_map, a1] at sx
        rw [List.getElem?_map, a2] at sy
        cases sx
        cases sy
        exact r.ap i j _ _ _ q1 q2 rfl rfl s1 s2
theorem VR.out {m : Nat} {v : V} {x : DV} {k : DV → Prop} (r : R K ⟨B, vs, m⟩ S ρ σ H) (h : VR K ⟨B, vs, m⟩ S ρ σ H v x) (hn : vs.length = n) (q : outV x ρ k) : ∃ y, k y ∧ VR K ⟨B, vs, n⟩ S (outS n ρ) (vs.map some) H v y ∧ ∀ i, y ≠ .sl i := by
  have far : ∀ {p : Addr}, (∀ (i : Nat) (o : OO), ρ[i]? = some (SV.rf o) → σ[i]? ≠ some (some (V.ref p))) → NoSl (outS n ρ) (vs.map some) p := fun {p} hp i y hy oy e => by
    obtain ⟨_, q2⟩ := out_at hy
    rcases q2 with ⟨rfl, _⟩ | ⟨o, rfl, q2⟩
    · cases oy
    · obtain ⟨ov, e1, p', e2, e3, _⟩ := r.at_ i _ q2
      have e3 : vs[i]? = some (.ref p') := e3
      rw [List.getElem?_map, e3] at e
      cases e
      exact hp i o q2 (by rw [e1, e2])
  cases x with
  | d a => exact ⟨_, q, h, fun _ z => nomatch z⟩
  | fr o =>
    obtain ⟨p, e, h1, h2, h3, h4⟩ := h
    exact ⟨_, q, ⟨p, e, h1, h2, far (fun i o' h5 => h3 i _ h5 rfl), h4⟩, fun _ z => nomatch z⟩
  | sl i =>
    have h' : σ[i]? = some (some v) := h
    unfold outV at q
    cases e : ρ[i]? with
    | none => simp only [e] at q
    | some y =>
      cases y with
      | un => simp only [e] at q
      | rf o => simp only [e] at q
      | d a =>
        simp only [e] at q
        obtain ⟨ov, e1, w, e2, h2⟩ := r.at_ i _ e
        rw [h', e2] at e1
        cases e1
        exact ⟨_, q, h2, fun _ z => nomatch z⟩
      | ow o =>
        simp only [e] at q
        obtain ⟨p, e1, h1, h2, h4⟩ := r.own e rfl
        rw [h'] at e1
        cases e1
        refine ⟨_, q, ⟨p, rfl, h1, h2, far (fun j o' h5 h6 => ?_), h4⟩, fun _ z => nomatch z⟩
        have := r.ap i j _ _ p e h5 rfl rfl h' h6
        subst this
        rw [e] at h5
        cases h5
theorem R.start {as : List SV} {N : List Str} (r : R K ⟨B, vs, n⟩ S as (vs.map some) H) (hN : vs.length ≤ N.length) : R K ⟨B, vs, N.length⟩ S (as ++ List.replicate (N.length - vs.length) .un) (start N vs) H := by
  have ln : as.length = vs.length := by rw [r.len, List.length_map]
  unfold L2.start
  have old : ∀ {i : Nat} {x : SV}, (as ++ List.replicate (N.length - vs.length) .un)[i]? = some x → (as[i]? = some x ∧ i < as.length) ∨ (x = .un ∧ as.length ≤ i ∧ i < as.length + (N.length - vs.length)) := fun {i x} h => by
    by_cases c : i < as.length
    · rw [List.getElem?_append_left c] at h
      exact .inl ⟨h, c⟩
    · rw [List.getElem?_append_right (by omega), List.getElem?_replicate] at h
      split at h
      · cases h
        exact .inr ⟨rfl, by omega, by omega⟩
      · cases h
  have slot : ∀ {i : Nat}, i < as.length → (vs.map some ++ List.replicate (N.length - vs.length) none)[i]? = (vs.map some)[i]? := fun {i} c => List.getElem?_append_left (by rw [List.length_map]; omega)
  refine ⟨by simp [ln], by rw [List.length_append, List.length_replicate, ln]; show _ = N.length; omega, r.b, r.s, fun i x h => ?_, fun i j x y p hx hy ox oy sx sy => ?_⟩
  · rcases old h with ⟨h, c⟩ | ⟨rfl, c1, c2⟩
    · rw [slot c]
      exact r.at_ i x h
    · refine ⟨none, ?_, trivial⟩
      rw [List.getElem?_append_right (by rw [List.length_map]; omega), List.getElem?_replicate, if_pos (by rw [List.length_map]; omega)]
  · rcases old hx with ⟨hx, c⟩ | ⟨rfl, _⟩
    · rcases old hy with ⟨hy, c'⟩ | ⟨rfl, _⟩
      · rw [slot c] at sx
        rw [slot c'] at sy
        exact r.ap i j x y p hx hy ox oy sx sy
      · cases oy
    · cases ox
end
open PySem.Spec PyProof.Rows in
/-- THE RULE for a def by its body's pure reading -/
theorem fn_D {P : Program} {w : World} {K : PySem.W.Frag} {mg : Str → Option Value} {base : Heap} {x qual : Str} {st : Stmt} {f : Addr} {fd : FuncData} {N ps : List Str} {k : Nat} {body : DTS} (F : Fun K x qual st f fd) (S : FnScope N ps (defScope st))
    (h : ∀ (cdv : Value) (A : Around) (outer : List Env) (s : Shared) (H : Hp) (E : XK), Room k (A.deeper (envOfC qual (defScope st) s.heap.objs.size f cdv)) →
      DSs (cxOf (L2.CX P w) P w K mg base N qual (defScope st) f cdv A outer s H E) (fun cls d _ H' => E cls d H') (defBody st) body) :
    FnOk P w K mg base (L2.CX P w) (k + 1) f fd ps (spD K ps.length (dRun ps.length (N.length - ps.length) body)) := by
  refine F.okX S (fun vs H Q E q => q.1) fun cdv A outer s H vs Q E hr ⟨hl, B, S0, as, Qd, Ee, r, g, kq, ke⟩ => ⟨_, h cdv A outer s H E hr, ?_⟩
  have hN : vs.length ≤ N.length := by
    have e := congrArg List.length S.pre
    rw [List.length_take] at e
    omega
  have r0 := R.start (N := N) r hN
  rw [hl] at r0 hN
  refine ⟨_, S0, _, _, r0, g, fun ρ' σ' S' H' g' r' q' => ?_, fun v x ρ' σ' S' H' g' r' vr' q' => ?_, fun _ _ _ _ _ _ z => z.elim, fun _ _ _ _ _ _ z => z.elim, fun e cls d ρ' σ' S' H' g' r' xr' q' => ?_⟩
  · exact kq .non (.d .non) S' _ H' g' (R.out r' hl hN) rfl (fun _ z => nomatch z) q'
  · obtain ⟨y, q2, vr2, ny⟩ := VR.out (n := ps.length) (k := fun y => Qd y (outS ps.length ρ')) r' vr' hl q'
    exact kq v y S' _ H' g' (R.out r' hl hN) vr2 ny q2
  · exact ke e cls d S' _ H' g' (R.out r' hl hN) xr' q'

/-! ### calls -/
section
variable {X : Cx} {CX : CXT} {k : Nat} {f C : Addr} {fd : FuncData} {ps : List Str} {sp : Sp} {E : St → XK} {m : Str} {p pos apos : Pos} {e o : Expr} {es : List Expr} {ta : TE} {t : TA}
/-- o.m(..), what is raised wished for at the caller's slots -/
def tMethQ (C : Addr) (m : Str) (sp : Sp) (E : St → XK) (ta : TE) (t : TA) : TE := fun σ H Q => ta σ H fun x H1 => ∃ a dx fs, x = .ref a ∧ H1 a = some (.ins C dx fs) ∧ fs.lookup m = none ∧ t σ H1 fun vs H2 => sp (x :: vs) H2 Q (E σ)
theorem pe_methQ {pl : Sem Bool} (he : PE X o ta) (c : Cls X.K C) (hm : Meth X.K C m f) (F : FnOk X.prog X.w X.K X.mg X.base CX k f fd ps sp) (hr : Room k X.A) (hb : Binds X.K fd ps []) (hx : ∀ σ, PassesAt CX X σ (E σ)) (ha : PA X (e :: es) t)
    (hst : starEach (e :: es) X.env = (false, eval e X.env) :: starEach es X.env := by rfl) (hpl : (backTo pos (starEach es X.env)).any (·.1) = false := by rfl)
    (ht : eval (.Call (.Attribute o m apos) (e :: es) [] pos) X.env = (do let ov ← eval o X.env; standAt apos.atName; let (f, first) ← holding [ov] (getMethod ov m pl); callWith pos f first (backTo pos (starEach (e :: es) X.env)) (backToKw pos (keywordEach [] X.env))) := by rfl) :
    PE X (.Call (.Attribute o m apos) (e :: es) [] pos) (tMethQ C m sp E ta t) := by
  refine ⟨fun pp s0 σ0 H0 QQ I0 h0 => ?_⟩
  refine PySem.W.methodCall_KW (pl := pl) (thn (he.run pp s0 σ0 H0 _ I0 h0) fun u s1 ⟨x, H1, I1, rx, a, dx, fs, ex, ea, l, q⟩ => ?_) ht
  subst ex
  obtain rfl : u = Value.ref a := rx
  refine getmeth_ok I1 ea c hm l (PySem.W.callWith_K (first := [.ref a]) (h₀ := X.base) I0.ok.mod.kin hm.kp (thn (ha.run pos pp s1 σ0 H1 _ I1 q) fun us s2 ⟨vs, H2, I2, r, q2⟩ => ⟨I2.kIn, ?_⟩) hst hpl)
  exact run_fnS (us := .ref a :: us) (vs := .ref a :: vs) F hr hb (hx σ0) I2 (.cons rfl r) q2
theorem pe_methQ0 {pl : Sem Bool} (he : PE X o ta) (c : Cls X.K C) (hm : Meth X.K C m f) (F : FnOk X.prog X.w X.K X.mg X.base CX k f fd ps sp) (hr : Room k X.A) (hb : Binds X.K fd ps []) (hx : ∀ σ, PassesAt CX X σ (E σ))
    (ht : eval (.Call (.Attribute o m apos) [] [] pos) X.env = (do let ov ← eval o X.env; standAt apos.atName; let (f, first) ← holding [ov] (getMethod ov m pl); callWith pos f first (backTo pos (starEach [] X.env)) (backToKw pos (keywordEach [] X.env))) := by rfl) :
    PE X (.Call (.Attribute o m apos) [] [] pos) (tMethQ C m sp E ta tNil) := by
  refine ⟨fun pp s0 σ0 H0 QQ I0 h0 => ?_⟩
  refine PySem.W.methodCall_KW (pl := pl) (thn (he.run pp s0 σ0 H0 _ I0 h0) fun u s1 ⟨x, H1, I1, rx, a, dx, fs, ex, ea, l, q⟩ => ?_) ht
  subst ex
  obtain rfl : u = Value.ref a := rx
  exact getmeth_ok I1 ea c hm l (PySem.W.callWith_K0 (first := [.ref a]) I1.kIn hm.kp (run_fnS (us := [.ref a]) (vs := [.ref a]) F hr hb (hx σ0) I1 (.cons rfl .nil) q))
/-- C(..), what is raised wished for at the caller's slots -/
def tMakeQ (C : Addr) (sp : Sp) (E : St → XK) (t : TA) : TE := fun σ H Q => t σ H fun vs H1 => ∀ x dx, H1 x = none → H1 dx = none → dx ≠ x → sp (.ref x :: vs) (upd (upd H1 dx (.own x)) x (.ins C dx [])) (fun v H2 => v = .non ∧ Q (.ref x) H2) (E σ)
theorem run_makeQ {pp : List (Addr × Obj)} {σ : St} {H : Hp} {s : Shared} {Q : VK} {us : List Value} {vs : List V} (M : Mk X.K C f) (F : FnOk X.prog X.w X.K X.mg X.base (L2.CX X.prog X.w) k f fd ps sp) (hr : Room (k + 1) X.A) (hb : Binds X.K fd ps []) {W : WX} (tk : Takes X W) (I : Inv X pp σ H s) (r : Vals vs us)
    (h : ∀ x dx, H x = none → H dx = none → dx ≠ x → sp (.ref x :: vs) (upd (upd H dx (.own x)) x (.ins C dx [])) (fun v H2 => v = .non ∧ Q (.ref x) H2) (WE W σ)) :
    wpAny (model X.prog X.w) X.A (call (.ref C) us) (EP X pp σ Q) X.xe s := by
  have hq := h (s.heap.objs.size + 1) s.heap.objs.size (I.hok.fresh (Nat.le_succ _)) (I.hok.fresh (Nat.le_refl _)) (Nat.ne_of_lt (Nat.lt_succ_self _))
  have I2 := Inv.made (C := C) I
  have r2 : Vals (V.ref (s.heap.objs.size + 1) :: vs) (Value.ref (s.heap.objs.size + 1) :: us) := .cons rfl r
  have hl : ((Value.ref (s.heap.objs.size + 1) :: us) ++ ([] : List Value)).length = ps.length := by
    have q := r2.length
    rw [F.len _ _ _ _ hq] at q
    rw [List.append_nil]
    exact q.symm
  have bt := hb _ (Value.ref (s.heap.objs.size + 1) :: us) I2.kIn hl
  rw [List.append_nil] at bt
  refine wpAny_call (make_map (f := f) I.kIn M.makes M.init (beq_iff_eq.mp M.fn) (codeAny_mono (F.run _ X.stack _ _ ⟨Value.ref (s.heap.objs.size + 1) :: us, []⟩ _ _ _ (WE W σ) (hr.make C us []) (I2.env0.make C us []) bt r2 hq) fun rs s' hq' => ?_))
  cases rs with
  | error er => exact passAt tk σ pp _ _ er s' I2 hq'
  | ok fl =>
    cases fl with
    | ret u =>
      obtain ⟨v, H', I3, rv, ev, q3⟩ := I2.after hq'
      subst ev
      exact ⟨rv, V.ref (s.heap.objs.size + 1), H', I3, rfl, q3⟩
    | next => exact hq'.elim
    | brk => exact hq'.elim
    | cont => exact hq'.elim
theorem pe_makeQ {x : Str} {W : WX} (M : Mk X.K C f) (F : FnOk X.prog X.w X.K X.mg X.base (L2.CX X.prog X.w) k f fd ps sp) (hr : Room (k + 1) X.A) (hm : X.mg x = some (.ref C)) (hb : Binds X.K fd ps []) (tk : Takes X W) (ha : PA X (e :: es) t) (hg : Gl X x := by rfl)
    (hdb : (x == ("__debug__" : Str)) = false := by decide) (he : starEach (e :: es) X.env = (false, eval e X.env) :: starEach es X.env := by rfl) (hpl : (backTo pos (starEach es X.env)).any (·.1) = false := by rfl) :
    PE X (.Call (.Name x p) (e :: es) [] pos) (tMakeQ C sp (WE W) t) :=
  ⟨fun pp s0 σ0 H0 QQ I0 h0 => wpAny_Call_Name_kw (ld_glob I0 hg hm (PySem.W.callWith_K (h₀ := X.base) I0.ok.mod.kin M.kp (thn (ha.run pos pp s0 σ0 H0 _ I0 h0) fun us s1 ⟨vs, H1, I1, r, q⟩ => ⟨I1.kIn, run_makeQ M F hr hb tk I1 r q⟩) he hpl) hdb)⟩
end

/-! ### calls by pure readings -/
def dCall (n : Nat) (G : DSp) (dl : DTA) : DTE := fun ρ Q E => dl ρ (fun as ρ1 => as.length = n ∧ G (as.map .d) (fun x _ => Q x ρ1) (fun e _ => E e ρ1)) E
/-- what a def leaves of the thing handed in by reference, back into the slot i -/
def putR (i : Nat) (y : SV) (ρ : List SV) (bs : List SV) (k : List SV → Prop) : Prop := match bs with
  | .rf o :: _ => k (ρ.set i (y.re o))
  | _ => False
/-- the slot i holds a thing -/
def hasO (ρ : List SV) (i : Nat) : Prop := match ρ[i]? with
  | some (.ow _) => True
  | some (.rf _) => True
  | _ => False
def dCallR (n i : Nat) (G : DSp) (dl : DTA) : DTE := fun ρ Q E => hasO ρ i ∧ dl ρ (fun as ρ1 => as.length + 1 = n ∧ match ρ1[i]? with
  | some (.ow o) => G (.rf o :: as.map .d) (fun x bs => putR i (.ow o) ρ1 bs (Q x)) (fun e bs => putR i (.ow o) ρ1 bs (E e))
  | some (.rf o) => G (.rf o :: as.map .d) (fun x bs => putR i (.rf o) ρ1 bs (Q x)) (fun e bs => putR i (.rf o) ρ1 bs (E e))
  | _ => False) E
/-- a method of told data -/
def dMeth (n : Nat) (C0 : Addr) (m : Str) (G : DSp) (de : DTE) (dl : DTA) : DTE := fun ρ Q E => de ρ (fun x ρ1 => stab x ρ1 fun a ρ2 => match a with
  | .ins C fs => C = C0 ∧ fs.lookup m = none ∧ dl ρ2 (fun as ρ3 => as.length + 1 = n ∧ G (.d (.ins C fs) :: as.map .d) (fun x _ => Q x ρ3) (fun e _ => E e ρ3)) E
  | _ => False) E
/-- a method of the instance in slot i, by reference -/
def dMethR (n : Nat) (C0 : Addr) (m : Str) (i : Nat) (G : DSp) (dl : DTA) : DTE := fun ρ Q E => match ρ[i]? with
  | some (.ow (.i C fs)) => C = C0 ∧ fs.lookup m = none ∧ dl ρ (fun as ρ1 => as.length + 1 = n ∧ ρ1[i]? = some (.ow (.i C fs)) ∧ G (.rf (.i C fs) :: as.map .d) (fun x bs => putR i (.ow (.i C fs)) ρ1 bs (Q x)) (fun e bs => putR i (.ow (.i C fs)) ρ1 bs (E e))) E
  | some (.rf (.i C fs)) => C = C0 ∧ fs.lookup m = none ∧ dl ρ (fun as ρ1 => as.length + 1 = n ∧ ρ1[i]? = some (.rf (.i C fs)) ∧ G (.rf (.i C fs) :: as.map .d) (fun x bs => putR i (.rf (.i C fs)) ρ1 bs (Q x)) (fun e bs => putR i (.rf (.i C fs)) ρ1 bs (E e))) E
  | _ => False
def madeQ (x : DV) (bs : List SV) (k : OO → Prop) : Prop := match x, bs with
  | .d .non, .rf o :: _ => k o
  | _, _ => False
def madeE (bs : List SV) (k : Prop) : Prop := match bs with
  | .rf _ :: _ => k
  | _ => False
def dMake (n : Nat) (C0 : Addr) (G : DSp) (dl : DTA) : DTE := fun ρ Q E => dl ρ (fun as ρ1 => as.length + 1 = n ∧ G (.rf (.i C0 []) :: as.map .d) (fun x bs => madeQ x bs fun o => Q (.fr o) ρ1) (fun e bs => madeE bs (E e ρ1))) E
section
variable {K : PySem.W.Frag} {F : Fm} {S H : Hp} {ρ : List SV} {σ : St}
theorem RpL.slots : ∀ {as : List D} {vs : List V}, RpL K S as vs → ∀ {H B : Hp} (i : Nat) (x : SV), (as.map SV.d)[i]? = some x → ∃ ov, (vs.map some)[i]? = some ov ∧ ∀ arg, SR K B S H ov arg x := fun {as vs} h H B i x e => by
  rw [List.getElem?_map] at e
  cases q : as[i]? with
  | none => rw [q] at e; cases e
  | some a =>
    rw [q] at e
    cases e
    obtain ⟨v, h1, h2⟩ := h.get q
    exact ⟨some v, by rw [List.getElem?_map, h1]; rfl, fun _ => ⟨v, rfl, h2⟩⟩
theorem own_d {as : List D} {i : Nat} {x : SV} (e : (as.map SV.d)[i]? = some x) (ho : x.oo.isSome = true) : False := by
  rw [List.getElem?_map] at e
  cases q : as[i]? with
  | none => rw [q] at e; cases e
  | some a => rw [q] at e; cases e; cases ho
/-- a call with told arguments -/
theorem call_ok {n : Nat} {G : DSp} {as : List D} {vs : List V} {Q : DV → List SV → Prop} {E : DExc → List SV → Prop} {QQ : VK} {EE : XK} (r : R K F S ρ σ H) (p : RpL K S as vs) (hn : vs.length = n) (h : G (as.map .d) (fun x _ => Q x ρ) (fun e _ => E e ρ))
    (kq : ∀ v x S' H', Gr F.B S S' → R K F S' ρ σ H' → VR K F S' ρ σ H' v x → Q x ρ → QQ v H') (ke : ∀ e cls d S' H', Gr F.B S S' → R K F S' ρ σ H' → XR K S' H' e cls d → E e ρ → EE cls d H') : spD K n G vs H QQ EE := by
  have r1 : R K ⟨H, vs, n⟩ S (as.map .d) (vs.map some) H := ⟨by rw [List.length_map, List.length_map, p.length], by rw [List.length_map, ← hn, p.length], Same.refl H, r.s, fun i x e => by
    obtain ⟨ov, e1, e2⟩ := p.slots (H := H) (B := H) i x e
    exact ⟨ov, e1, e2 _⟩, fun i j x y q ha hb xa yb _ _ => (own_d ha xa).elim⟩
  have up : ∀ {S' : Hp} {bs : List SV} {H' : Hp}, Gr H S S' → R K ⟨H, vs, n⟩ S' bs (vs.map some) H' → Gr F.B S S' ∧ R K F S' ρ σ H' := fun {S' bs H'} g' r' => by
    have sm : Same H H' := r'.b
    refine ⟨⟨g'.s, fun a h1 h2 => r.b.free (g'.n a h1 h2)⟩, r.len, r.ln, r.b.trans sm, r'.s, fun i x e => ?_, r.ap⟩
    obtain ⟨ov, e1, e2⟩ := r.at_ i x e
    refine ⟨ov, e1, e2.mono g'.s fun q e3 ho hq => ?_⟩
    obtain ⟨o, eo⟩ := Option.isSome_iff_exists.mp ho
    obtain ⟨q', e4, _, _, h3⟩ := e2.own eo
    rw [e3] at e4
    cases e4
    obtain ⟨u, hu⟩ := h3.there
    exact ⟨g'.free hq (by show H q ≠ none; rw [hu]; exact fun z => nomatch z), by rw [hu, sm q u hu]⟩
  refine ⟨hn, H, S, _, _, _, r1, h, fun v x S' bs H' g' r' vr' nx q' => ?_, fun e cls d S' bs H' g' r' xr' q' => ?_⟩
  · obtain ⟨g2, r2⟩ := up g' r'
    refine kq v x S' H' g2 r2 ?_ q'
    cases x with
    | d a => exact vr'
    | fr o =>
      obtain ⟨q, e1, h1, h2, _, h4⟩ := vr'
      exact ⟨q, e1, r.b.free h1, h2, NoSl.new r h1, h4⟩
    | sl i => exact absurd rfl (nx i)
  · obtain ⟨g2, r2⟩ := up g' r'
    exact ke e cls d S' H' g2 r2 xr' q'
/-- the heap without what stands at p -/
def hide (H : Hp) (p : Addr) : Hp := fun a => if a = p then none else H a
theorem hide_ne {H : Hp} {p a : Addr} (h : a ≠ p) : hide H p a = H a := if_neg h
theorem hide_same {H : Hp} {p : Addr} : hide H p p = none := if_pos rfl
/-- a call with a thing by reference ahead of told arguments -/
theorem callR_ok {n i : Nat} {y : SV} {o : OO} {G : DSp} {as : List D} {v0 : V} {vs : List V} {Q : DV → List SV → Prop} {E : DExc → List SV → Prop} {QQ : VK} {EE : XK} (r : R K F S ρ σ H) (hy : ρ[i]? = some y) (ho : y.oo = some o) (hv : σ[i]? = some (some v0)) (p : RpL K S as vs) (hn : vs.length + 1 = n)
    (h : G (.rf o :: as.map .d) (fun x bs => ∃ o' cs, bs = .rf o' :: cs ∧ Q x (ρ.set i (y.re o'))) (fun e bs => ∃ o' cs, bs = .rf o' :: cs ∧ E e (ρ.set i (y.re o'))))
    (kq : ∀ v x S' ρ' H', Gr F.B S S' → R K F S' ρ' σ H' → VR K F S' ρ' σ H' v x → Q x ρ' → QQ v H') (ke : ∀ e cls d S' ρ' H', Gr F.B S S' → R K F S' ρ' σ H' → XR K S' H' e cls d → E e ρ' → EE cls d H') : spD K n G (v0 :: vs) H QQ EE := by
  obtain ⟨a, ha, hb, hs, hor⟩ := r.own hy ho
  rw [hv] at ha
  cases ha
  have hr : i < ρ.length := (List.getElem?_eq_some_iff.mp hy).1
  have sh : Same S (hide H a) := fun c w e => by rw [hide_ne (ne_of_none e hs)]; exact r.s c w e
  have r1 : R K ⟨hide H a, .ref a :: vs, n⟩ S (.rf o :: as.map .d) ((V.ref a :: vs).map some) H := by
    refine ⟨by rw [List.length_cons, List.length_map, List.length_map, List.length_cons, p.length], by rw [List.length_cons, List.length_map, ← hn, p.length], fun c w e => ?_, r.s, fun j x e => ?_, fun j k x z q hj hk xj xk sj sk => ?_⟩
    · by_cases z : c = a
      · have e' : hide H a c = some w := e
        rw [z, hide_same] at e'
        cases e'
      · exact (hide_ne z).symm.trans e
    · cases j with
      | zero =>
        cases e
        exact ⟨_, rfl, a, rfl, rfl, hide_same, hs, hor⟩
      | succ j =>
        obtain ⟨ov, e1, e2⟩ := p.slots (H := H) (B := hide H a) j x (by simpa using e)
        exact ⟨ov, by simpa using e1, e2 _⟩
    · cases j with
      | zero =>
        cases k with
        | zero => rfl
        | succ k => exact (own_d (as := as) (i := k) (by simpa using hk) xk).elim
      | succ j => exact (own_d (as := as) (i := j) (by simpa using hj) xj).elim
  have up : ∀ {S' : Hp} {cs : List SV} {o' : OO} {H' : Hp}, Gr (hide H a) S S' → R K ⟨hide H a, .ref a :: vs, n⟩ S' (.rf o' :: cs) ((V.ref a :: vs).map some) H' →
      Gr F.B S S' ∧ R K F S' (ρ.set i (y.re o')) σ H' ∧ (∀ q, hide H a q = none → q ≠ a → S' q = none → NoSl (ρ.set i (y.re o')) σ q) := fun {S' cs o' H'} g' r' => by
    have sm : Same (hide H a) H' := r'.b
    obtain ⟨ov, e1, pp, e2, e3, b1, s1, or1⟩ := r'.at_ 0 (.rf o') rfl
    have e1 : some (some (V.ref a)) = some ov := e1
    cases e1
    cases e2
    have sB : Same F.B (hide H a) := fun c w e => by rw [hide_ne (ne_of_none e hb)]; exact r.b c w e
    have old : ∀ {j : Nat} {x : SV}, j ≠ i → (ρ.set i (y.re o'))[j]? = some x → ρ[j]? = some x := fun {j x} hj e => by
      rw [List.getElem?_set_ne (Ne.symm hj)] at e; exact e
    have own' : ∀ {j : Nat} {x : SV}, (ρ.set i (y.re o'))[j]? = some x → x.oo.isSome = true → ∃ x0, ρ[j]? = some x0 ∧ x0.oo.isSome = true := fun {j x} e ex => by
      by_cases hj : j = i
      · subst hj
        exact ⟨y, hy, by rw [ho]; rfl⟩
      · exact ⟨x, old hj e, ex⟩
    refine ⟨⟨g'.s, fun c h1 h2 => ?_⟩, ⟨by rw [List.length_set]; exact r.len, by rw [List.length_set]; exact r.ln, sB.trans sm, r'.s, fun j x e => ?_, fun j k x z q hj hk xj xk sj sk => ?_⟩, fun q hq hqa hsq j x e ex es => ?_⟩
    · by_cases z : c = a
      · rw [z]; exact hb
      · have := g'.n c h1 h2
        rw [hide_ne z] at this
        exact r.b.free this
    · by_cases hj : j = i
      · subst hj
        rw [List.getElem?_set_self hr] at e
        cases e
        refine ⟨_, hv, ?_⟩
        cases y with
        | un => cases ho
        | d _ => cases ho
        | ow _ => exact ⟨a, rfl, hb, s1, or1⟩
        | rf _ =>
          obtain ⟨ov, e4, pq, e5, e6, _⟩ := r.at_ j _ hy
          rw [hv] at e4
          cases e4
          cases e5
          exact ⟨a, rfl, e6, hb, s1, or1⟩
      · have e' := old hj e
        obtain ⟨ov, h5, h6⟩ := r.at_ j x e'
        refine ⟨ov, h5, h6.mono g'.s fun q e2 hoq hq => ?_⟩
        have hqa : q ≠ a := fun z => hj (r.ap j i x y a e' hy hoq (by rw [ho]; rfl) (by rw [h5, e2, z]) hv)
        obtain ⟨oo, eo⟩ := Option.isSome_iff_exists.mp hoq
        obtain ⟨q', e7, _, _, h8⟩ := h6.own eo
        rw [e2] at e7
        cases e7
        obtain ⟨u, hu⟩ := h8.there
        have hh : hide H a q = some u := by rw [hide_ne hqa]; exact hu
        exact ⟨g'.free hq (by show hide H a q ≠ none; rw [hh]; exact fun z => nomatch z), by rw [hu, sm q u hh]⟩
    · obtain ⟨x1, a1, a2⟩ := own' hj xj
      obtain ⟨x2, a3, a4⟩ := own' hk xk
      exact r.ap j k x1 x2 q a1 a3 a2 a4 sj sk
    · obtain ⟨x1, a1, a2⟩ := own' e ex
      obtain ⟨oo, eo⟩ := Option.isSome_iff_exists.mp a2
      obtain ⟨q', e7, _, _, h8⟩ := r.own a1 eo
      rw [es] at e7
      cases e7
      obtain ⟨u, hu⟩ := h8.there
      rw [hide_ne hqa, hu] at hq
      cases hq
  refine ⟨by rw [List.length_cons]; exact hn, hide H a, S, _, _, _, r1, h, fun v x S' bs H' g' r' vr' nx q' => ?_, fun e cls d S' bs H' g' r' xr' q' => ?_⟩
  · obtain ⟨o', cs, rfl, q'⟩ := q'
    obtain ⟨g2, r2, ns⟩ := up g' r'
    refine kq v x S' _ H' g2 r2 ?_ q'
    cases x with
    | d b => exact vr'
    | fr ob =>
      obtain ⟨q, e1, h1, h2, h3, h4⟩ := vr'
      have hqa : q ≠ a := fun z => h3 0 (.rf o') rfl rfl (by rw [z]; rfl)
      have h1' : hide H a q = none := h1
      exact ⟨q, e1, r.b.free ((hide_ne hqa).symm.trans h1'), h2, ns q h1' hqa h2, h4⟩
    | sl j => exact absurd rfl (nx j)
  · obtain ⟨o', cs, rfl, q'⟩ := q'
    obtain ⟨g2, r2, _⟩ := up g' r'
    exact ke e cls d S' _ H' g2 r2 xr' q'
/-- a making: the new instance by reference ahead of told arguments -/
theorem make_ok {n : Nat} {C x dx : Addr} {G : DSp} {as : List D} {vs : List V} {Q : OO → Prop} {E : DExc → Prop} {QQ : VK} {EE : XK} (r : R K F S ρ σ H) (hx : H x = none) (hdx : H dx = none) (hne : dx ≠ x) (p : RpL K S as vs) (hn : vs.length + 1 = n)
    (h : G (.rf (.i C []) :: as.map .d) (fun z bs => ∃ o' cs, bs = .rf o' :: cs ∧ z = .d .non ∧ Q o') (fun e bs => ∃ o' cs, bs = .rf o' :: cs ∧ E e))
    (kq : ∀ o' S' H', Gr F.B S S' → R K F S' ρ σ H' → VR K F S' ρ σ H' (.ref x) (.fr o') → Q o' → QQ (.ref x) H') (ke : ∀ e cls d S' H', Gr F.B S S' → R K F S' ρ σ H' → XR K S' H' e cls d → E e → EE cls d H') :
    spD K n G (.ref x :: vs) (upd (upd H dx (.own x)) x (.ins C dx [])) (fun v H2 => v = .non ∧ QQ (.ref x) H2) EE := by
  have r0 : R K F S ρ σ (upd (upd H dx (.own x)) x (.ins C dx [])) := by
    have b1 := r.newB hdx
    have r2 := r.beside (u := .own x) b1.1 b1.2 (NoSl.new r hdx)
    have hx2 : upd H dx (.own x) x = none := by rw [upd_ne (Ne.symm hne)]; exact hx
    have b2 := r2.newB hx2
    exact r2.beside b2.1 b2.2 (NoSl.new r2 hx2)
  have hB : upd H dx (.own x) x = none := by rw [upd_ne (Ne.symm hne)]; exact hx
  have sH : Same H (upd H dx (.own x)) := fun c w e => by rw [upd_ne (ne_of_none e hdx)]; exact e
  have hSx : S x = none := r.s.free hx
  have r1 : R K ⟨upd H dx (.own x), .ref x :: vs, n⟩ S (.rf (.i C []) :: as.map .d) ((V.ref x :: vs).map some) (upd (upd H dx (.own x)) x (.ins C dx [])) := by
    refine ⟨by rw [List.length_cons, List.length_map, List.length_map, List.length_cons, p.length], by rw [List.length_cons, List.length_map, ← hn, p.length], fun c w e => ?_, r0.s, fun j z e => ?_, fun j k z z2 q hj hk xj xk sj sk => ?_⟩
    · have : c ≠ x := fun q => by
        have e' : upd H dx (.own x) c = some w := e
        rw [q, hB] at e'
        cases e'
      rw [upd_ne this]; exact e
    · cases j with
      | zero =>
        cases e
        exact ⟨_, rfl, x, rfl, rfl, hB, hSx, dx, [], upd_same, rfl⟩
      | succ j =>
        obtain ⟨ov, e1, e2⟩ := p.slots (H := upd (upd H dx (.own x)) x (.ins C dx [])) (B := upd H dx (.own x)) j z (by simpa using e)
        exact ⟨ov, by simpa using e1, e2 _⟩
    · cases j with
      | zero =>
        cases k with
        | zero => rfl
        | succ k => exact (own_d (as := as) (i := k) (by simpa using hk) xk).elim
      | succ j => exact (own_d (as := as) (i := j) (by simpa using hj) xj).elim
  have up : ∀ {S' : Hp} {bs : List SV} {H' : Hp}, Gr (upd H dx (.own x)) S S' → R K ⟨upd H dx (.own x), .ref x :: vs, n⟩ S' bs ((V.ref x :: vs).map some) H' → Gr F.B S S' ∧ R K F S' ρ σ H' := fun {S' bs H'} g' r' => by
    have sm : Same (upd H dx (.own x)) H' := r'.b
    refine ⟨⟨g'.s, fun c h1 h2 => r.b.free (sH.free (g'.n c h1 h2))⟩, r.len, r.ln, (r.b.trans sH).trans sm, r'.s, fun j z e => ?_, r.ap⟩
    obtain ⟨ov, e1, e2⟩ := r.at_ j z e
    refine ⟨ov, e1, e2.mono g'.s fun q e3 ho hq => ?_⟩
    obtain ⟨o, eo⟩ := Option.isSome_iff_exists.mp ho
    obtain ⟨q', e4, _, _, h3⟩ := e2.own eo
    rw [e3] at e4
    cases e4
    obtain ⟨u, hu⟩ := h3.there
    have hu2 := sH q u hu
    exact ⟨g'.free hq (by show upd H dx (.own x) q ≠ none; rw [hu2]; exact fun z => nomatch z), by rw [hu, sm q u hu2]⟩
  refine ⟨by rw [List.length_cons]; exact hn, _, S, _, _, _, r1, h, fun v z S' bs H' g' r' vr' nx q' => ?_, fun e cls d S' bs H' g' r' xr' q' => ?_⟩
  · obtain ⟨o', cs, rfl, rfl, q'⟩ := q'
    obtain ⟨g2, r2⟩ := up g' r'
    obtain ⟨ov, e1, pp, e2, e3, b1, s1, or1⟩ := r'.at_ 0 (.rf o') rfl
    have e1 : some (some (V.ref x)) = some ov := e1
    cases e1
    cases e2
    exact ⟨vr', kq o' S' H' g2 r2 ⟨x, rfl, r.b.free hx, s1, NoSl.new r hx, or1⟩ q'⟩
  · obtain ⟨o', cs, rfl, q'⟩ := q'
    obtain ⟨g2, r2⟩ := up g' r'
    exact ke e cls d S' H' g2 r2 xr' q'
end

theorem putR_eq (i : Nat) (y : SV) (ρ bs : List SV) (k : List SV → Prop) : putR i y ρ bs k = ∃ o cs, bs = .rf o :: cs ∧ k (ρ.set i (y.re o)) := by
  unfold putR
  split
  · exact propext ⟨fun h => ⟨_, _, rfl, h⟩, fun ⟨_, _, e, h⟩ => by cases e; exact h⟩
  · rename_i hno
    exact propext ⟨fun h => h.elim, fun ⟨_, _, e, _⟩ => (hno _ _ e).elim⟩
theorem made_eq (x : DV) (bs : List SV) (k : OO → Prop) : madeQ x bs k = ∃ o cs, bs = .rf o :: cs ∧ x = .d .non ∧ k o := by
  unfold madeQ
  split
  · exact propext ⟨fun h => ⟨_, _, rfl, rfl, h⟩, fun ⟨_, _, e, _, h⟩ => by cases e; exact h⟩
  · rename_i hno
    exact propext ⟨fun h => h.elim, fun ⟨_, _, e, e2, _⟩ => (hno _ _ e2 e).elim⟩
theorem madeE_eq (bs : List SV) (k : Prop) : madeE bs k = ∃ o cs, bs = SV.rf o :: cs ∧ k := by
  unfold madeE
  split
  · exact propext ⟨fun h => ⟨_, _, rfl, h⟩, fun ⟨_, _, e, h⟩ => h⟩
  · rename_i hno
    exact propext ⟨fun h => h.elim, fun ⟨_, _, e, _⟩ => (hno _ _ e).elim⟩
section
variable {X : Cx} {W : WX} {k : Nat} {f C : Addr} {fd : FuncData} {ps : List Str} {G : DSp} {x m : Str} {p pos apos : Pos} {e o : Expr} {es : List Expr} {dl : DTA} {de : DTE}
theorem d_call (F0 : FnOk X.prog X.w X.K X.mg X.base (L2.CX X.prog X.w) k f fd ps (spD X.K ps.length G)) (hr : Room k X.A) (hm : X.mg x = some (.ref f)) (hk : PySem.W.keepIn X.K (.ref f) = true) (hb : Binds X.K fd ps []) (tk : Takes X W) (ha : DA X W (e :: es) dl) (hg : Gl X x := by rfl)
    (hdb : (x == ("__debug__" : Str)) = false := by decide) (he : starEach (e :: es) X.env = (false, eval e X.env) :: starEach es X.env := by rfl) (hpl : (backTo pos (starEach es X.env)).any (·.1) = false := by rfl) :
    DE X W (.Call (.Name x p) (e :: es) [] pos) (dCall ps.length G dl) := by
  refine pe_imp (pe_callS (E := WE W) F0 hr hg hm hk hb (fun σ => passAt tk σ) ha hdb he hpl) fun σ H QQ ⟨F, S, ρ, Q, Ee, r, h, kq, ke⟩ => ?_
  refine ⟨F, S, ρ, _, Ee, r, h, fun vs xs S1 ρ1 H1 g1 r1 p1 q1 => ?_, ke⟩
  exact call_ok (Q := Q) (E := Ee) r1 p1 (by rw [p1.length]; exact q1.1) q1.2 (fun v x S' H' g' r' vr' q' => kq v x S' ρ1 H' (g1.trans g') r' vr' q') fun e cls d S' H' g' r' xr' q' => ke e cls d S' ρ1 H' (g1.trans g') r' xr' q'
theorem hasO_at {K : PySem.W.Frag} {F : Fm} {S H : Hp} {ρ : List SV} {σ : St} {i : Nat} (r : R K F S ρ σ H) (h : hasO ρ i) : ∃ v, σ[i]? = some (some v) := by
  unfold hasO at h
  cases c : ρ[i]? with
  | none => simp only [c] at h
  | some y =>
    cases y with
    | un => simp only [c] at h
    | d _ => simp only [c] at h
    | ow o =>
      obtain ⟨p, e, _⟩ := r.own c rfl
      exact ⟨_, e⟩
    | rf o =>
      obtain ⟨p, e, _⟩ := r.own c rfl
      exact ⟨_, e⟩
theorem d_callR (i : Nat) {y : Str} {py : Pos} (F0 : FnOk X.prog X.w X.K X.mg X.base (L2.CX X.prog X.w) k f fd ps (spD X.K ps.length G)) (hr : Room k X.A) (hm : X.mg x = some (.ref f)) (hk : PySem.W.keepIn X.K (.ref f) = true) (hb : Binds X.K fd ps []) (tk : Takes X W) (ha : DA X W es dl)
    (hN : X.N[i]? = some y := by rfl) (hv : Vis X.env.scope y := by first | exact Or.inl rfl | exact Or.inr (Or.inl rfl) | exact Or.inr (Or.inr rfl)) (hd : (y == ("__debug__" : Str)) = false := by decide) (hcd : (y == ("__classdict__" : Str)) = false := by decide) (hg : Gl X x := by rfl)
    (hdb : (x == ("__debug__" : Str)) = false := by decide) (he : starEach (.Name y py :: es) X.env = (false, eval (.Name y py) X.env) :: starEach es X.env := by rfl) (hpl : (backTo pos (starEach es X.env)).any (·.1) = false := by rfl) :
    DE X W (.Call (.Name x p) (.Name y py :: es) [] pos) (dCallR ps.length i G dl) := by
  refine pe_imp (pe_callS (E := WE W) F0 hr hg hm hk hb (fun σ => passAt tk σ) (pa_cons (pv i hN hv hd hcd) ha he) hdb he hpl) fun σ H QQ ⟨F, S, ρ, Q, Ee, r, h, kq, ke⟩ => ?_
  obtain ⟨v, hv⟩ := hasO_at r h.1
  refine ⟨v, hv, F, S, ρ, _, Ee, r, h.2, fun vs xs S1 ρ1 H1 g1 r1 p1 q1 => ?_, ke⟩
  have kq' : ∀ w z S' ρ' H', Gr F.B S1 S' → R X.K F S' ρ' σ H' → VR X.K F S' ρ' σ H' w z → Q z ρ' → QQ w H' := fun w z S' ρ' H' g' r' vr' q' => kq w z S' ρ' H' (g1.trans g') r' vr' q'
  have ke' : ∀ er cls d S' ρ' H', Gr F.B S1 S' → R X.K F S' ρ' σ H' → XR X.K S' H' er cls d → Ee er ρ' → W cls d σ H' := fun er cls d S' ρ' H' g' r' xr' q' => ke er cls d S' ρ' H' (g1.trans g') r' xr' q'
  have ln : vs.length + 1 = ps.length := by rw [p1.length]; exact q1.1
  have q2 := q1.2
  cases c : ρ1[i]? with
  | none => simp only [c] at q2
  | some y1 =>
    cases y1 with
    | un => simp only [c] at q2
    | d _ => simp only [c] at q2
    | ow o =>
      simp only [c, putR_eq] at q2
      exact callR_ok r1 c rfl hv p1 ln q2 kq' ke'
    | rf o =>
      simp only [c, putR_eq] at q2
      exact callR_ok r1 c rfl hv p1 ln q2 kq' ke'
theorem d_meth {pl : Sem Bool} (c : Cls X.K C) (hm : Meth X.K C m f) (F0 : FnOk X.prog X.w X.K X.mg X.base (L2.CX X.prog X.w) k f fd ps (spD X.K ps.length G)) (hr : Room k X.A) (hb : Binds X.K fd ps []) (tk : Takes X W) (ho : DE X W o de) (ha : DA X W (e :: es) dl)
    (hst : starEach (e :: es) X.env = (false, eval e X.env) :: starEach es X.env := by rfl) (hpl : (backTo pos (starEach es X.env)).any (·.1) = false := by rfl)
    (ht : eval (.Call (.Attribute o m apos) (e :: es) [] pos) X.env = (do let ov ← eval o X.env; standAt apos.atName; let (f, first) ← holding [ov] (getMethod ov m pl); callWith pos f first (backTo pos (starEach (e :: es) X.env)) (backToKw pos (keywordEach [] X.env))) := by rfl) :
    DE X W (.Call (.Attribute o m apos) (e :: es) [] pos) (dMeth ps.length C m G de dl) := by
  refine pe_imp (pe_methQ (E := WE W) ho c hm F0 hr hb (fun σ => passAt tk σ) ha hst hpl ht) fun σ H QQ ⟨F, S, ρ, Q, Ee, r, h, kq, ke⟩ => ?_
  refine ⟨F, S, ρ, _, Ee, r, h, fun v x S1 ρ1 H1 g1 r1 vr1 q1 => ?_, ke⟩
  obtain ⟨a, S2, ρ2, g2, r2, p2, q2⟩ := VR.stab r1 vr1 q1
  cases a with
  | ins C' fs =>
    obtain ⟨rfl, l, q3⟩ := q2
    obtain ⟨pa, dx, ws, e1, e2, e3⟩ := id p2
    refine ⟨pa, dx, ws, e1, r2.s _ _ e2, (e3.lookup (f := m)).2 l, F, S2, ρ2, _, Ee, r2, q3, fun vs xs S3 ρ3 H3 g3 r3 p3 q4 => ?_, fun e cls d S' ρ' H' g' r' => ke e cls d S' ρ' H' ((g1.trans g2).trans g') r'⟩
    have g13 := (g1.trans g2).trans g3
    exact call_ok (as := .ins C' fs :: xs) (Q := Q) (E := Ee) r3 (RpL.cons (Rp.mono g3.s p2) p3) (by rw [List.length_cons, p3.length]; exact q4.1) q4.2 (fun v x S' H' g' r' vr' q' => kq v x S' ρ3 H' (g13.trans g') r' vr' q') fun e cls d S' H' g' r' xr' q' => ke e cls d S' ρ3 H' (g13.trans g') r' xr' q'
  | _ => exact False.elim q2
theorem d_meth0 {pl : Sem Bool} (c : Cls X.K C) (hm : Meth X.K C m f) (F0 : FnOk X.prog X.w X.K X.mg X.base (L2.CX X.prog X.w) k f fd ps (spD X.K ps.length G)) (hr : Room k X.A) (hb : Binds X.K fd ps []) (tk : Takes X W) (ho : DE X W o de)
    (ht : eval (.Call (.Attribute o m apos) [] [] pos) X.env = (do let ov ← eval o X.env; standAt apos.atName; let (f, first) ← holding [ov] (getMethod ov m pl); callWith pos f first (backTo pos (starEach [] X.env)) (backToKw pos (keywordEach [] X.env))) := by rfl) :
    DE X W (.Call (.Attribute o m apos) [] [] pos) (dMeth ps.length C m G de dANil) := by
  refine pe_imp (pe_methQ0 (E := WE W) ho c hm F0 hr hb (fun σ => passAt tk σ) ht) fun σ H QQ ⟨F, S, ρ, Q, Ee, r, h, kq, ke⟩ => ?_
  refine ⟨F, S, ρ, _, Ee, r, h, fun v x S1 ρ1 H1 g1 r1 vr1 q1 => ?_, ke⟩
  obtain ⟨a, S2, ρ2, g2, r2, p2, q2⟩ := VR.stab r1 vr1 q1
  cases a with
  | ins C' fs =>
    obtain ⟨rfl, l, q4⟩ := q2
    obtain ⟨pa, dx, ws, e1, e2, e3⟩ := id p2
    have g13 := g1.trans g2
    exact ⟨pa, dx, ws, e1, r2.s _ _ e2, (e3.lookup (f := m)).2 l, call_ok (as := [.ins C' fs]) (Q := Q) (E := Ee) r2 (RpL.one p2) q4.1 q4.2 (fun v x S' H' g' r' vr' q' => kq v x S' ρ2 H' (g13.trans g') r' vr' q') fun e cls d S' H' g' r' xr' q' => ke e cls d S' ρ2 H' (g13.trans g') r' xr' q'⟩
  | _ => exact False.elim q2
theorem methR_at {K : PySem.W.Frag} {F : Fm} {S H : Hp} {ρ : List SV} {σ : St} {Q : DV → List SV → Prop} {E : DExc → List SV → Prop} {n i : Nat} (r : R K F S ρ σ H) (h : dMethR n C m i G dl ρ Q E) : ∃ (y : SV) (fs : List (Str × D)) (a dx : Addr) (ws : List (Str × V)), ρ[i]? = some y ∧ y.oo = some (.i C fs) ∧ σ[i]? = some (some (.ref a)) ∧ H a = some (.ins C dx ws) ∧ ws.lookup m = none ∧
    dl ρ (fun as ρ1 => as.length + 1 = n ∧ ρ1[i]? = some y ∧ G (.rf (.i C fs) :: as.map .d) (fun x bs => ∃ o' cs, bs = .rf o' :: cs ∧ Q x (ρ1.set i (y.re o'))) (fun e bs => ∃ o' cs, bs = .rf o' :: cs ∧ E e (ρ1.set i (y.re o')))) E := by
  unfold dMethR at h
  cases c : ρ[i]? with
  | none => simp only [c] at h
  | some y =>
    cases y with
    | un => simp only [c] at h
    | d _ => simp only [c] at h
    | ow o =>
      cases o with
      | i C' fs =>
        simp only [c, putR_eq] at h
        obtain ⟨rfl, l, q⟩ := h
        obtain ⟨a, e1, _, _, dx, ws, e2, e3⟩ := r.own c rfl
        exact ⟨_, fs, a, dx, ws, rfl, rfl, e1, e2, (e3.lookup (f := m)).2 l, q⟩
      | l _ => simp only [c] at h
      | k _ => simp only [c] at h
    | rf o =>
      cases o with
      | i C' fs =>
        simp only [c, putR_eq] at h
        obtain ⟨rfl, l, q⟩ := h
        obtain ⟨a, e1, _, _, dx, ws, e2, e3⟩ := r.own c rfl
        exact ⟨_, fs, a, dx, ws, rfl, rfl, e1, e2, (e3.lookup (f := m)).2 l, q⟩
      | l _ => simp only [c] at h
      | k _ => simp only [c] at h
theorem d_methR (i : Nat) {y : Str} {py : Pos} {pl : Sem Bool} (c : Cls X.K C) (hm : Meth X.K C m f) (F0 : FnOk X.prog X.w X.K X.mg X.base (L2.CX X.prog X.w) k f fd ps (spD X.K ps.length G)) (hr : Room k X.A) (hb : Binds X.K fd ps []) (tk : Takes X W) (ha : DA X W (e :: es) dl)
    (hN : X.N[i]? = some y := by rfl) (hv : Vis X.env.scope y := by first | exact Or.inl rfl | exact Or.inr (Or.inl rfl) | exact Or.inr (Or.inr rfl)) (hd : (y == ("__debug__" : Str)) = false := by decide) (hcd : (y == ("__classdict__" : Str)) = false := by decide)
    (hst : starEach (e :: es) X.env = (false, eval e X.env) :: starEach es X.env := by rfl) (hpl : (backTo pos (starEach es X.env)).any (·.1) = false := by rfl)
    (ht : eval (.Call (.Attribute (.Name y py) m apos) (e :: es) [] pos) X.env = (do let ov ← eval (.Name y py) X.env; standAt apos.atName; let (f, first) ← holding [ov] (getMethod ov m pl); callWith pos f first (backTo pos (starEach (e :: es) X.env)) (backToKw pos (keywordEach [] X.env))) := by rfl) :
    DE X W (.Call (.Attribute (.Name y py) m apos) (e :: es) [] pos) (dMethR ps.length C m i G dl) := by
  refine pe_imp (pe_methQ (E := WE W) (pv i hN hv hd hcd) c hm F0 hr hb (fun σ => passAt tk σ) ha hst hpl ht) fun σ H QQ ⟨F, S, ρ, Q, Ee, r, h, kq, ke⟩ => ?_
  obtain ⟨y1, fs, a, dx, ws, c1, c2, c3, c4, c5, q⟩ := methR_at r h
  refine ⟨_, c3, a, dx, ws, rfl, c4, c5, F, S, ρ, _, Ee, r, q, fun vs xs S1 ρ1 H1 g1 r1 p1 q1 => ?_, ke⟩
  exact callR_ok r1 q1.2.1 c2 c3 p1 (by rw [p1.length]; exact q1.1) q1.2.2 (fun w z S' ρ' H' g' r' vr' q' => kq w z S' ρ' H' (g1.trans g') r' vr' q') fun er cls d S' ρ' H' g' r' xr' q' => ke er cls d S' ρ' H' (g1.trans g') r' xr' q'
theorem d_methR0 (i : Nat) {y : Str} {py : Pos} {pl : Sem Bool} (c : Cls X.K C) (hm : Meth X.K C m f) (F0 : FnOk X.prog X.w X.K X.mg X.base (L2.CX X.prog X.w) k f fd ps (spD X.K ps.length G)) (hr : Room k X.A) (hb : Binds X.K fd ps []) (tk : Takes X W)
    (hN : X.N[i]? = some y := by rfl) (hv : Vis X.env.scope y := by first | exact Or.inl rfl | exact Or.inr (Or.inl rfl) | exact Or.inr (Or.inr rfl)) (hd : (y == ("__debug__" : Str)) = false := by decide) (hcd : (y == ("__classdict__" : Str)) = false := by decide)
    (ht : eval (.Call (.Attribute (.Name y py) m apos) [] [] pos) X.env = (do let ov ← eval (.Name y py) X.env; standAt apos.atName; let (f, first) ← holding [ov] (getMethod ov m pl); callWith pos f first (backTo pos (starEach [] X.env)) (backToKw pos (keywordEach [] X.env))) := by rfl) :
    DE X W (.Call (.Attribute (.Name y py) m apos) [] [] pos) (dMethR ps.length C m i G dANil) := by
  refine pe_imp (pe_methQ0 (E := WE W) (pv i hN hv hd hcd) c hm F0 hr hb (fun σ => passAt tk σ) ht) fun σ H QQ ⟨F, S, ρ, Q, Ee, r, h, kq, ke⟩ => ?_
  obtain ⟨y1, fs, a, dx, ws, c1, c2, c3, c4, c5, q⟩ := methR_at r h
  exact ⟨_, c3, a, dx, ws, rfl, c4, c5, callR_ok (as := []) r q.2.1 c2 c3 rfl q.1 q.2.2 kq ke⟩
theorem d_make (M : Mk X.K C f) (F0 : FnOk X.prog X.w X.K X.mg X.base (L2.CX X.prog X.w) k f fd ps (spD X.K ps.length G)) (hr : Room (k + 1) X.A) (hm : X.mg x = some (.ref C)) (hb : Binds X.K fd ps []) (tk : Takes X W) (ha : DA X W (e :: es) dl) (hg : Gl X x := by rfl)
    (hdb : (x == ("__debug__" : Str)) = false := by decide) (he : starEach (e :: es) X.env = (false, eval e X.env) :: starEach es X.env := by rfl) (hpl : (backTo pos (starEach es X.env)).any (·.1) = false := by rfl) :
    DE X W (.Call (.Name x p) (e :: es) [] pos) (dMake ps.length C G dl) := by
  refine pe_imp (pe_makeQ M F0 hr hm hb tk ha hg hdb he hpl) fun σ H QQ ⟨F, S, ρ, Q, Ee, r, h, kq, ke⟩ => ?_
  refine ⟨F, S, ρ, _, Ee, r, h, fun vs xs S1 ρ1 H1 g1 r1 p1 q1 ob dx hx hdx hne => ?_, ke⟩
  have q2 := q1.2
  simp only [made_eq, madeE_eq] at q2
  exact make_ok (Q := fun o => Q (.fr o) ρ1) (E := fun e => Ee e ρ1) r1 hx hdx hne p1 (by rw [p1.length]; exact q1.1) q2 (fun o' S' H' g' r' vr' q' => kq _ _ S' ρ1 H' (g1.trans g') r' vr' q') fun er cls d S' H' g' r' xr' q' => ke er cls d S' ρ1 H' (g1.trans g') r' xr' q'
end
end DW
/-! DWf: operators, comparisons, subscripts, built-ins, methods of lists, by pure forms. -/
namespace DW
open PySem L2

/-! ### data as the library's -/
mutual
def D.py : D → PyData
  | .non => .none
  | .bl b => .bool b
  | .int i => .int i
  | .str x => .str x
  | .lst xs => .list (D.pyL xs)
  | .tup xs => .tuple (D.pyL xs)
  | .scr ns => .list (ns.map .int)
  | .dct _ => .none
  | .ins _ _ => .none
def D.pyL : List D → List PyData
  | [] => []
  | x :: xs => x.py :: D.pyL xs
end
mutual
/-- plain data, nested at most n deep -/
def D.pl : D → Nat → Bool
  | .non, _ => true
  | .bl _, _ => true
  | .int _, _ => true
  | .str x, _ => PyData.strOk x
  | .lst _, 0 => false
  | .lst xs, n + 1 => D.plL xs n
  | .tup _, 0 => false
  | .tup xs, n + 1 => D.plL xs n
  | .scr _, 0 => false
  | .scr _, _ + 1 => true
  | .dct _, _ => false
  | .ins _ _, _ => false
def D.plL : List D → Nat → Bool
  | [], _ => true
  | x :: xs, n => x.pl n && D.plL xs n
end
theorem canAll_ints : ∀ ns : List Int, PyData.canLayAll0 (ns.map .int) = true
  | [] => by simp [PyData.canLayAll0]
  | n :: ns => by simp [PyData.canLayAll0, PyData.canLay0, canAll_ints ns]
theorem depAll_ints : ∀ ns : List Int, PyData.depthAll (ns.map .int) = 0
  | [] => by simp [PyData.depthAll]
  | n :: ns => by
    have ih := depAll_ints ns
    simp [PyData.depthAll, PyData.depth, ih]
mutual
theorem D.pl_can : ∀ (x : D) (n : Nat), x.pl n = true → x.py.canLay0 = true ∧ x.py.depth ≤ n
  | .non, _, _ => by simp [D.py, PyData.canLay0, PyData.depth]
  | .bl _, _, _ => by simp [D.py, PyData.canLay0, PyData.depth]
  | .int _, _, _ => by simp [D.py, PyData.canLay0, PyData.depth]
  | .str x, _, h => by
    have h' : PyData.strOk x = true := by simpa [D.pl] using h
    simp [D.py, PyData.canLay0, PyData.depth, h']
  | .lst xs, 0, h => by simp [D.pl] at h
  | .lst xs, n + 1, h => by
    obtain ⟨a, b⟩ := D.plL_can xs n (by simpa [D.pl] using h)
    simp only [D.py, PyData.canLay0, PyData.depth]
    exact ⟨a, by omega⟩
  | .tup xs, 0, h => by simp [D.pl] at h
  | .tup xs, n + 1, h => by
    obtain ⟨a, b⟩ := D.plL_can xs n (by simpa [D.pl] using h)
    simp only [D.py, PyData.canLay0, PyData.depth]
    exact ⟨a, by omega⟩
  | .scr ns, 0, h => by simp [D.pl] at h
  | .scr ns, n + 1, _ => by
    simp only [D.py, PyData.canLay0, PyData.depth]
    exact ⟨canAll_ints ns, by rw [depAll_ints]; omega⟩
  | .dct _, _, h => by simp [D.pl] at h
  | .ins _ _, _, h => by simp [D.pl] at h
theorem D.plL_can : ∀ (xs : List D) (n : Nat), D.plL xs n = true → PyData.canLayAll0 (D.pyL xs) = true ∧ PyData.depthAll (D.pyL xs) ≤ n
  | [], _, _ => by simp [D.pyL, PyData.canLayAll0, PyData.depthAll]
  | x :: xs, n, h => by
    have h' : x.pl n = true ∧ D.plL xs n = true := by simpa [D.plL] using h
    obtain ⟨a, b⟩ := D.pl_can x n h'.1
    obtain ⟨c, d⟩ := D.plL_can xs n h'.2
    simp only [D.pyL, PyData.canLayAll0, PyData.depthAll, a, c]
    exact ⟨rfl, by omega⟩
end
theorem D.shaped {x : D} {n : Nat} (hn : n ≤ 64) (h : x.pl n = true) : SeqAt.shaped x.py = true := by
  obtain ⟨a, b⟩ := D.pl_can x n h
  show (x.py.canLay0 && decide (x.py.depth ≤ 64)) = true
  rw [a, decide_eq_true (by omega)]
  rfl
theorem DpAll_ints {K : PySem.W.Frag} {H : Hp} : ∀ ns : List Int, DpAll K H (ns.map V.int) (ns.map .int)
  | [] => .nil
  | n :: ns => .cons (.int n) (DpAll_ints ns)
mutual
theorem Rp.dp {K : PySem.W.Frag} {H : Hp} : ∀ (x : D) (n : Nat) (v : V), Rp K H x v → x.pl n = true → Dp K H v x.py
  | .non, _, _, h, _ => by
    have e : _ = V.non := h
    rw [e]; exact .non
  | .bl b, _, _, h, _ => by
    have e : _ = V.bl b := h
    rw [e]; exact .bl b
  | .int i, _, _, h, _ => by
    have e : _ = V.int i := h
    rw [e]; exact .int i
  | .str x, _, _, h, _ => by
    have e : _ = V.str x := h
    rw [e]; exact .str x
  | .lst xs, 0, _, _, q => by simp [D.pl] at q
  | .lst xs, n + 1, _, ⟨a, vs, e, h1, h2⟩, q => by
    rw [e]
    exact .lst (SqL.of h1) (RpL.dp xs n vs h2 (by simpa [D.pl] using q))
  | .tup xs, 0, _, _, q => by simp [D.pl] at q
  | .tup xs, n + 1, _, ⟨a, vs, e, h1, h2⟩, q => by
    rw [e]
    exact .tup h1 (RpL.dp xs n vs h2 (by simpa [D.pl] using q))
  | .scr ns, _, _, ⟨a, e, h1⟩, _ => by
    rw [e]
    exact .lst h1 (DpAll_ints ns)
  | .dct _, _, _, _, q => by simp [D.pl] at q
  | .ins _ _, _, _, _, q => by simp [D.pl] at q
theorem RpL.dp {K : PySem.W.Frag} {H : Hp} : ∀ (xs : List D) (n : Nat) (vs : List V), RpL K H xs vs → D.plL xs n = true → DpAll K H vs (D.pyL xs)
  | [], _, _, h, _ => by
    have e : _ = ([] : List V) := h
    rw [e]; exact .nil
  | x :: xs, n, _, ⟨v, ws, e, h1, h2⟩, q => by
    have q' : x.pl n = true ∧ D.plL xs n = true := by simpa [D.plL] using q
    rw [e]
    exact .cons (Rp.dp x n v h1 q'.1) (RpL.dp xs n ws h2 q'.2)
end
/-- == of data -/
def D.eqv (a b : D) : Bool := PyData.eqv a.py b.py

/-! ### numbers, texts, lists by operators -/
def fAdd (a b : D) (k : DV → Prop) : Prop := match a, b with
  | .int i, .int j => k (.d (.int (i + j)))
  | .str x, .str y => x.length + y.length ≤ sizeLine ∧ k (.d (.str (x ++ y)))
  | .lst xs, .lst ys => xs.length + ys.length ≤ sizeLine ∧ k (.fr (.l (xs ++ ys)))
  | .tup xs, .tup ys => xs ≠ [] ∧ xs.length + ys.length ≤ sizeLine ∧ k (.d (.tup (xs ++ ys)))
  | _, _ => False
def fSub (a b : D) (k : DV → Prop) : Prop := match a, b with
  | .int i, .int j => k (.d (.int (i - j)))
  | _, _ => False
def fMul (a b : D) (k : DV → Prop) : Prop := match a, b with
  | .int i, .int j => (i.natAbs < 2 ^ 64 ∨ j.natAbs < 2 ^ 64 ∨ (i.natAbs < 2 ^ 400000 ∧ j.natAbs < 2 ^ 400000)) ∧ k (.d (.int (i * j)))
  | .lst xs, .int j => j ≤ 100000 ∧ -100000 ≤ j ∧ xs.length * j.toNat ≤ sizeLine ∧ k (.fr (.l (List.replicate j.toNat xs).flatten))
  | _, _ => False
def fDiv (a b : D) (k : DV → Prop) : Prop := match a, b with
  | .int i, .int j => ((j ≠ 0 ∧ j.natAbs < 1073741824) ∨ (0 < j ∧ j.natAbs < 2 ^ 8000)) ∧ k (.d (.int (i.fdiv j)))
  | _, _ => False
def fMod (a b : D) (k : DV → Prop) : Prop := match a, b with
  | .int i, .int j => j ≠ 0 ∧ k (.d (.int (i.fmod j)))
  | _, _ => False
def fPow (a b : D) (k : DV → Prop) : Prop := match a, b with
  | .int i, .int j => 0 ≤ j ∧ j ≤ 1000000 ∧ i.natAbs < 2 ^ 64 ∧ k (.d (.int (i ^ j.toNat)))
  | _, _ => False
def fNeg (a : D) (k : DV → Prop) : Prop := match a with
  | .int i => k (.d (.int (-i)))
  | _ => False
def fCmp (p : Int → Int → Bool) (a b : D) (k : DV → Prop) : Prop := match a, b with
  | .int i, .int j => k (.d (.bl (p i j)))
  | _, _ => False
abbrev fLt := fCmp fun i j => decide (i < j)
abbrev fLe := fCmp fun i j => decide (i ≤ j)
abbrev fGt := fCmp fun i j => decide (j < i)
abbrev fGe := fCmp fun i j => decide (j ≤ i)
def fEq (a b : D) (k : DV → Prop) : Prop := a.pl 8 = true ∧ b.pl 8 = true ∧ k (.d (.bl (D.eqv a b)))
def fNe (a b : D) (k : DV → Prop) : Prop := a.pl 8 = true ∧ b.pl 8 = true ∧ k (.d (.bl (!D.eqv a b)))
def D.isN : D → Bool
  | .non => true
  | _ => false
def fIsN (a b : D) (k : DV → Prop) : Prop := match b with
  | .non => k (.d (.bl a.isN))
  | _ => False
def fNotN (a b : D) (k : DV → Prop) : Prop := match b with
  | .non => k (.d (.bl (!a.isN)))
  | _ => False

section
variable {X : Cx} {K : PySem.W.Frag} {S H : Hp}
theorem Res.int {i : Int} : Res K S H (.int i) (.d (.int i)) H := .d (c := .int i) rfl
theorem Res.str {i : Str} : Res K S H (.str i) (.d (.str i)) H := .d (c := .str i) rfl
theorem Res.bl {i : Bool} : Res K S H (.bl i) (.d (.bl i)) H := .d (c := .bl i) rfl
theorem Res.non : Res K S H .non (.d .non) H := .d (c := .non) rfl
theorem Res.lst {p : Addr} {vs : List V} {xs : List D} (n : H p = none) (h : RpL K S xs vs) : Res K S H (.ref p) (.fr (.l xs)) (upd H p (.lst vs)) := .fr (o := .l xs) n ⟨vs, upd_same, h⟩
theorem Res.dct {p : Addr} {vs : List (Key × V)} {xs : List (Key × D)} (n : H p = none) (h : RpK K S xs vs) : Res K S H (.ref p) (.fr (.k xs)) (upd H p (.dK vs)) := .fr (o := .k xs) n ⟨vs, upd_same, h⟩
theorem Res.tup {p : Addr} {vs : List V} {xs : List D} (n : H p = none) (h : RpL K S xs vs) : Res K S H (.ref p) (.d (.tup xs)) (upd H p (.tup vs)) := .new (c := .tup xs) n fun S' e q => ⟨p, vs, rfl, SqT.of q, RpL.mono e h⟩
abbrev rAddA (K : PySem.W.Frag) : R2 := fun x y H Q => (rI0 fun i j => .int (i + j)) x y H Q ∨ (∃ i j, x = .str i ∧ y = .str j ∧ i.length + j.length ≤ sizeLine ∧ Q (.str (i ++ j)) H) ∨ rCat x y H Q ∨ rCatT K x y H Q
theorem op_addA : OpR X (binaryOp .Add) (rAddA X.K) := op_add.or (op_add_str.or (op_cat.or op_catT))
theorem ok_add : OpOk K fAdd (rAddA K) := by
  intro S H a b x y Qz QQ sh ha hb h kq
  unfold fAdd at h
  split at h
  · exact .inl ⟨_, _, ha, hb, kq _ _ H Res.int h⟩
  · exact .inr (.inl ⟨_, _, ha, hb, h.1, kq _ _ H Res.str h.2⟩)
  · obtain ⟨p, vs, e1, h1, h2⟩ := ha
    obtain ⟨q, ws, e2, h3, h4⟩ := hb
    refine .inr (.inr (.inl ⟨p, q, vs, ws, e1, e2, h1, h3, by rw [h2.length, h4.length]; exact h.1, fun l hl => kq _ _ _ (Res.lst hl (RpL.append h2 h4)) h.2⟩))
  · obtain ⟨p, vs, e1, h1, h2⟩ := ha
    obtain ⟨q, ws, e2, h3, h4⟩ := hb
    refine .inr (.inr (.inr ⟨p, q, vs, ws, e1, e2, sqT_mono sh h1, sqT_mono sh h3, fun z => h.1 ?_, by rw [h2.length, h4.length]; exact h.2.1, fun z => ?_, fun _ l hl => kq _ _ _ (Res.tup hl (RpL.append h2 h4)) h.2.2⟩))
    · have := h2.length
      rw [z] at this
      exact List.length_eq_zero_iff.mp this.symm
    · have l0 := h4.length
      rw [z] at l0
      have : _ = [] := List.length_eq_zero_iff.mp l0.symm
      have hh := h.2.2
      rw [this, List.append_nil] at hh
      exact kq _ _ H (.d (c := .tup _) ⟨p, vs, rfl, h1, h2⟩) hh
  · exact h.elim
theorem ok_sub : OpOk K fSub (rI0 fun i j => .int (i - j)) := by
  intro S H a b x y Qz QQ sh ha hb h kq
  unfold fSub at h
  split at h
  · exact ⟨_, _, ha, hb, kq _ _ H Res.int h⟩
  · exact h.elim
abbrev rMulA : R2 := fun x y H Q => (rI CMul fun i j => .int (i * j)) x y H Q ∨ (rI CMulW fun i j => .int (i * j)) x y H Q ∨ rRep x y H Q
theorem op_mulA : OpR X (binaryOp .Mult) rMulA := op_mul.or (op_mulW.or op_rep)
theorem ok_mul : OpOk K fMul rMulA := by
  intro S H a b x y Qz QQ sh ha hb h kq
  unfold fMul at h
  split at h
  · rcases h.1 with c | c | c
    · exact .inl ⟨_, _, ha, hb, .inl (by omega), kq _ _ H Res.int h.2⟩
    · exact .inl ⟨_, _, ha, hb, .inr (by omega), kq _ _ H Res.int h.2⟩
    · exact .inr (.inl ⟨_, _, ha, hb, wide_mul c.1 c.2 (by decide) (by decide) (by decide), kq _ _ H Res.int h.2⟩)
  · obtain ⟨p, vs, e1, h1, h2⟩ := ha
    refine .inr (.inr ⟨p, _, vs, e1, hb, h1, by omega, by omega, by rw [h2.length]; exact h.2.2.1, fun l hl => kq _ _ _ (Res.lst hl (RpL.flatten _ h2)) h.2.2.2⟩)
  · exact h.elim
abbrev rDivA : R2 := fun x y H Q => (rI CDivN fun i j => .int (i.fdiv j)) x y H Q ∨ (rI CDivW fun i j => .int (i / j)) x y H Q
theorem op_divA : OpR X (binaryOp .FloorDiv) rDivA := op_fdivN.or op_fdivW
theorem ok_div : OpOk K fDiv rDivA := by
  intro S H a b x y Qz QQ sh ha hb h kq
  unfold fDiv at h
  split at h
  · rename_i i j
    rcases h.1 with c | c
    · exact .inl ⟨_, _, ha, hb, c, kq _ _ H Res.int h.2⟩
    · have e : i / j = i.fdiv j := (Int.fdiv_eq_ediv_of_nonneg i (by omega)).symm
      exact .inr ⟨_, _, ha, hb, wide_div c.1 c.2 (by decide) (by decide), by show QQ (.int (i / j)) H; rw [e]; exact kq _ _ H Res.int h.2⟩
  · exact h.elim
theorem ok_mod : OpOk K fMod (rI (fun _ j => j ≠ 0) fun i j => .int (i.fmod j)) := by
  intro S H a b x y Qz QQ sh ha hb h kq
  unfold fMod at h
  split at h
  · exact ⟨_, _, ha, hb, h.1, kq _ _ H Res.int h.2⟩
  · exact h.elim
theorem ok_pow : OpOk K fPow (rI CPow fun i j => .int (i ^ j.toNat)) := by
  intro S H a b x y Qz QQ sh ha hb h kq
  unfold fPow at h
  split at h
  · exact ⟨_, _, ha, hb, ⟨h.1, h.2.1, h.2.2.1⟩, kq _ _ H Res.int h.2.2.2⟩
  · exact h.elim
theorem ok_cmp (p : Int → Int → Bool) : OpOk K (fCmp p) (rI0 fun i j => .bl (p i j)) := by
  intro S H a b x y Qz QQ sh ha hb h kq
  unfold fCmp at h
  split at h
  · exact ⟨_, _, ha, hb, kq _ _ H Res.bl h⟩
  · exact h.elim
theorem ok_eq : OpOk K fEq (rEqD K) := fun S H a b x y Qz QQ sh ha hb h kq => ⟨a.py, b.py, Rp.dp a 8 x (ha.all sh) h.1, Rp.dp b 8 y (hb.all sh) h.2.1, D.shaped (by decide) h.1, D.shaped (by decide) h.2.1, kq _ _ H Res.bl h.2.2⟩
theorem ok_ne : OpOk K fNe (rNeD K) := fun S H a b x y Qz QQ sh ha hb h kq => ⟨a.py, b.py, Rp.dp a 8 x (ha.all sh) h.1, Rp.dp b 8 y (hb.all sh) h.2.1, D.shaped (by decide) h.1, D.shaped (by decide) h.2.1, kq _ _ H Res.bl h.2.2⟩
theorem non_iff {a : D} {x : V} (h : Rp1 K S H a x) : decide (x = .non) = a.isN := by
  cases a with
  | non => have e : x = .non := h; rw [e]; rfl
  | bl b => have e : x = .bl b := h; rw [e]; rfl
  | int i => have e : x = .int i := h; rw [e]; rfl
  | str z => have e : x = .str z := h; rw [e]; rfl
  | lst xs => obtain ⟨p, _, e, _⟩ := h; rw [e]; rfl
  | tup xs => obtain ⟨p, _, e, _⟩ := h; rw [e]; rfl
  | scr xs => obtain ⟨p, e, _⟩ := h; rw [e]; rfl
  | dct xs => obtain ⟨p, _, e, _⟩ := h; rw [e]; rfl
  | ins C fs => obtain ⟨p, _, _, e, _⟩ := h; rw [e]; rfl
theorem ok_isN : OpOk K fIsN (fun x y H Q => y = .non ∧ Q (.bl (decide (x = .non))) H) := by
  intro S H a b x y Qz QQ sh ha hb h kq
  cases b with
  | non => exact ⟨hb, by rw [non_iff ha]; exact kq _ _ H Res.bl h⟩
  | _ => exact False.elim h
theorem ok_notN : OpOk K fNotN (fun x y H Q => y = .non ∧ Q (.bl (!decide (x = .non))) H) := by
  intro S H a b x y Qz QQ sh ha hb h kq
  cases b with
  | non => exact ⟨hb, by rw [non_iff ha]; exact kq _ _ H Res.bl h⟩
  | _ => exact False.elim h
end

/-! ### in -/
def D.flat : D → Bool
  | .int _ => true
  | .str _ => true
  | .bl _ => true
  | .non => true
  | _ => false
def keyD : D → Option Key
  | .int i => some (.inl i)
  | .str x => some (.inr x)
  | _ => none
def valD (kvs : List (Key × D)) (k : Key) : Option D := (kvs.find? fun kv => decide (kv.1 = k)).map (·.2)
def fInB (neg : Bool) (a b : D) (k : DV → Prop) : Prop := match b with
  | .lst xs => a.pl 7 = true ∧ (D.lst xs).pl 8 = true ∧ k (.d (.bl (if neg then !(xs.any fun z => D.eqv z a) else xs.any fun z => D.eqv z a)))
  | .tup xs => a.flat = true ∧ xs.all D.flat = true ∧ k (.d (.bl (if neg then !(xs.any fun z => D.eqv z a) else xs.any fun z => D.eqv z a)))
  | .dct kvs => match keyD a with
    | some q => k (.d (.bl (if neg then !(valD kvs q).isSome else (valD kvs q).isSome)))
    | none => False
  | _ => False
abbrev fIn := fInB false
abbrev fNotIn := fInB true
section
variable {X : Cx} {K : PySem.W.Frag} {S H : Hp}
theorem RpK.val {kvs : List (Key × D)} : ∀ {ws : List (Key × V)} {q : Key}, RpK K S kvs ws → (∀ a, valD kvs q = some a → ∃ v, valV ws q = some v ∧ Rp K S a v) ∧ (valD kvs q = none → valV ws q = none) := by
  induction kvs with
  | nil =>
    intro ws q h
    rw [h]
    exact ⟨fun a e => (by cases e), fun _ => rfl⟩
  | cons p kvs ih =>
    intro ws q h
    obtain ⟨k, a0⟩ := p
    obtain ⟨v, us, e, h1, h2⟩ := h
    rw [e]
    by_cases c : k = q
    · rw [valV_pos (p := (k, v)) c]
      have ev : valD ((k, a0) :: kvs) q = some a0 := by simp [valD, List.find?_cons, c]
      rw [ev]
      exact ⟨fun a ea => ⟨v, rfl, (by cases ea; exact h1)⟩, fun z => (by cases z)⟩
    · rw [valV_neg (p := (k, v)) c]
      have ev : valD ((k, a0) :: kvs) q = valD kvs q := by simp [valD, List.find?_cons, c]
      rw [ev]
      exact ih h2
theorem RpK.valS {kvs : List (Key × D)} {ws : List (Key × V)} {q : Key} (h : RpK K S kvs ws) : (valV ws q).isSome = (valD kvs q).isSome := by
  cases c : valD kvs q with
  | none =>
    rw [(h.val (q := q)).2 c]
    all_goals rfl
  | some a =>
    obtain ⟨v, e, _⟩ := (h.val (q := q)).1 a c
    rw [e]
    all_goals rfl
theorem keyD_kV {a : D} {q : Key} {x : V} (h : keyD a = some q) (hx : Rp1 K S H a x) : x = kV q := by
  cases a with
  | int i => cases h; exact hx
  | str z => cases h; exact hx
  | _ => cases h
def rInA (K : PySem.W.Frag) (neg : Bool) : R2 := fun x y H Q => (∃ d ds, Dp K H x d ∧ Dp K H y (.list ds) ∧ SeqAt.shaped d = true ∧ SeqAt.shaped (.list ds) = true ∧ Q (.bl (if neg then !(ds.any fun z => PyData.eqv z d) else ds.any fun z => PyData.eqv z d)) H) ∨
  rIn K neg x y H Q ∨ (∃ a o, y = .ref a ∧ DGet H a x o ∧ Q (.bl (if neg then !o.isSome else o.isSome)) H)
theorem op_inA (hu : X.A.units + 65 < cLine) : OpR X (compareOp .In) (rInA X.K false) := by
  intro pp s σ H x y v u Q I rx ry h
  rcases h with h | h | ⟨a, o, rfl, g, q⟩
  · exact op_inD hu pp s σ H x y v u Q I rx ry h
  · exact op_in_seq pp s σ H x y v u Q I rx ry h
  · obtain rfl : u = Value.ref a := ry
    exact d_in (by omega) I g rx fun s3 I3 => ⟨.bl o.isSome, H, I3, rfl, q⟩
theorem op_notInA (hu : X.A.units + 65 < cLine) : OpR X (compareOp .NotIn) (rInA X.K true) := by
  intro pp s σ H x y v u Q I rx ry h
  rcases h with h | h | ⟨a, o, rfl, g, q⟩
  · exact op_notInD hu pp s σ H x y v u Q I rx ry h
  · exact op_notIn_seq pp s σ H x y v u Q I rx ry h
  · obtain rfl : u = Value.ref a := ry
    exact d_notIn (by omega) I g rx fun s3 I3 => ⟨.bl (!o.isSome), H, I3, rfl, q⟩
theorem flat_V {a : D} {x : V} (h : a.flat = true) (hx : Rp K S a x) : flatV x = true := by
  cases a with
  | int i => have e : x = .int i := hx; rw [e]; rfl
  | str i => have e : x = .str i := hx; rw [e]; rfl
  | bl i => have e : x = .bl i := hx; rw [e]; rfl
  | non => have e : x = .non := hx; rw [e]; rfl
  | _ => cases h
theorem flat_eqv {a b : D} {x y : V} (h : a.flat = true) (h' : b.flat = true) (hx : Rp K S a x) (hy : Rp K S b y) : eqV y x = D.eqv b a := by
  cases a with
  | int i =>
    have e : x = .int i := hx
    cases b with
    | int j => have e' : y = .int j := hy; rw [e, e']; show decide _ = (_ == _); rw [Bool.beq_eq_decide_eq]
    | str j => have e' : y = .str j := hy; rw [e, e']; rfl
    | bl j => have e' : y = .bl j := hy; rw [e, e']; cases j <;> rfl
    | non => have e' : y = .non := hy; rw [e, e']; rfl
    | _ => cases h'
  | str i =>
    have e : x = .str i := hx
    cases b with
    | int j => have e' : y = .int j := hy; rw [e, e']; rfl
    | str j => have e' : y = .str j := hy; rw [e, e']; rfl
    | bl j => have e' : y = .bl j := hy; rw [e, e']; rfl
    | non => have e' : y = .non := hy; rw [e, e']; rfl
    | _ => cases h'
  | bl i =>
    have e : x = .bl i := hx
    cases b with
    | int j => have e' : y = .int j := hy; rw [e, e']; cases i <;> rfl
    | str j => have e' : y = .str j := hy; rw [e, e']; rfl
    | bl j => have e' : y = .bl j := hy; rw [e, e']; cases i <;> cases j <;> rfl
    | non => have e' : y = .non := hy; rw [e, e']; rfl
    | _ => cases h'
  | non =>
    have e : x = .non := hx
    cases b with
    | int j => have e' : y = .int j := hy; rw [e, e']; rfl
    | str j => have e' : y = .str j := hy; rw [e, e']; rfl
    | bl j => have e' : y = .bl j := hy; rw [e, e']; rfl
    | non => have e' : y = .non := hy; rw [e, e']; rfl
    | _ => cases h'
  | _ => cases h
theorem any_py {a : D} : ∀ xs : List D, ((D.pyL xs).any fun z => PyData.eqv z a.py) = xs.any fun z => D.eqv z a
  | [] => by simp [D.pyL]
  | x :: xs => by
    have ih := any_py (a := a) xs
    simp only [D.pyL, List.any_cons, ih]
    rfl
theorem inV_any {a : D} {x : V} (h : a.flat = true) (hx : Rp K S a x) : ∀ {xs : List D} {vs : List V}, xs.all D.flat = true → RpL K S xs vs → vs.all flatV = true ∧ inV x vs = xs.any fun z => D.eqv z a
  | [], vs, _, p => by
    have e : vs = [] := p
    rw [e]
    exact ⟨rfl, rfl⟩
  | b :: xs, _, ha, ⟨v, ws, e, h1, h2⟩ => by
    rw [List.all_cons, Bool.and_eq_true] at ha
    obtain ⟨i1, i2⟩ := inV_any h hx ha.2 h2
    rw [e]
    refine ⟨?_, ?_⟩
    · rw [List.all_cons, flat_V ha.1 h1, i1]
      all_goals rfl
    · have i2' : (ws.any fun y => eqV y x) = xs.any fun z => D.eqv z a := i2
      show ((v :: ws).any fun y => eqV y x) = _
      rw [List.any_cons, List.any_cons, i2', flat_eqv h ha.1 hx h1]
theorem flat_all {a : D} {x : V} (h : a.flat = true) (hx : Rp1 K S H a x) : Rp K S a x := by
  cases a with
  | lst _ => cases h
  | dct _ => cases h
  | ins _ _ => cases h
  | _ => exact hx
theorem ok_in (neg : Bool) : OpOk K (fInB neg) (rInA K neg) := by
  intro S H a b x y Qz QQ sh ha hb h kq
  cases b with
  | lst xs =>
    obtain ⟨h1, h2, h3⟩ := h
    have e1 : (D.lst xs).py = .list (D.pyL xs) := by simp [D.py]
    refine .inl ⟨a.py, D.pyL xs, Rp.dp a 7 x (ha.all sh) h1, by rw [← e1]; exact Rp.dp _ 8 y (hb.all sh) h2, D.shaped (by decide) h1, by rw [← e1]; exact D.shaped (by decide) h2, ?_⟩
    rw [any_py]
    exact kq _ _ H Res.bl h3
  | tup xs =>
    obtain ⟨h1, h2, h3⟩ := h
    obtain ⟨p, vs, e, h4, h5⟩ := hb
    have fx := flat_all h1 ha
    obtain ⟨i1, i2⟩ := inV_any h1 fx h2 h5
    refine .inr (.inl ⟨p, vs, e, .inr (sqT_mono sh h4), flat_V h1 fx, i1, ?_⟩)
    rw [i2]
    exact kq _ _ H Res.bl h3
  | dct kvs =>
    obtain ⟨p, ws, e, h4, h5⟩ := hb
    have h' : match keyD a with
      | some q => Qz (.d (.bl (if neg then !(valD kvs q).isSome else (valD kvs q).isSome)))
      | none => False := h
    cases c : keyD a with
    | none => simp only [c] at h'
    | some q =>
      simp only [c] at h'
      refine .inr (.inr ⟨p, _, e, (by rw [keyD_kV c ha]; exact DGet.k (k := q) h4), ?_⟩)
      rw [h5.valS]
      exact kq _ _ H Res.bl h'
  | _ => exact False.elim h
end

/-! ### subscripts -/
/-- the i-th item, from the end where i is negative -/
def fIx (a b : D) (k : DV → Prop) : Prop := match a, b with
  | .lst xs, .int i => match atI xs i with
    | some c => k (.d c)
    | none => False
  | .tup xs, .int i => match atI xs i with
    | some c => k (.d c)
    | none => False
  | .scr ns, .int i => match atI ns i with
    | some n => k (.d (.int n))
    | none => False
  | .str z, .int i => z.length ≤ sizeLine ∧ match atI z.cps.toList i with
    | some c => k (.d (.str ⟨#[c]⟩))
    | none => False
  | .dct kvs, b => match keyD b with
    | some q => match valD kvs q with
      | some c => k (.d c)
      | none => False
    | none => False
  | _, _ => False
section
variable {X : Cx} {K : PySem.W.Frag} {S H : Hp}
theorem RpL.atI {xs : List D} {vs : List V} {i : Int} {c : D} (h : RpL K S xs vs) (e : L2.atI xs i = some c) : ∃ v, L2.atI vs i = some v ∧ Rp K S c v := by
  unfold L2.atI at e ⊢
  rw [h.length]
  cases q : ixN xs.length i with
  | none => rw [q] at e; cases e
  | some j =>
    rw [q] at e
    exact h.get e
theorem atI_map {α β : Type} (f : α → β) (xs : List α) (i : Int) : L2.atI (xs.map f) i = (L2.atI xs i).map f := by
  unfold L2.atI
  rw [List.length_map]
  cases ixN xs.length i with
  | none => rfl
  | some j => simp
def rIxD : R2 := fun x y H Q => ∃ a v, x = .ref a ∧ DGet H a y (some v) ∧ Q v H
open PyProof.Rows PySem.Spec in
theorem tail_go {prog : Program} {w : World} {A : Around} {E : Value → Shared → Prop} {s : Shared} {e1 e2 : Expr} {o i : Value} {T id : String} {Q : Value → Shared → Prop} (hT : s.TypeIs o T) (hl : typeLookup (.type T) "__getitem__" = pure (some (.builtin id)))
    (h : wpAny (model prog w) A (getItem o i) Q E s) (hs : subscripted e2 false o i = operate [o, i] (getItem o i)) : wpAny (model prog w) A (subscriptTail e1 e2 o i) Q E s := by
  have fin : wpAny (model prog w) A (subscripted e2 false o i) (fun r s3 => wpAny (model prog w) A (letTemporaryGo e1 o r >>= fun _ => pure r) Q E s3) E s := by
    rw [hs]
    refine wpAny_operating (wpAny_mono h (fun r s3 h3 => ?_) fun _ _ z => z)
    exact wpAny_bind (wpAny_letTemporaryGo (wpAny_pure h3))
  unfold subscriptTail
  apply wpAny_bind
  rw [getitemInPython_of_ne hT.not_modules]
  apply wpAny_bind
  refine wpAny_specialOf hT hl ?_
  first
    | exact wpAny_pure (wpAny_bind fin)
    | (apply wpAny_bind; exact wpAny_pure (wpAny_bind fin))
    | (apply wpAny_bind; exact fin)
theorem ix_dct (hu : X.A.units + 1 < cLine) : IxR X rIxD := by
  intro value slice pp s σ H x y v u Q I rx ry ⟨a, z, ex, g, q⟩ hs
  subst ex
  obtain rfl : v = Value.ref a := rx
  exact tail_go (dict_typeIs I g) PySem.F.slot_dict_getitem.lookup (d_getItem hu I g ry fun w s3 I3 rw' => ⟨z, H, I3, rw', q⟩) hs
abbrev rIxA (K : PySem.W.Frag) : R2 := fun x y H Q => rIx K x y H Q ∨ rIxD x y H Q
theorem ix_all (hu : X.A.units + 1 < cLine) : IxR X (rIxA X.K) := ix_seq.or (ix_dct hu)
theorem ok_ix : OpOk K fIx (rIxA K) := by
  intro S H a b x y Qz QQ sh ha hb h kq
  cases a with
  | lst xs =>
    cases b with
    | int i =>
      obtain ⟨p, vs, e, h1, h2⟩ := ha
      have h : match L2.atI xs i with | some c => Qz (.d c) | none => False := h
      cases c : L2.atI xs i with
      | none => simp only [c] at h
      | some z =>
        simp only [c] at h
        obtain ⟨v, e1, e2⟩ := h2.atI c
        exact .inl (.inl ⟨p, vs, i, v, e, hb, SqL.of h1, e1, kq v _ H (.d e2) h⟩)
    | _ => exact False.elim h
  | tup xs =>
    cases b with
    | int i =>
      obtain ⟨p, vs, e, h1, h2⟩ := ha
      have h : match L2.atI xs i with | some c => Qz (.d c) | none => False := h
      cases c : L2.atI xs i with
      | none => simp only [c] at h
      | some z =>
        simp only [c] at h
        obtain ⟨v, e1, e2⟩ := h2.atI c
        exact .inl (.inr (.inl ⟨p, vs, i, v, e, hb, sqT_mono sh h1, e1, kq v _ H (.d e2) h⟩))
    | _ => exact False.elim h
  | scr ns =>
    cases b with
    | int i =>
      obtain ⟨p, e, h1⟩ := ha
      have h : match L2.atI ns i with | some c => Qz (.d (.int c)) | none => False := h
      cases c : L2.atI ns i with
      | none => simp only [c] at h
      | some z =>
        simp only [c] at h
        exact .inl (.inl ⟨p, _, i, .int z, e, hb, sh.seq h1, (by rw [atI_map, c]; rfl), kq _ _ H Res.int h⟩)
    | _ => exact False.elim h
  | str z =>
    cases b with
    | int i =>
      have h : z.length ≤ sizeLine ∧ match L2.atI z.cps.toList i with | some c => Qz (.d (.str ⟨#[c]⟩)) | none => False := h
      cases c : L2.atI z.cps.toList i with
      | none => simp only [c] at h; exact h.2.elim
      | some w =>
        simp only [c] at h
        exact .inl (.inr (.inr ⟨z, i, w, ha, hb, h.1, c, kq _ _ H Res.str h.2⟩))
    | _ => exact False.elim h
  | dct kvs =>
    obtain ⟨p, ws, e, h4, h5⟩ := ha
    have h : match keyD b with | some q => (match valD kvs q with | some c => Qz (.d c) | none => False) | none => False := by
      cases b <;> exact h
    cases c : keyD b with
    | none => simp only [c] at h
    | some q =>
      simp only [c] at h
      cases c2 : valD kvs q with
      | none => simp only [c2] at h
      | some z =>
        simp only [c2] at h
        obtain ⟨v, e1, e2⟩ := (h5.val (q := q)).1 z c2
        refine .inr ⟨p, v, e, ?_, kq v _ H (.d e2) h⟩
        rw [keyD_kV c hb, ← e1]
        exact DGet.k (k := q) h4
  | _ => exact False.elim h
end
section
variable {X : Cx} {W : WX} {a b : Expr} {pos : Pos} {da db : DTE} {f : D → D → (DV → Prop) → Prop} {r : R2}
theorem d_ixR (hr : IxR X r) (hf : OpOk X.K f r) (ha : DE X W a da) (hb : DE X W b db) (hs : PlainIx b) : DE X W (.Subscript a b pos) (dBin f da db) := pe_imp (pe_ix hr ha hb hs) fun _ _ _ h => bin_ok hf h
theorem d_ix (hu : X.A.units + 1 < cLine) (ha : DE X W a da) (hb : DE X W b db) (hs : PlainIx b := by intro _ _; rfl) : DE X W (.Subscript a b pos) (dBin fIx da db) := d_ixR (ix_all hu) ok_ix ha hb hs
theorem d_add (ha : DE X W a da) (hb : DE X W b db) : DE X W (.BinOp a .Add b pos) (dBin fAdd da db) := d_bin op_addA ok_add ha hb
theorem d_sub (ha : DE X W a da) (hb : DE X W b db) : DE X W (.BinOp a .Sub b pos) (dBin fSub da db) := d_bin op_sub ok_sub ha hb
theorem d_mul (ha : DE X W a da) (hb : DE X W b db) : DE X W (.BinOp a .Mult b pos) (dBin fMul da db) := d_bin op_mulA ok_mul ha hb
theorem d_div (ha : DE X W a da) (hb : DE X W b db) : DE X W (.BinOp a .FloorDiv b pos) (dBin fDiv da db) := d_bin op_divA ok_div ha hb
theorem d_mod (ha : DE X W a da) (hb : DE X W b db) : DE X W (.BinOp a .Mod b pos) (dBin fMod da db) := d_bin op_modN ok_mod ha hb
theorem d_pow (ha : DE X W a da) (hb : DE X W b db) : DE X W (.BinOp a .Pow b pos) (dBin fPow da db) := d_bin op_pow ok_pow ha hb
end
/-- a one-place operation -/
theorem un_ok {K : PySem.W.Frag} {W : WX} {da : DTE} {f : D → (DV → Prop) → Prop} {r : V → Hp → VK → Prop} (ho : UnOk K f r) {σ : St} {H : Hp} {QQ : VK} (h : tD K W (dUn f da) σ H QQ) : tD K W da σ H (fun x H1 => r x H1 QQ) := by
  obtain ⟨F, S, ρ, Q, Ee, rr, h, kq, ke⟩ := h
  refine ⟨F, S, ρ, _, Ee, rr, h, fun v x S1 ρ1 H1 g1 r1 vr1 q1 => ?_, ke⟩
  obtain ⟨a', p1, q2⟩ := VR.pk r1 vr1 q1
  refine ho S1 H1 a' v _ QQ r1.s p1 q2 fun z dz H4 rs q6 => ?_
  obtain ⟨S5, g5, r5, vr5⟩ := rs.ok r1
  exact kq z dz S5 ρ1 H4 (g1.trans g5) r5 vr5 q6
theorem ok_neg {K : PySem.W.Frag} : UnOk K fNeg (rU fun i => .int (-i)) := by
  intro S H a x Qz QQ sh ha h kq
  cases a with
  | int i => exact ⟨i, ha, kq _ _ H Res.int h⟩
  | _ => exact False.elim h
theorem d_neg {X : Cx} {W : WX} {a : Expr} {pos : Pos} {da : DTE} (ha : DE X W a da) : DE X W (.UnaryOp .USub a pos) (dUn fNeg da) := pe_imp (pe_un un_neg ha) fun _ _ _ h => un_ok ok_neg h
end DW
/-! DWg: built-ins, methods of lists and dicts, stores, slices. -/
namespace DW
open PySem L2

/-! ### built-ins of one or two arguments -/
section
variable {X : Cx} {W : WX} {e e2 : Expr} {x : Str} {p pos : Pos} {da db : DTE} {id T : String} {r : List V → Hp → VK → Prop} {f : D → (DV → Prop) → Prop} {f2 : D → D → (DV → Prop) → Prop}
/-- no star stands among the arguments (what the layer's rules ask, once) -/
abbrev A1 (X : Cx) (e : Expr) (pos : Pos) : Prop := starEach (e :: []) X.env = (false, eval e X.env) :: starEach [] X.env ∧ (backTo pos (starEach [] X.env)).any (·.1) = false
abbrev A2 (X : Cx) (e e2 : Expr) (pos : Pos) : Prop := starEach (e :: [e2]) X.env = (false, eval e X.env) :: starEach [e2] X.env ∧ starEach (e2 :: []) X.env = (false, eval e2 X.env) :: starEach [] X.env ∧ (backTo pos (starEach [e2] X.env)).any (·.1) = false
theorem d_b1 (hc : CallR X (.builtin id) r) (hf : UnOk X.K f (fun x => r [x])) (hm : X.mg x = none) (ha : DE X W e da) (hg : Gl X x) (hv : bootBuiltins x = some (.builtin id)) (hn : x ≠ "__name__") (hdb : (x == ("__debug__" : Str)) = false) (h1 : A1 X e pos) :
    DE X W (.Call (.Name x p) [e] [] pos) (dUn f da) := pe_imp (pe_callB hc hg hm hv (pa_cons ha pa_nil h1.1) hn hdb h1.1 h1.2) fun _ _ _ h => un_ok hf h
theorem d_t1 (hc : CallR X (.type T) r) (hf : UnOk X.K f (fun x => r [x])) (hm : X.mg x = none) (ha : DE X W e da) (hg : Gl X x) (hv : bootBuiltins x = some (.type T)) (hn : x ≠ "__name__") (hdb : (x == ("__debug__" : Str)) = false) (h1 : A1 X e pos) :
    DE X W (.Call (.Name x p) [e] [] pos) (dUn f da) := pe_imp (pe_callTy hc hg hm hv (pa_cons ha pa_nil h1.1) hn hdb h1.1 h1.2) fun _ _ _ h => un_ok hf h
theorem d_b2 (hc : CallR X (.builtin id) r) (hf : OpOk X.K f2 (fun x y => r [x, y])) (hm : X.mg x = none) (ha : DE X W e da) (hb : DE X W e2 db) (hg : Gl X x) (hv : bootBuiltins x = some (.builtin id)) (hn : x ≠ "__name__") (hdb : (x == ("__debug__" : Str)) = false) (h1 : A2 X e e2 pos) :
    DE X W (.Call (.Name x p) [e, e2] [] pos) (dBin f2 da db) := pe_imp (pe_callB hc hg hm hv (pa_cons ha (pa_cons hb pa_nil h1.2.1) h1.1) hn hdb h1.1 h1.2.2) fun _ _ _ h => bin_ok (r := fun x y => r [x, y]) hf h
end
def fLen (a : D) (k : DV → Prop) : Prop := match a with
  | .lst xs => k (.d (.int xs.length))
  | .tup xs => k (.d (.int xs.length))
  | .scr xs => k (.d (.int xs.length))
  | .str z => z.length ≤ sizeLine ∧ k (.d (.int z.length))
  | .dct xs => k (.d (.int xs.length))
  | _ => False
/-- the ints of a list -/
def intsD : List D → Option (List Int)
  | [] => some []
  | .int i :: xs => (intsD xs).map (i :: ·)
  | _ :: _ => none
theorem intsD_map : ∀ ns : List Int, intsD (ns.map D.int) = some ns
  | [] => rfl
  | n :: ns => by
    show (intsD (ns.map D.int)).map (n :: ·) = some (n :: ns)
    rw [intsD_map ns]
    rfl
theorem intsD_of : ∀ {xs : List D} {ns : List Int}, intsD xs = some ns → xs = ns.map D.int
  | [], _, h => by cases h; rfl
  | x :: xs, ns, h => by
    cases x with
    | int i =>
      have h : (intsD xs).map (i :: ·) = some ns := h
      cases c : intsD xs with
      | none => rw [c] at h; cases h
      | some ms =>
        rw [c] at h
        cases h
        rw [intsD_of c]
        rfl
    | _ => cases h
def fSum (a : D) (k : DV → Prop) : Prop := match a with
  | .lst xs => match intsD xs with
    | some ns => k (.d (.int ns.sum))
    | none => False
  | _ => False
def fList (a : D) (k : DV → Prop) : Prop := match a with
  | .lst xs => k (.fr (.l xs))
  | .tup xs => k (.fr (.l xs))
  | _ => False
def fTuple (a : D) (k : DV → Prop) : Prop := match a with
  | .lst xs => k (.d (.tup xs))
  | .tup xs => k (.d (.tup xs))
  | _ => False
def fMin2 (a b : D) (k : DV → Prop) : Prop := match a, b with
  | .int i, .int j => k (.d (.int (if j < i then j else i)))
  | _, _ => False
def fMax2 (a b : D) (k : DV → Prop) : Prop := match a, b with
  | .int i, .int j => k (.d (.int (if j > i then j else i)))
  | _, _ => False
/-- the least of a list of ints -/
def fMinL (a : D) (k : DV → Prop) : Prop := match a with
  | .lst xs => match intsD xs with
    | some ns => 0 < ns.length ∧ ∀ m, m ∈ ns → (∀ y, y ∈ ns → m ≤ y) → k (.d (.int m))
    | none => False
  | _ => False
def fAbs (a : D) (k : DV → Prop) : Prop := match a with
  | .int i => k (.d (.int (if i < 0 then -i else i)))
  | _ => False
def fInt (a : D) (k : DV → Prop) : Prop := match a with
  | .int i => k (.d (.int i))
  | .bl b => k (.d (.int (if b then 1 else 0)))
  | _ => False
/-- Python's order of alike data -/
def leD (a b : D) : Bool := PySem.W.dataLe false D.py a b
def fSorted (a : D) (k : DV → Prop) : Prop := match a with
  | .lst xs => xs.length ≤ sizeLine ∧ PySem.W.AllAlike (xs.map D.py) ∧ PySem.W.Sortable (xs.map D.py) ∧ (∀ x, x ∈ xs → x.pl 6 = true) ∧ k (.fr (.l (xs.mergeSort leD)))
  | _ => False
section
variable {X : Cx} {K : PySem.W.Frag} {S H : Hp}
abbrev rLenA (K : PySem.W.Frag) : List V → Hp → VK → Prop := fun xs H Q => (∃ p ys, xs = [.ref p] ∧ (SqL K H p ys ∨ SqT K H p ys) ∧ Q (.int ys.length) H) ∨ (∃ z, xs = [.str z] ∧ z.length ≤ sizeLine ∧ Q (.int z.length) H) ∨ (∃ d kvs, xs = [.ref d] ∧ H d = some (.dK kvs) ∧ Q (.int kvs.length) H)
theorem call_lenA : CallR X (.builtin "len") (rLenA X.K) := by
  intro pp s σ H xs us Q I r h
  rcases h with h | h | ⟨d, kvs, rfl, e, q⟩
  · exact call_len_seq pp s σ H xs us Q I r h
  · exact call_len_str pp s σ H xs us Q I r h
  · obtain ⟨u, rfl, rx⟩ := Vals.one r
    obtain rfl : u = Value.ref d := rx
    exact d_len I (.inl e) fun t s' I' => ⟨.int kvs.length, H, I', ⟨t, rfl⟩, q⟩
theorem ok_len : UnOk K fLen (fun x => rLenA K [x]) := by
  intro S H a x Qz QQ sh ha h kq
  cases a with
  | lst xs =>
    obtain ⟨p, vs, e, h1, h2⟩ := ha
    exact .inl ⟨p, vs, (by rw [e]), .inl (SqL.of h1), by rw [h2.length]; exact kq _ _ H Res.int h⟩
  | tup xs =>
    obtain ⟨p, vs, e, h1, h2⟩ := ha
    exact .inl ⟨p, vs, (by rw [e]), .inr (sqT_mono sh h1), by rw [h2.length]; exact kq _ _ H Res.int h⟩
  | scr xs =>
    obtain ⟨p, e, h1⟩ := ha
    exact .inl ⟨p, _, (by rw [e]), .inl (sh.seq h1), by rw [List.length_map]; exact kq _ _ H Res.int h⟩
  | str z =>
    have e : x = .str z := ha
    exact .inr (.inl ⟨z, (by rw [e]), h.1, kq _ _ H Res.int h.2⟩)
  | dct xs =>
    obtain ⟨p, vs, e, h1, h2⟩ := ha
    exact .inr (.inr ⟨p, vs, (by rw [e]), h1, by rw [h2.length]; exact kq _ _ H Res.int h⟩)
  | _ => exact False.elim h
theorem ok_sum : UnOk K fSum (fun x => rSum K [x]) := by
  intro S H a x Qz QQ sh ha h kq
  cases a with
  | lst xs =>
    obtain ⟨p, vs, e, h1, h2⟩ := ha
    have h : match intsD xs with | some ns => Qz (.d (.int ns.sum)) | none => False := h
    cases c : intsD xs with
    | none => simp only [c] at h
    | some ns =>
      simp only [c] at h
      rw [intsD_of c] at h2
      rw [RpL.int_inv h2] at h1
      exact ⟨p, ns, (by rw [e]), SqL.of h1, kq _ _ H Res.int h⟩
  | _ => exact False.elim h
theorem ok_list : UnOk K fList (fun x H Q => ∃ p ys, [x] = [V.ref p] ∧ (SqL K H p ys ∨ SqT K H p ys) ∧ ∀ l, H l = none → Q (.ref l) (upd H l (.lst ys))) := by
  intro S H a x Qz QQ sh ha h kq
  cases a with
  | lst xs =>
    obtain ⟨p, vs, e, h1, h2⟩ := ha
    exact ⟨p, vs, (by rw [e]), .inl (SqL.of h1), fun l hl => kq _ _ _ (Res.lst hl h2) h⟩
  | tup xs =>
    obtain ⟨p, vs, e, h1, h2⟩ := ha
    exact ⟨p, vs, (by rw [e]), .inr (sqT_mono sh h1), fun l hl => kq _ _ _ (Res.lst hl h2) h⟩
  | _ => exact False.elim h
theorem ok_tuple : UnOk K fTuple (fun x H Q => ∃ p ys, [x] = [V.ref p] ∧ ((SqL K H p ys ∧ ∀ l, H l = none → Q (.ref l) (upd H l (.tup ys))) ∨ (SqT K H p ys ∧ Q (.ref p) H))) := by
  intro S H a x Qz QQ sh ha h kq
  cases a with
  | lst xs =>
    obtain ⟨p, vs, e, h1, h2⟩ := ha
    exact ⟨p, vs, (by rw [e]), .inl ⟨SqL.of h1, fun l hl => kq _ _ _ (Res.tup hl h2) h⟩⟩
  | tup xs =>
    obtain ⟨p, vs, e, h1, h2⟩ := ha
    exact ⟨p, vs, (by rw [e]), .inr ⟨sqT_mono sh h1, kq _ _ _ (.d (c := .tup xs) ⟨p, vs, rfl, h1, h2⟩) h⟩⟩
  | _ => exact False.elim h
theorem ok_min2 : OpOk K fMin2 (fun x y H Q => ∃ i j, [x, y] = [V.int i, V.int j] ∧ Q (.int (if j < i then j else i)) H) := by
  intro S H a b x y Qz QQ sh ha hb h kq
  unfold fMin2 at h
  split at h
  · have e1 : x = .int _ := ha
    have e2 : y = .int _ := hb
    exact ⟨_, _, (by rw [e1, e2]), kq _ _ H Res.int h⟩
  · exact h.elim
theorem ok_minL : UnOk K fMinL (fun x => rMin K [x]) := by
  intro S H a x Qz QQ sh ha h kq
  cases a with
  | lst xs =>
    obtain ⟨p, vs, e, h1, h2⟩ := ha
    have h : match intsD xs with | some ns => 0 < ns.length ∧ ∀ m, m ∈ ns → (∀ y, y ∈ ns → m ≤ y) → Qz (.d (.int m)) | none => False := h
    cases c : intsD xs with
    | none => simp only [c] at h
    | some ns =>
      simp only [c] at h
      rw [intsD_of c] at h2
      rw [RpL.int_inv h2] at h1
      exact ⟨p, ns, (by rw [e]), SqL.of h1, h.1, fun m h3 h4 => kq _ _ H Res.int (h.2 m h3 h4)⟩
  | _ => exact False.elim h
open PySem.Spec PyProof.Rows in
theorem ok_int1 : UnOk K fInt (fun x H Q => (∃ i, [x] = [V.int i] ∧ Q (.int i) H) ∨ ∃ b, [x] = [V.bl b] ∧ Q (.int (b2i b)) H) := by
  intro S H a x Qz QQ sh ha h kq
  cases a with
  | int i =>
    have e : x = .int i := ha
    exact .inl ⟨i, (by rw [e]), kq _ _ H Res.int h⟩
  | bl b =>
    have e : x = .bl b := ha
    exact .inr ⟨b, (by rw [e]), kq _ _ H Res.int h⟩
  | _ => exact False.elim h
/-- sorted(xs) of alike data -/
def rSortedD (K : PySem.W.Frag) : List V → Hp → VK → Prop := fun vs H Q => ∃ (a : Addr) (ys : List V) (ds : List D), vs = [V.ref a] ∧ SqL K H a ys ∧ RpL K H ds ys ∧ PySem.W.AllAlike (ds.map D.py) ∧ PySem.W.Sortable (ds.map D.py) ∧ (∀ x, x ∈ ds → x.pl 6 = true) ∧
  ∀ p, H p = none → Q (.ref p) (upd H p (.lst (((ds.zip ys).mergeSort fun a b => leD a.1 b.1).map (·.2))))
theorem each_zip {σ : St} {pp : List (Addr × Obj)} {s : Shared} (I : Inv X pp σ H s) : ∀ {ds : List D} {ys : List V} {us : List Value}, RpL X.K H ds ys → Vals ys us → (∀ x, x ∈ ds → x.pl 6 = true) → PySem.W.EachIs (fun (v : Value) (b : D × V) => RelV b.2 v ∧ ∃ as, Reads s.heap v b.1.py as) us (ds.zip ys)
  | [], _, _, h, r, _ => by
    have e : _ = ([] : List V) := h
    subst e
    cases r
    exact .nil
  | d :: ds, _, _, ⟨v, ws, e, h1, h2⟩, r, hp => by
    subst e
    cases r with
    | cons r1 r2 => exact .cons ⟨r1, Dp.reads I _ v _ (Rp.dp d 6 v h1 (hp d List.mem_cons_self)) r1⟩ (each_zip I h2 r2 fun x hx => hp x (List.mem_cons_of_mem _ hx))
theorem vals_each : ∀ {us : List Value} {bs : List (D × V)}, PySem.W.EachIs (fun (v : Value) (b : D × V) => RelV b.2 v) us bs → Vals (bs.map (·.2)) us
  | _, _, .nil => .nil
  | _, _, .cons h t => .cons h (vals_each t)
theorem zip_fst {α β : Type} : ∀ {xs : List α} {ys : List β}, ys.length = xs.length → (xs.zip ys).map (·.1) = xs
  | [], _, _ => rfl
  | x :: xs, [], h => by simp at h
  | x :: xs, y :: ys, h => by
    rw [List.zip_cons_cons, List.map_cons, zip_fst (by simpa using h)]
theorem pl_depth {x : D} (h : x.pl 6 = true) : x.py.depth ≤ 6 := (D.pl_can x 6 h).2
theorem cr_sortedD (hu : X.A.units + 64 < cLine) : CallR X (.builtin "sorted") (rSortedD X.K) := by
  intro pp s σ H vs us Q I r ⟨a, ys, ds, e, hs, hr, al, so, hp, q⟩
  subst e
  obtain ⟨its, rv, hl, hz⟩ := I.list hs
  rw [Vals.ref1 r]
  have ln := hr.length
  have ee := each_zip I hr rv hp
  have ef : (ds.zip ys).map (fun b => b.1.py) = ds.map D.py := by
    have : (ds.zip ys).map (fun b => b.1.py) = ((ds.zip ys).map (·.1)).map D.py := by rw [List.map_map]; rfl
    rw [this, zip_fst ln]
  refine PySem.W.sorted_data (R := fun v b => RelV b.2 v) (enc := fun b : D × V => b.1.py) (bs := ds.zip ys) hl.isList (ee.mono fun _ _ z => z.1) (ee.mono fun _ _ z => z.2) (by rw [ef]; exact al) (by rw [ef]; exact so) (by rw [List.length_zip, ln, Nat.min_self]; omega) (fun b hb => ?_) fun out h1 h2 => ?_
  · have hb1 : b.1 ∈ ds := (List.of_mem_zip (a := b.1) (b := b.2) hb).1
    have := pl_depth (hp b.1 hb1)
    omega
  · obtain ⟨ep, he'⟩ := PyProof.Rows.sortedAll_at s.heap its out.toArray
    have hv := vals_each h2
    have hlen : (((ds.zip ys).mergeSort fun a b => leD a.1 b.1).map (·.2)).length ≤ sizeLine := by
      rw [List.length_map, List.length_mergeSort, List.length_zip, ln, Nat.min_self]
      omega
    exact ⟨.ref _, _, I.laid (t' := s.toks) (a := s.heap.objs.size + 1) (o := .lst (((ds.zip ys).mergeSort fun a b => leD a.1 b.1).map (·.2))) (fun _ _ => PyProof.Rows.sortedAll_old) (Nat.le_succ _) ⟨hlen, out, ep, hv, he'⟩, rfl, q _ (I.hok.fresh (Nat.le_succ _))⟩
theorem RpL.unzip : ∀ {bs : List (D × V)}, (∀ b, b ∈ bs → Rp K S b.1 b.2) → RpL K S (bs.map (·.1)) (bs.map (·.2))
  | [], _ => rfl
  | b :: bs, h => ⟨b.2, _, rfl, h b List.mem_cons_self, RpL.unzip fun c hc => h c (List.mem_cons_of_mem _ hc)⟩
theorem RpL.zip : ∀ {xs : List D} {vs : List V}, RpL K S xs vs → ∀ b, b ∈ xs.zip vs → Rp K S b.1 b.2
  | [], _, _, b, hb => by simp at hb
  | x :: xs, _, ⟨v, ws, e, h1, h2⟩, b, hb => by
    rw [e, List.zip_cons_cons] at hb
    rcases List.mem_cons.mp hb with z | z
    · rw [z]; exact h1
    · exact RpL.zip h2 b z
theorem ok_sorted : UnOk K fSorted (fun x => rSortedD K [x]) := by
  intro S H a x Qz QQ sh ha h kq
  cases a with
  | lst xs =>
    obtain ⟨p, vs, e, h1, h2⟩ := ha
    obtain ⟨g1, g2, g3, g4, g5⟩ := h
    refine ⟨p, vs, xs, (by rw [e]), SqL.of h1, RpL.mono sh h2, g2, g3, g4, fun l hl => kq _ _ _ (Res.lst (xs := xs.mergeSort leD) hl ?_) g5⟩
    have em : ((xs.zip vs).mergeSort fun a b => leD a.1 b.1).map (·.1) = xs.mergeSort leD := by
      rw [PySem.W.sort_maps (r := fun a b => leD a.1 b.1) (s := leD) (fun b : D × V => b.1) (fun _ _ _ _ => rfl), zip_fst h2.length]
    rw [← em]
    exact RpL.unzip fun b hb => RpL.zip h2 b (List.mem_mergeSort.mp hb)
  | _ => exact False.elim h
end
section
variable {X : Cx} {W : WX} {e e2 : Expr} {p pos : Pos} {da db : DTE}
theorem d_len (hm : X.mg "len" = none) (ha : DE X W e da) (hg : Gl X "len" := by rfl) (h1 : A1 X e pos := by exact ⟨rfl, rfl⟩) : DE X W (.Call (.Name "len" p) [e] [] pos) (dUn fLen da) := d_b1 (call_lenA) ok_len hm ha hg (by decide +kernel) (by decide) (by decide) h1
theorem d_sum (hc : X.calm = true) (hm : X.mg "sum" = none) (ha : DE X W e da) (hg : Gl X "sum" := by rfl) (h1 : A1 X e pos := by exact ⟨rfl, rfl⟩) : DE X W (.Call (.Name "sum" p) [e] [] pos) (dUn fSum da) := d_b1 (cr_sum hc) ok_sum hm ha hg (by decide +kernel) (by decide) (by decide) h1
theorem d_sorted (hu : X.A.units + 64 < cLine) (hm : X.mg "sorted" = none) (ha : DE X W e da) (hg : Gl X "sorted" := by rfl) (h1 : A1 X e pos := by exact ⟨rfl, rfl⟩) : DE X W (.Call (.Name "sorted" p) [e] [] pos) (dUn fSorted da) := d_b1 (cr_sortedD hu) ok_sorted hm ha hg (by decide +kernel) (by decide) (by decide) h1
theorem d_list (hm : X.mg "list" = none) (ha : DE X W e da) (hg : Gl X "list" := by rfl) (h1 : A1 X e pos := by exact ⟨rfl, rfl⟩) : DE X W (.Call (.Name "list" p) [e] [] pos) (dUn fList da) := d_t1 (call_list_of) ok_list hm ha hg (by decide +kernel) (by decide) (by decide) h1
theorem d_tuple (hm : X.mg "tuple" = none) (ha : DE X W e da) (hg : Gl X "tuple" := by rfl) (h1 : A1 X e pos := by exact ⟨rfl, rfl⟩) : DE X W (.Call (.Name "tuple" p) [e] [] pos) (dUn fTuple da) := d_t1 (call_tuple_of) ok_tuple hm ha hg (by decide +kernel) (by decide) (by decide) h1
theorem d_minL (hc : X.calm = true) (hm : X.mg "min" = none) (ha : DE X W e da) (hg : Gl X "min" := by rfl) (h1 : A1 X e pos := by exact ⟨rfl, rfl⟩) : DE X W (.Call (.Name "min" p) [e] [] pos) (dUn fMinL da) := d_b1 (cr_min hc) ok_minL hm ha hg (by decide +kernel) (by decide) (by decide) h1
theorem d_int1 (hm : X.mg "int" = none) (ha : DE X W e da) (hg : Gl X "int" := by rfl) (h1 : A1 X e pos := by exact ⟨rfl, rfl⟩) : DE X W (.Call (.Name "int" p) [e] [] pos) (dUn fInt da) := d_t1 (call_int1) ok_int1 hm ha hg (by decide +kernel) (by decide) (by decide) h1
theorem d_min2 (hc : X.calm = true) (hm : X.mg "min" = none) (ha : DE X W e da) (hb : DE X W e2 db) (hg : Gl X "min" := by rfl) (h1 : A2 X e e2 pos := by exact ⟨rfl, rfl, rfl⟩) : DE X W (.Call (.Name "min" p) [e, e2] [] pos) (dBin fMin2 da db) := d_b2 (call_min2 hc) ok_min2 hm ha hb hg (by decide +kernel) (by decide) (by decide) h1
end
end DW
/-! DWh: methods of lists and dicts that names own; stores; slices; raising. -/
namespace DW
open PySem L2

/-! ### methods of a list in a slot -/
def atL (ρ : List SV) (i : Nat) (k : SV → List D → Prop) : Prop := match ρ[i]? with
  | some (.ow (.l xs)) => k (.ow (.l xs)) xs
  | some (.rf (.l xs)) => k (.rf (.l xs)) xs
  | _ => False
def hasL (ρ : List SV) (i : Nat) : Prop := match ρ[i]? with
  | some (.ow (.l _)) => True
  | some (.rf (.l _)) => True
  | _ => False
/-- what a list's method does: its items, the arguments, what it gives and leaves -/
abbrev DLM := List D → List D → (D → List D → Prop) → Prop
def dLM (i : Nat) (g : DLM) (dl : DTA) : DTE := fun ρ Q E => hasL ρ i ∧ dl ρ (fun as ρ1 => atL ρ1 i fun y xs => g xs as fun c ys => Q (.d c) (ρ1.set i (y.re (.l ys)))) E
def MtOk (K : PySem.W.Frag) (g : DLM) (r : V → List V → Hp → VK → Prop) : Prop := ∀ (S H : Hp) (p : Addr) (xs as : List D) (vs ws : List V) (k : D → List D → Prop) (QQ : VK), Same S H → S p = none → H p = some (.lst vs) → RpL K S xs vs → RpL K S as ws → g xs as k →
  (∀ v c ys us, Rp K S c v → RpL K S ys us → k c ys → QQ v (upd H p (.lst us))) → r (.ref p) ws H QQ
theorem OR.mkL {K : PySem.W.Frag} {S H : Hp} {p : Addr} {xs : List D} {vs : List V} (h : RpL K S xs vs) : OR K S (upd H p (.lst vs)) p (.l xs) := ⟨vs, upd_same, h⟩
theorem OR.mkK {K : PySem.W.Frag} {S H : Hp} {p : Addr} {xs : List (Key × D)} {vs : List (Key × V)} (h : RpK K S xs vs) : OR K S (upd H p (.dK vs)) p (.k xs) := ⟨vs, upd_same, h⟩
theorem OR.mkI {K : PySem.W.Frag} {S H : Hp} {p C dx : Addr} {xs : List (Str × D)} {vs : List (Str × V)} (h : RpF K S xs vs) : OR K S (upd H p (.ins C dx vs)) p (.i C xs) := ⟨dx, vs, upd_same, h⟩
section
variable {K : PySem.W.Frag} {F : Fm} {S H : Hp} {ρ : List SV} {σ : St} {i : Nat}
theorem atL_ok {k : SV → List D → Prop} (r : R K F S ρ σ H) (h : atL ρ i k) : ∃ y xs p vs, ρ[i]? = some y ∧ y.oo = some (.l xs) ∧ σ[i]? = some (some (.ref p)) ∧ S p = none ∧ H p = some (.lst vs) ∧ RpL K S xs vs ∧ k y xs := by
  unfold atL at h
  cases c : ρ[i]? with
  | none => simp only [c] at h
  | some y =>
    cases y with
    | un => simp only [c] at h
    | d _ => simp only [c] at h
    | ow o =>
      cases o with
      | l xs =>
        simp only [c] at h
        obtain ⟨p, e1, _, h2, vs, h3, h4⟩ := r.own c rfl
        exact ⟨_, xs, p, vs, rfl, rfl, e1, h2, h3, h4, h⟩
      | k _ => simp only [c] at h
      | i _ _ => simp only [c] at h
    | rf o =>
      cases o with
      | l xs =>
        simp only [c] at h
        obtain ⟨p, e1, _, h2, vs, h3, h4⟩ := r.own c rfl
        exact ⟨_, xs, p, vs, rfl, rfl, e1, h2, h3, h4, h⟩
      | k _ => simp only [c] at h
      | i _ _ => simp only [c] at h
theorem hasL_ok (r : R K F S ρ σ H) (h : hasL ρ i) : ∃ p vs, σ[i]? = some (some (.ref p)) ∧ H p = some (.lst vs) := by
  have h' : atL ρ i fun _ _ => True := by
    unfold hasL at h
    unfold atL
    split at h <;> first | trivial | exact h.elim
  obtain ⟨y, xs, p, vs, _, _, a, _, b, _⟩ := atL_ok r h'
  exact ⟨p, vs, a, b⟩
theorem lm_ok {W : WX} {g : DLM} {dl : DTA} {r : V → List V → Hp → VK → Prop} (hok : MtOk K g r) {QQ : VK} (h : tD K W (dLM i g dl) σ H QQ) : ∃ p vs, σ[i]? = some (some (.ref p)) ∧ H p = some (.lst vs) ∧ tDA K W dl σ H fun ws H2 => r (.ref p) ws H2 QQ := by
  obtain ⟨F, S, ρ, Q, Ee, rr, h, kq, ke⟩ := h
  obtain ⟨p, vs, e1, e2⟩ := hasL_ok rr h.1
  refine ⟨p, vs, e1, e2, F, S, ρ, _, Ee, rr, h.2, fun ws as S1 ρ1 H1 g1 r1 p1 q1 => ?_, ke⟩
  obtain ⟨y, xs, p', us, c1, c2, c3, c4, c5, c6, q⟩ := atL_ok r1 q1
  rw [e1] at c3
  cases c3
  refine hok S1 H1 p xs as us ws _ QQ r1.s c4 c5 c6 p1 q fun v c ys zs h1 h2 h3 => ?_
  exact kq v (.d c) S1 _ _ g1 (r1.change c1 c2 e1 rfl (OR.mkL h2)) h1 h3
end
def gAppend : DLM := fun xs as k => match as with
  | [a] => xs.length < sizeLine ∧ k .non (xs ++ [a])
  | _ => False
def gPop : DLM := fun xs as k => match as with
  | [] => match xs[xs.length - 1]? with
    | some a => k a xs.dropLast
    | none => False
  | [.int i] => -1000000000 ≤ i ∧ i ≤ 1000000000 ∧ match ixN xs.length i with
    | some j => match xs[j]? with
      | some a => k a (xs.eraseIdx j)
      | none => False
    | none => False
  | _ => False
def gInsert : DLM := fun xs as k => match as with
  | [.int i, a] => xs.length < sizeLine ∧ 0 ≤ i ∧ i ≤ 1000000000 ∧ k .non (xs.take i.toNat ++ [a] ++ xs.drop i.toNat)
  | _ => False
def gExtend : DLM := fun xs as k => match as with
  | [.lst ys] => xs.length + ys.length ≤ sizeLine ∧ k .non (xs ++ ys)
  | _ => False
def gClear : DLM := fun xs as k => match as with
  | [] => k .non []
  | _ => False
/-- the first place of an item, all flat -/
def gIndex : DLM := fun xs as k => match as with
  | [a] => a.flat = true ∧ xs.all D.flat = true ∧ match xs.findIdx? fun z => D.eqv z a with
    | some j => k (.int (j : Nat)) xs
    | none => False
  | _ => False
section
variable {X : Cx} {K : PySem.W.Frag}
theorem ok_append : MtOk K gAppend rAppend := by
  intro S H p xs as vs ws k QQ sh sp hp hx ha h kq
  unfold gAppend at h
  split at h
  · obtain ⟨v, us, e, h1, h2⟩ := ha
    have h2 : us = [] := h2
    exact ⟨p, vs, v, rfl, by rw [e, h2], hp, by rw [hx.length]; exact h.1, kq .non .non _ _ rfl (RpL.append hx (RpL.one h1)) h.2⟩
  · exact h.elim
abbrev rPopA : V → List V → Hp → VK → Prop := fun x xs H Q => rPop x xs H Q ∨ rPopAt x xs H Q
theorem mt_popA : MtR X "list.pop" rPopA := MtR.or mt_pop mt_popAt
theorem ok_pop : MtOk K gPop rPopA := by
  intro S H p xs as vs ws k QQ sh sp hp hx ha h kq
  have ln := hx.length
  unfold gPop at h
  split at h
  · have e : ws = [] := ha
    cases c : xs[xs.length - 1]? with
    | none => simp only [c] at h
    | some a =>
      simp only [c] at h
      obtain ⟨v, e1, e2⟩ := hx.get c
      exact .inl ⟨p, vs, v, rfl, e, hp, by rw [ln]; exact e1, kq v a _ _ e2 hx.dropLast h⟩
  · rename_i i
    obtain ⟨v, us, e, h1, h2⟩ := ha
    have h1 : v = .int _ := h1
    have h2 : us = [] := h2
    obtain ⟨b1, b2, h⟩ := h
    cases c : ixN xs.length i with
    | none => simp only [c] at h
    | some j =>
      simp only [c] at h
      cases c2 : xs[j]? with
      | none => simp only [c2] at h
      | some a =>
        simp only [c2] at h
        obtain ⟨w, e1, e2⟩ := hx.get c2
        exact .inr ⟨p, vs, i, j, w, rfl, by rw [e, h1, h2], hp, by omega, by omega, by rw [ln]; exact (ixN_seq c).1, e1, kq w a _ _ e2 (hx.eraseIdx j) h⟩
  · exact h.elim
theorem ok_insert : MtOk K gInsert (fun x vs H Q => ∃ (l : Addr) (xs : List V) (i : Int) (y : V), x = .ref l ∧ vs = [.int i, y] ∧ H l = some (.lst xs) ∧ xs.length < sizeLine ∧ 0 ≤ i ∧ i < 2 ^ 63 ∧ Q .non (upd H l (.lst (xs.take i.toNat ++ [y] ++ xs.drop i.toNat)))) := by
  intro S H p xs as vs ws k QQ sh sp hp hx ha h kq
  unfold gInsert at h
  split at h
  · obtain ⟨v, us, e, h1, v2, us2, e2, h2, h3⟩ := ha
    have h1 : v = .int _ := h1
    have h3 : us2 = [] := h3
    exact ⟨p, vs, _, v2, rfl, by rw [e, h1, e2, h3], hp, by rw [hx.length]; exact h.1, h.2.1, by omega, kq .non .non _ _ rfl (RpL.append (RpL.append (hx.take _) (RpL.one h2)) (hx.drop _)) h.2.2.2⟩
  · exact h.elim
theorem ok_extend : MtOk K gExtend rExtend := by
  intro S H p xs as vs ws k QQ sh sp hp hx ha h kq
  unfold gExtend at h
  split at h
  · obtain ⟨v, us, e, ⟨q, zs, e2, h1, h2⟩, h3⟩ := ha
    have h3 : us = [] := h3
    exact ⟨p, q, vs, zs, rfl, by rw [e, e2, h3], hp, sh _ _ h1, by rw [hx.length, h2.length]; exact h.1, kq .non .non _ _ rfl (RpL.append hx h2) h.2⟩
  · exact h.elim
theorem ok_clear : MtOk K gClear rClear := by
  intro S H p xs as vs ws k QQ sh sp hp hx ha h kq
  unfold gClear at h
  split at h
  · have e : ws = [] := ha
    exact ⟨p, vs, rfl, e, hp, kq .non .non _ _ rfl (RpL.nil) h⟩
  · exact h.elim
theorem upd_self0 {H : Hp} {p : Addr} {u : HO} (h : H p = some u) : upd H p u = H := by
  funext b
  by_cases e : b = p
  · rw [e, upd_same, h]
  · rw [upd_ne e]
theorem ok_index : MtOk K gIndex (rIndex K) := by
  intro S H p xs as vs ws k QQ sh sp hp hx ha h kq
  unfold gIndex at h
  split at h
  · rename_i a
    obtain ⟨v, us, e, h1, h2⟩ := ha
    have h2 : us = [] := h2
    obtain ⟨fa, fx, h⟩ := h
    cases c : xs.findIdx? fun z => D.eqv z a with
    | none => simp only [c] at h
    | some j =>
      simp only [c] at h
      rw [List.findIdx?_eq_some_iff_getElem] at c
      obtain ⟨hj, hz, hno⟩ := c
      obtain ⟨w, e1, e2⟩ := hx.get (i := j) (x := xs[j]) (List.getElem?_eq_getElem hj)
      obtain ⟨i1, _⟩ := inV_any fa h1 fx hx
      have fl : ∀ (m : Nat) (hm : m < xs.length), (xs[m]).flat = true := fun m hm => List.all_eq_true.mp fx _ (List.getElem_mem hm)
      refine ⟨p, vs, v, j, w, rfl, by rw [e, h2], SqL.of hp, flat_V fa h1, i1, e1, ?_, fun m z hm hz' => ?_, ?_⟩
      · rw [flat_eqv fa (fl j hj) h1 e2]; exact hz
      · have hm' : m < xs.length := by omega
        obtain ⟨w', e3, e4⟩ := hx.get (i := m) (x := xs[m]) (List.getElem?_eq_getElem hm')
        rw [hz'] at e3
        cases e3
        rw [flat_eqv fa (fl m hm') h1 e4]
        exact Bool.eq_false_iff.mpr (hno m hm)
      · have := kq (.int (j : Nat)) (.int (j : Nat)) xs vs rfl hx h
        rw [upd_self0 hp] at this
        exact this
  · exact h.elim
end
section
variable {X : Cx} {W : WX} {e : Expr} {es : List Expr} {name y : Str} {py apos cpos : Pos} {id : String} {r : V → List V → Hp → VK → Prop} {g : DLM} {dl : DTA}
theorem d_lm (i : Nat) (slot : Slot "list" name id) (hty : typeOf (.builtin id) = pure (.type "method_descriptor")) (hm : MtR X id r) (hok : MtOk X.K g r) (ha : DA X W (e :: es) dl)
    (hN : X.N[i]? = some y := by rfl) (hv : Vis X.env.scope y := by first | exact Or.inl rfl | exact Or.inr (Or.inl rfl) | exact Or.inr (Or.inr rfl)) (hd : (y == ("__debug__" : Str)) = false := by decide) (hcd : (y == ("__classdict__" : Str)) = false := by decide)
    (hbase : attributeBase (.Name y py) name X.env (eval (.Name y py) X.env) = eval (.Name y py) X.env := by rfl)
    (hfew : ((backTo cpos (starEach (e :: es) X.env)).all (fun x => !x.1) && (backToKw cpos (keywordEach [] X.env)).all (fun x => x.1.isSome) && decide ((e :: es).length + ([] : List Keyword).length + (if ([] : List Keyword).isEmpty then 0 else 1) < 30)) = true := by rfl)
    (hline : (apos.endLine == cpos.line) = true := by rfl) (hs : starEach (e :: es) X.env = (false, eval e X.env) :: starEach es X.env := by rfl) (hpl : (backTo cpos (starEach es X.env)).any (·.1) = false := by rfl) :
    DE X W (.Call (.Attribute (.Name y py) name apos) (e :: es) [] cpos) (dLM i g dl) := by
  refine pe_imp (pe_bm PySem.F.plainAttrs_list slot hty hm (pv i hN hv hd hcd) ha hbase hfew hline hs hpl) fun σ H QQ h => ?_
  obtain ⟨p, vs, e1, e2, e3⟩ := lm_ok hok h
  exact ⟨_, e1, .inl ⟨rfl, _, SqL.of e2⟩, e3⟩
theorem d_lm0 (i : Nat) (slot : Slot "list" name id) (hty : typeOf (.builtin id) = pure (.type "method_descriptor")) (hm : MtR X id r) (hok : MtOk X.K g r)
    (hN : X.N[i]? = some y := by rfl) (hv : Vis X.env.scope y := by first | exact Or.inl rfl | exact Or.inr (Or.inl rfl) | exact Or.inr (Or.inr rfl)) (hd : (y == ("__debug__" : Str)) = false := by decide) (hcd : (y == ("__classdict__" : Str)) = false := by decide)
    (hbase : attributeBase (.Name y py) name X.env (eval (.Name y py) X.env) = eval (.Name y py) X.env := by rfl) (hline : (apos.endLine == cpos.line) = true := by rfl) :
    DE X W (.Call (.Attribute (.Name y py) name apos) [] [] cpos) (dLM i g dANil) := by
  refine pe_imp (pe_bm0 PySem.F.plainAttrs_list slot hty hm (pv i hN hv hd hcd) hbase hline) fun σ H QQ h => ?_
  obtain ⟨F, S, ρ, Q, Ee, rr, h, kq, ke⟩ := h
  have h2 : atL ρ i fun y xs => g xs [] fun c ys => Q (.d c) (ρ.set i (y.re (.l ys))) := h.2
  obtain ⟨y1, xs, p', us, c1, c2, c3, c4, c5, c6, q⟩ := atL_ok rr h2
  refine ⟨_, c3, .inl ⟨rfl, _, SqL.of c5⟩, hok S H p' xs [] us [] _ QQ rr.s c4 c5 c6 rfl q fun v c ys zs h1 h2 h3 => ?_⟩
  exact kq v (.d c) S _ _ (Gr.refl _ _) (rr.change c1 c2 c3 rfl (OR.mkL h2)) h1 h3
end

/-! ### x[i] = e of a list in a slot -/
def dSetIx (i : Nat) (dx de : DTE) : DTS := fun De ρ => de ρ (fun z ρ1 => stab z ρ1 fun b ρ2 => hasL ρ2 i ∧ dx ρ2 (fun w ρ3 => pk ρ3 w fun c => match c with
  | .int j => atL ρ3 i fun y xs => match ixN xs.length j with
    | some n => De.nx (ρ3.set i (y.re (.l (xs.set n b))))
    | none => False
  | _ => False) De.ex) De.ex
theorem d_setIx {X : Cx} {W : WX} (i : Nat) {y : Str} {py pos' pos : Pos} {ix e : Expr} {dx de : DTE} (hx : DE X W ix dx) (he : DE X W e de)
    (hN : X.N[i]? = some y := by rfl) (hv : Vis X.env.scope y := by first | exact Or.inl rfl | exact Or.inr (Or.inl rfl) | exact Or.inr (Or.inr rfl)) (hd : (y == ("__debug__" : Str)) = false := by decide) (hcd : (y == ("__classdict__" : Str)) = false := by decide)
    (hg : ∀ {to ti : TE}, PE X (.Name y py) to → PE X ix ti → PG X (.Subscript (.Name y py) ix pos') (gSub to ti rSetL) := by exact fun a b => pg_sub a b set_list)
    (hs : swapsWithSole [.Subscript (.Name y py) ix pos'] e pos.line X.env = pure false := by rfl) (hw : swappedStores [.Subscript (.Name y py) ix pos'] e X.env = pure none := by rfl)
    (h1 : (assignEach [.Subscript (.Name y py) ix pos'] X.env).map (·.2) = [assign (.Subscript (.Name y py) ix pos') X.env] := by rfl) : DS X W (.Assign [.Subscript (.Name y py) ix pos'] e pos) (dSetIx i dx de) := by
  refine ps_imp (ps_asg he (hg (pv i hN hv hd hcd) hx) hs hw h1) fun D σ H ⟨F, S, ρ, De, r, h, k1, k2, k3, k4, k5⟩ => ?_
  refine ⟨F, S, ρ, _, _, r, h, fun v x S1 ρ1 H1 g1 r1 vr1 q1 => ?_, fun er cls d S' ρ' H' g' r' => k5 er cls d ρ' σ S' H' g' r'⟩
  obtain ⟨b, S2, ρ2, g2, r2, p2, q2⟩ := VR.stab r1 vr1 q1
  obtain ⟨p, vs, e1, e2⟩ := hasL_ok r2 q2.1
  refine ⟨_, e1, F, S2, ρ2, _, _, r2, q2.2, fun w z S3 ρ3 H3 g3 r3 vr3 q3 => ?_, fun er cls d S' ρ' H' g' r' => k5 er cls d ρ' σ S' H' ((g1.trans g2).trans g') r'⟩
  obtain ⟨c, p3, q4⟩ := VR.pk r3 vr3 q3
  cases c with
  | int j =>
    obtain ⟨y1, xs, p', us, c1, c2, c3, c4, c5, c6, q⟩ := atL_ok r3 q4
    rw [e1] at c3
    cases c3
    cases n : ixN xs.length j with
    | none => simp only [n] at q
    | some m =>
      simp only [n] at q
      refine ⟨p, us, j, m, rfl, p3, c5, by rw [c6.length]; exact n, ?_⟩
      exact k1 _ σ S3 _ ((g1.trans g2).trans g3) (r3.change c1 c2 e1 rfl (OR.mkL (c6.set m (Rp.mono g3.s p2)))) q
  | _ => exact False.elim q4

/-! ### self.f = e of an instance in a slot -/
def atI (C0 : Addr) (ρ : List SV) (i : Nat) (k : SV → List (Str × D) → Prop) : Prop := match ρ[i]? with
  | some (.ow (.i C fs)) => C = C0 ∧ k (.ow (.i C fs)) fs
  | some (.rf (.i C fs)) => C = C0 ∧ k (.rf (.i C fs)) fs
  | _ => False
def dSetF (C0 : Addr) (i : Nat) (f : Str) (de : DTE) : DTS := fun De ρ => de ρ (fun z ρ1 => stab z ρ1 fun b ρ2 => atI C0 ρ2 i fun y fs => fs.length < 1000 ∧ De.nx (ρ2.set i (y.re (.i C0 (putFD f b fs))))) De.ex
theorem atI_ok {K : PySem.W.Frag} {F : Fm} {S H : Hp} {ρ : List SV} {σ : St} {i : Nat} {C0 : Addr} {k : SV → List (Str × D) → Prop} (r : R K F S ρ σ H) (h : atI C0 ρ i k) : ∃ y fs p dx ws, ρ[i]? = some y ∧ y.oo = some (.i C0 fs) ∧ σ[i]? = some (some (.ref p)) ∧ H p = some (.ins C0 dx ws) ∧ RpF K S fs ws ∧ k y fs := by
  unfold atI at h
  cases c : ρ[i]? with
  | none => simp only [c] at h
  | some y =>
    cases y with
    | un => simp only [c] at h
    | d _ => simp only [c] at h
    | ow o =>
      cases o with
      | i C fs =>
        simp only [c] at h
        obtain ⟨rfl, h⟩ := h
        obtain ⟨p, e1, _, _, dx, vs, h3, h4⟩ := r.own c rfl
        exact ⟨_, fs, p, dx, vs, rfl, rfl, e1, h3, h4, h⟩
      | k _ => simp only [c] at h
      | l _ => simp only [c] at h
    | rf o =>
      cases o with
      | i C fs =>
        simp only [c] at h
        obtain ⟨rfl, h⟩ := h
        obtain ⟨p, e1, _, _, dx, vs, h3, h4⟩ := r.own c rfl
        exact ⟨_, fs, p, dx, vs, rfl, rfl, e1, h3, h4, h⟩
      | k _ => simp only [c] at h
      | l _ => simp only [c] at h
theorem d_setF {X : Cx} {W : WX} (i : Nat) {C0 : Addr} {f y : Str} {py pos' pos : Pos} {e : Expr} {de : DTE} (c1 : Cls X.K C0) (c2 : NoAttr X.K C0 f) (he : DE X W e de)
    (hN : X.N[i]? = some y := by rfl) (hv : Vis X.env.scope y := by first | exact Or.inl rfl | exact Or.inr (Or.inl rfl) | exact Or.inr (Or.inr rfl)) (hd : (y == ("__debug__" : Str)) = false := by decide) (hcd : (y == ("__classdict__" : Str)) = false := by decide)
    (hs : swapsWith e (some (.Attribute (.Name y py) f pos')) pos.line X.env = pure false := by rfl) : DS X W (.Assign [.Attribute (.Name y py) f pos'] e pos) (dSetF C0 i f de) := by
  refine ps_imp (ps_fld (pv i hN hv hd hcd) he hs) fun D σ H ⟨F, S, ρ, De, r, h, k1, k2, k3, k4, k5⟩ => ?_
  refine ⟨F, S, ρ, _, _, r, h, fun v x S1 ρ1 H1 g1 r1 vr1 q1 => ?_, fun er cls d S' ρ' H' g' r' => k5 er cls d ρ' σ S' H' g' r'⟩
  obtain ⟨b, S2, ρ2, g2, r2, p2, q2⟩ := VR.stab r1 vr1 q1
  obtain ⟨y1, fs, p, dx, ws, a1, a2, a3, a4, a5, q⟩ := atI_ok r2 q2
  refine ⟨_, a3, p, C0, dx, ws, rfl, a4, c1, c2, by rw [a5.length]; exact q.1, ?_⟩
  exact k1 _ σ S2 _ (g1.trans g2) (r2.change a1 a2 a3 rfl (OR.mkI (a5.put f p2))) q.2
end DW
/-! DWi: slices; dicts. -/
namespace DW
open PySem L2

/-! ### slices -/
/-- a part of a slice: left out, or an int -/
abbrev DTO := List SV → (Option Int → List SV → Prop) → (DExc → List SV → Prop) → Prop
def dNoPart : DTO := fun ρ Q _ => Q none ρ
def dPart (de : DTE) : DTO := fun ρ Q E => de ρ (fun x ρ1 => match x with
  | .d (.int i) => Q (some i) ρ1
  | _ => False) E
def tDO (K : PySem.W.Frag) (W : WX) (de : DTO) : TO := fun σ H QQ => ∃ (F : Fm) (S : Hp) (ρ : List SV) (Q : Option Int → List SV → Prop) (Ee : DExc → List SV → Prop), R K F S ρ σ H ∧ de ρ Q Ee ∧
  (∀ o S' ρ' H', Gr F.B S S' → R K F S' ρ' σ H' → Q o ρ' → QQ o H') ∧ (∀ e cls d S' ρ' H', Gr F.B S S' → R K F S' ρ' σ H' → XR K S' H' e cls d → Ee e ρ' → W cls d σ H')
def DO (X : Cx) (W : WX) (e : Option Expr) (de : DTO) : Prop := PO X e (tDO X.K W de)
theorem po_imp {X : Cx} {e : Option Expr} {t t' : TO} (h : PO X e t) (i : ∀ σ H Q, t' σ H Q → t σ H Q) : PO X e t' := ⟨fun p s σ H Q I q => h.run p s σ H Q I (i σ H Q q)⟩
theorem d_nopart {X : Cx} {W : WX} : DO X W none dNoPart := po_imp po_none fun σ H QQ ⟨F, S, ρ, Q, Ee, r, h, kq, ke⟩ => kq none S ρ H (Gr.refl _ _) r h
theorem d_part {X : Cx} {W : WX} {e : Expr} {de : DTE} (he : DE X W e de) : DO X W (some e) (dPart de) := by
  refine po_imp (po_some he) fun σ H QQ ⟨F, S, ρ, Q, Ee, r, h, kq, ke⟩ => ⟨F, S, ρ, _, Ee, r, h, fun v x S1 ρ1 H1 g1 r1 vr1 q1 => ?_, ke⟩
  cases x with
  | d a =>
    cases a with
    | int i => exact ⟨i, vr1, kq (some i) S1 ρ1 H1 g1 r1 q1⟩
    | _ => exact False.elim q1
  | _ => exact False.elim q1
def cutD (xs : List D) (lo hi : Option Int) : List D := (xs.drop (HT.sIx xs.length 0 lo)).take (HT.sIx xs.length xs.length hi - HT.sIx xs.length 0 lo)
def fSl (a : D) (lo hi : Option Int) (k : DV → Prop) : Prop := match a with
  | .lst xs => k (.fr (.l (cutD xs lo hi)))
  | .tup xs => (HT.sIx xs.length 0 lo = 0 ∧ HT.sIx xs.length xs.length hi = xs.length → False) ∧ k (.d (.tup (cutD xs lo hi)))
  | _ => False
def dSl (de : DTE) (lo hi : DTO) : DTE := fun ρ Q E => de ρ (fun x ρ1 => lo ρ1 (fun l ρ2 => hi ρ2 (fun u ρ3 => pk ρ3 x.fz fun a => fSl a l u fun z => Q z ρ3) E) E) E
theorem cut_ok {K : PySem.W.Frag} {S : Hp} {xs : List D} {vs : List V} (h : RpL K S xs vs) (lo hi : Option Int) : RpL K S (cutD xs lo hi) (cutV vs lo hi) := by
  unfold cutD cutV
  rw [h.length]
  exact (h.drop _).take _
abbrev rSlA (K : PySem.W.Frag) : V → Option Int → Option Int → Hp → VK → Prop := fun x lo hi H Q => rSlL K x lo hi H Q ∨ rSlT K x lo hi H Q
theorem d_sl {X : Cx} {W : WX} {e : Expr} {lo hi : Option Expr} {p2 pos : Pos} {de : DTE} {dl dh : DTO} (he : DE X W e de) (hl : DO X W lo dl) (hh : DO X W hi dh) : DE X W (.Subscript e (.Slice lo hi none p2) pos) (dSl de dl dh) := by
  refine pe_imp (pe_slice (r := rSlA X.K) (SlR.or sl_list sl_tup) he hl hh) fun σ H QQ ⟨F, S, ρ, Q, Ee, r, h, kq, ke⟩ => ?_
  refine ⟨F, S, ρ, _, Ee, r, h, fun v x S1 ρ1 H1 g1 r1 vr1 q1 => ?_, ke⟩
  obtain ⟨S2, g2, r2, vr2, keep⟩ := VR.fz r1 vr1
  have g12 := g1.trans g2
  refine ⟨F, S2, ρ1, _, Ee, r2, q1, fun l S3 ρ3 H3 g3 r3 q3 => ?_, fun e cls d S' ρ' H' g' r' => ke e cls d S' ρ' H' (g12.trans g') r'⟩
  have g13 := g12.trans g3
  refine ⟨F, S3, ρ3, _, Ee, r3, q3, fun u S4 ρ4 H4 g4 r4 q4 => ?_, fun e cls d S' ρ' H' g' r' => ke e cls d S' ρ' H' (g13.trans g') r'⟩
  obtain ⟨a, p5, q5⟩ := VR.pk r4 (keep (g3.trans g4)) q4
  have g14 := g13.trans g4
  have fin : ∀ z dz H5, Res X.K S4 H4 z dz H5 → Q dz ρ4 → QQ z H5 := fun z dz H5 rs q6 => by
    obtain ⟨S6, g6, r6, vr6⟩ := rs.ok r4
    exact kq z dz S6 ρ4 H5 (g14.trans g6) r6 vr6 q6
  cases a with
  | lst xs =>
    obtain ⟨p, vs, e1, e2, e3⟩ := p5
    exact .inl ⟨p, vs, e1, SqL.of e2, fun t ht => fin _ _ _ (Res.lst ht (cut_ok e3 l u)) q5⟩
  | tup xs =>
    obtain ⟨p, vs, e1, e2, e3⟩ := p5
    refine .inr ⟨p, vs, e1, sqT_mono r4.s e2, by rw [e3.length]; exact q5.1, fun t ht => fin _ _ _ (Res.tup ht (cut_ok e3 l u)) q5.2⟩
  | _ => exact False.elim q5
def fRev (a : D) (k : DV → Prop) : Prop := match a with
  | .lst xs => k (.fr (.l xs.reverse))
  | _ => False
theorem d_rev {X : Cx} {W : WX} {e : Expr} {n : Nat} {p1 p2 p3 pos : Pos} {de : DTE} (he : DE X W e de) : DE X W (.Subscript e (.Slice none none (some (.UnaryOp .USub (.Constant (.int 1) n p1) p2)) p3) pos) (dUn fRev de) := by
  refine pe_imp (pe_revL he) fun σ H QQ h => un_ok (r := fun x H Q => ∃ a xs, x = .ref a ∧ SqL X.K H a xs ∧ ∀ p, H p = none → Q (.ref p) (upd H p (.lst xs.reverse))) ?_ h
  intro S H a x Qz QQ sh ha h kq
  cases a with
  | lst xs =>
    obtain ⟨p, vs, e1, e2, e3⟩ := ha
    exact ⟨p, vs, e1, SqL.of e2, fun t ht => kq _ _ _ (Res.lst ht e3.reverse) h⟩
  | _ => exact False.elim h

/-! ### dicts -/
def putKD (kvs : List (Key × D)) (k : Key) (v : D) : List (Key × D) :=
  if (kvs.any fun kv => decide (kv.1 = k)) = true then kvs.map (fun kv => if kv.1 = k then (kv.1, v) else kv) else kvs ++ [(k, v)]
def dropKD (kvs : List (Key × D)) (k : Key) : List (Key × D) := kvs.filter fun kv => decide (kv.1 ≠ k)
section
variable {K : PySem.W.Frag} {S H : Hp}
theorem RpK.any {k : Key} : ∀ {xs : List (Key × D)} {vs : List (Key × V)}, RpK K S xs vs → (vs.any fun kv => decide (kv.1 = k)) = (xs.any fun kv => decide (kv.1 = k))
  | [], _, h => by rw [h]; rfl
  | (_, _) :: _, _, ⟨v, ws, e, h1, h2⟩ => by rw [e, List.any_cons, List.any_cons, RpK.any h2]
theorem RpK.app : ∀ {xs ys : List (Key × D)} {vs ws : List (Key × V)}, RpK K S xs vs → RpK K S ys ws → RpK K S (xs ++ ys) (vs ++ ws)
  | [], _, _, _, h, g => by rw [h]; exact g
  | (_, _) :: _, _, _, _, ⟨v, ws, e, h1, h2⟩, g => by rw [e]; exact ⟨v, _, rfl, h1, RpK.app h2 g⟩
theorem RpK.mapPut {k : Key} {a : D} {w : V} (g : Rp K S a w) : ∀ {xs : List (Key × D)} {vs : List (Key × V)}, RpK K S xs vs → RpK K S (xs.map fun kv => if kv.1 = k then (kv.1, a) else kv) (vs.map fun kv => if kv.1 = k then (kv.1, w) else kv)
  | [], _, h => by rw [h]; exact rfl
  | (q, _) :: _, _, ⟨v, ws, e, h1, h2⟩ => by
    rw [e, List.map_cons, List.map_cons]
    by_cases c : q = k
    · simp only [c, if_true]
      exact ⟨w, _, rfl, g, RpK.mapPut g h2⟩
    · simp only [c, if_false]
      exact ⟨v, _, rfl, h1, RpK.mapPut g h2⟩
theorem RpK.put {k : Key} {a : D} {w : V} {xs : List (Key × D)} {vs : List (Key × V)} (h : RpK K S xs vs) (g : Rp K S a w) : RpK K S (putKD xs k a) (putK vs k w) := by
  unfold putKD putK
  rw [h.any]
  split
  · exact h.mapPut g
  · exact h.app ⟨w, [], rfl, g, rfl⟩
theorem RpK.drop {k : Key} : ∀ {xs : List (Key × D)} {vs : List (Key × V)}, RpK K S xs vs → RpK K S (dropKD xs k) (dropK vs k)
  | [], _, h => by rw [h]; exact rfl
  | (q, _) :: xs, _, ⟨v, ws, e, h1, h2⟩ => by
    have ih := RpK.drop (k := k) h2
    unfold dropKD dropK at ih ⊢
    rw [e]
    by_cases c : q = k
    · simp only [List.filter_cons, c, ne_eq, not_true, decide_false, Bool.false_eq_true, if_false]
      exact ih
    · simp only [List.filter_cons, c, ne_eq, not_false_iff, decide_true, if_true]
      exact ⟨v, _, rfl, h1, ih⟩
end
def dDict0 : DTE := fun ρ Q _ => Q (.fr (.k [])) ρ
theorem d_dict0 {X : Cx} {W : WX} {pos : Pos} : DE X W (.Dict [] [] pos) dDict0 := by
  refine pe_imp pe_dnewK fun σ H QQ ⟨F, S, ρ, Q, Ee, r, h, kq, ke⟩ => fun p hp => ?_
  obtain ⟨S5, g5, r5, vr5⟩ := (Res.dct (S := S) (vs := []) (xs := []) hp rfl).ok r
  exact kq _ _ S5 ρ _ g5 r5 vr5 h
def atK (ρ : List SV) (i : Nat) (k : SV → List (Key × D) → Prop) : Prop := match ρ[i]? with
  | some (.ow (.k xs)) => k (.ow (.k xs)) xs
  | some (.rf (.k xs)) => k (.rf (.k xs)) xs
  | _ => False
def hasK (ρ : List SV) (i : Nat) : Prop := match ρ[i]? with
  | some (.ow (.k _)) => True
  | some (.rf (.k _)) => True
  | _ => False
theorem atK_ok {K : PySem.W.Frag} {F : Fm} {S H : Hp} {ρ : List SV} {σ : St} {i : Nat} {k : SV → List (Key × D) → Prop} (r : R K F S ρ σ H) (h : atK ρ i k) : ∃ y xs p vs, ρ[i]? = some y ∧ y.oo = some (.k xs) ∧ σ[i]? = some (some (.ref p)) ∧ H p = some (.dK vs) ∧ RpK K S xs vs ∧ k y xs := by
  unfold atK at h
  cases c : ρ[i]? with
  | none => simp only [c] at h
  | some y =>
    cases y with
    | un => simp only [c] at h
    | d _ => simp only [c] at h
    | ow o =>
      cases o with
      | k xs =>
        simp only [c] at h
        obtain ⟨p, e1, _, _, vs, h3, h4⟩ := r.own c rfl
        exact ⟨_, xs, p, vs, rfl, rfl, e1, h3, h4, h⟩
      | l _ => simp only [c] at h
      | i _ _ => simp only [c] at h
    | rf o =>
      cases o with
      | k xs =>
        simp only [c] at h
        obtain ⟨p, e1, _, _, vs, h3, h4⟩ := r.own c rfl
        exact ⟨_, xs, p, vs, rfl, rfl, e1, h3, h4, h⟩
      | l _ => simp only [c] at h
      | i _ _ => simp only [c] at h
theorem hasK_ok {K : PySem.W.Frag} {F : Fm} {S H : Hp} {ρ : List SV} {σ : St} {i : Nat} (r : R K F S ρ σ H) (h : hasK ρ i) : ∃ p vs, σ[i]? = some (some (.ref p)) ∧ H p = some (.dK vs) := by
  have h' : atK ρ i fun _ _ => True := by
    unfold hasK at h
    unfold atK
    split at h <;> first | trivial | exact h.elim
  obtain ⟨y, xs, p, vs, _, _, a, b, _⟩ := atK_ok r h'
  exact ⟨p, vs, a, b⟩
/-- d[k] = v of a dict in a slot -/
def dSetK (i : Nat) (dk de : DTE) : DTS := fun De ρ => de ρ (fun z ρ1 => stab z ρ1 fun b ρ2 => hasK ρ2 i ∧ dk ρ2 (fun w ρ3 => pk ρ3 w fun c => match keyD c with
  | some q => atK ρ3 i fun y kvs => kvs.length < sizeLine ∧ De.nx (ρ3.set i (y.re (.k (putKD kvs q b))))
  | none => False) De.ex) De.ex
theorem d_setK {X : Cx} {W : WX} (i : Nat) {y : Str} {py pos' pos : Pos} {ix e : Expr} {dk de : DTE} (hu : X.A.units + 1 < cLine) (hk : DE X W ix dk) (he : DE X W e de)
    (hN : X.N[i]? = some y := by rfl) (hv : Vis X.env.scope y := by first | exact Or.inl rfl | exact Or.inr (Or.inl rfl) | exact Or.inr (Or.inr rfl)) (hd : (y == ("__debug__" : Str)) = false := by decide) (hcd : (y == ("__classdict__" : Str)) = false := by decide)
    (hs : swapsWith e (some (.Subscript (.Name y py) ix pos')) pos.line X.env = pure false := by rfl) : DS X W (.Assign [.Subscript (.Name y py) ix pos'] e pos) (dSetK i dk de) := by
  refine ps_imp (ps_dput hu (pv i hN hv hd hcd) hk he hs) fun D σ H ⟨F, S, ρ, De, r, h, k1, k2, k3, k4, k5⟩ => ?_
  refine ⟨F, S, ρ, _, _, r, h, fun v x S1 ρ1 H1 g1 r1 vr1 q1 => ?_, fun er cls d S' ρ' H' g' r' => k5 er cls d ρ' σ S' H' g' r'⟩
  obtain ⟨b, S2, ρ2, g2, r2, p2, q2⟩ := VR.stab r1 vr1 q1
  obtain ⟨p, vs, e1, e2⟩ := hasK_ok r2 q2.1
  refine ⟨_, e1, F, S2, ρ2, _, _, r2, q2.2, fun w z S3 ρ3 H3 g3 r3 vr3 q3 => ?_, fun er cls d S' ρ' H' g' r' => k5 er cls d ρ' σ S' H' ((g1.trans g2).trans g') r'⟩
  obtain ⟨c, p3, q4⟩ := VR.pk r3 vr3 q3
  cases kc : keyD c with
  | none => simp only [kc] at q4
  | some q =>
    simp only [kc] at q4
    obtain ⟨y1, xs, p', us, c1, c2, c3, c5, c6, q5⟩ := atK_ok r3 q4
    rw [e1] at c3
    cases c3
    refine ⟨p, _, rfl, by rw [keyD_kV kc p3]; exact DPut.k (k := q) c5 (by rw [c6.length]; exact q5.1), ?_⟩
    exact k1 _ σ S3 _ ((g1.trans g2).trans g3) (r3.change c1 c2 e1 rfl (OR.mkK (c6.put (Rp.mono g3.s p2)))) q5.2
/-- d.get(k, x) -/
def dGet2 (dd dk dx : DTE) : DTE := fun ρ Q E => dd ρ (fun z ρ1 => (pk ρ1 z.fz fun a => match a with | .dct _ => True | _ => False) ∧ dk ρ1 (fun w ρ2 => dx ρ2 (fun u ρ3 => stab u ρ3 fun b ρ4 => pk ρ4 z.fz fun a => pk ρ4 w.fz fun c => match a, keyD c with
  | .dct kvs, some q => Q (.d ((valD kvs q).getD b)) ρ4
  | _, _ => False) E) E) E
theorem d_get2 {X : Cx} {W : WX} {o e f : Expr} {apos cpos : Pos} {dd dk dx : DTE} (hu : X.A.units + 1 < cLine) (ho : DE X W o dd) (he : DE X W e dk) (hf : DE X W f dx) (m : M2 X o "get" apos e f cpos := by exact ⟨rfl, rfl, rfl, rfl⟩) :
    DE X W (.Call (.Attribute o "get" apos) [e, f] [] cpos) (dGet2 dd dk dx) := by
  refine pe_imp (pe_dget2 hu ho he hf m) fun σ H QQ ⟨F, S, ρ, Q, Ee, r, h, kq, ke⟩ => ?_
  refine ⟨F, S, ρ, _, Ee, r, h, fun v x S1 ρ1 H1 g1 r1 vr1 q1 => ?_, ke⟩
  obtain ⟨S2, g2, r2, vr2, keep⟩ := VR.fz r1 vr1
  have g12 := g1.trans g2
  obtain ⟨a0, p0, q0⟩ := VR.pk r2 vr2 q1.1
  cases a0 with
  | dct kvs0 =>
    obtain ⟨p, ws0, e1, e2, _⟩ := p0
    refine ⟨p, e1, .inl ⟨ws0, .inl e2⟩, F, S2, ρ1, _, Ee, r2, q1.2, fun w z S3 ρ3 H3 g3 r3 vr3 q3 => ?_, fun er cls d S' ρ' H' g' r' => ke er cls d S' ρ' H' (g12.trans g') r'⟩
    obtain ⟨S4, g4, r4, vr4, keep4⟩ := VR.fz r3 vr3
    have g14 := (g12.trans g3).trans g4
    refine ⟨F, S4, ρ3, _, Ee, r4, q3, fun u z5 S5 ρ5 H5 g5 r5 vr5 q5 => ?_, fun er cls d S' ρ' H' g' r' => ke er cls d S' ρ' H' (g14.trans g') r'⟩
    obtain ⟨b, S6, ρ6, g6, r6, p6, q6⟩ := VR.stab r5 vr5 q5
    obtain ⟨a, p7, q7⟩ := VR.pk r6 (keep (((g3.trans g4).trans g5).trans g6)) q6
    obtain ⟨c, p8, q8⟩ := VR.pk r6 (keep4 (g5.trans g6)) q7
    cases a with
    | dct kvs =>
      obtain ⟨p', ws, e3, e4, e5⟩ := p7
      rw [e1] at e3
      cases e3
      cases kc : keyD c with
      | none => simp only [kc] at q8
      | some q =>
        simp only [kc] at q8
        refine ⟨valV ws q, by rw [keyD_kV kc p8]; exact DGet.k (k := q) e4, ?_⟩
        have g16 := (g14.trans g5).trans g6
        cases vc : valD kvs q with
        | none =>
          rw [vc] at q8
          rw [(e5.val (q := q)).2 vc]
          exact kq u (.d b) S6 ρ6 H5 g16 r6 p6 q8
        | some a2 =>
          rw [vc] at q8
          obtain ⟨v2, l1, l2⟩ := (e5.val (q := q)).1 a2 vc
          rw [l1]
          exact kq v2 (.d a2) S6 ρ6 H5 g16 r6 l2 q8
    | _ => exact False.elim q8
  | _ => exact False.elim q0
/-- dict(d) -/
def fDict (a : D) (k : DV → Prop) : Prop := match a with
  | .dct kvs => k (.fr (.k kvs))
  | _ => False
theorem d_dict1 {X : Cx} {W : WX} {e : Expr} {p pos : Pos} {da : DTE} (hm : X.mg "dict" = none) (ha : DE X W e da) (hg : Gl X "dict" := by rfl) (h1 : A1 X e pos := by exact ⟨rfl, rfl⟩) : DE X W (.Call (.Name "dict" p) [e] [] pos) (dUn fDict da) := by
  refine d_t1 call_dictD (fun S H a x Qz QQ sh ha h kq => ?_) hm ha hg (by decide +kernel) (by decide) (by decide) h1
  cases a with
  | dct kvs =>
    obtain ⟨p, ws, e1, e2, e3⟩ := ha
    exact ⟨p, ws, (by rw [e1]), .inl e2, fun t ht => kq _ _ _ (Res.dct ht e3) h⟩
  | _ => exact False.elim h
end DW
/-! DWj: what the printed walks ask beside: classes by name, room, loops over ranges, pairs, isinstance, len of set. -/
namespace DW
open PySem L2
/-- where the classes stand -/
structure Cs where
  Map : Addr
  Part : Addr
  Desk : Addr
  BadMap : Addr
  NoTree : Addr
  NoRoad : Addr
  BadText : Addr
  RootError : Addr
theorem hu1 {k : Nat} {A : Around} (r : Room k A) : A.units + 1 < cLine := by have := r.un; omega
theorem hu64 {k : Nat} {A : Around} (r : Room k A) : A.units + 64 < cLine := by have := r.un; omega
theorem hu65 {k : Nat} {A : Around} (r : Room k A) : A.units + 65 < cLine := by have := r.un; omega
def dNever : DTS := fun _ _ => False
theorem d_never {X : Cx} {W : WX} {st : Stmt} : DS X W st dNever := ps_imp ps_never fun D σ H ⟨F, S, ρ, De, r, h, _⟩ => h
def dForG (n : Nat) (dl : DTA) (dg : DTG) (db : DTS) : DTS := dForR (fun ρ Q E => dl ρ (fun as ρ1 => as.length = n ∧ Q as ρ1) E) dg db
def dLcG (n : Nat) (dl : DTA) (dg : DTG) (dt : DTT) (de : DTE) (us : List Nat) : DTE := dLcR (fun ρ Q E => dl ρ (fun as ρ1 => as.length = n ∧ Q as ρ1) E) dg dt de us
def dPar (i j : Nat) (dl : DTA) : DTS := fun De ρ => dl ρ (fun as ρ1 => match as with
  | [a, b] => i < ρ1.length ∧ j < ρ1.length ∧ De.nx ((ρ1.set i (.d a)).set j (.d b))
  | _ => False) De.ex
theorem d_par {X : Cx} {W : WX} (i j : Nat) {x y : Str} {a b : Expr} {dl : DTA} {px py pt pos : Pos} {kt k2 pt2} (hc : X.calm = true) (hN : X.N.Nodup) (hi : X.N[i]? = some x) (hj : X.N[j]? = some y) (hij : i ≠ j)
    (hx : X.env.scope.names.lookup x = some .local) (hy : X.env.scope.names.lookup y = some .local) (ha : DA X W [a, b] dl)
    (hw : swappedStores [.Tuple [.Name x px, .Name y py] kt pt] (.Tuple [a, b] k2 pt2) X.env = pure (some [x, y]))
    (hs : swapsWithSole [.Tuple [.Name x px, .Name y py] kt pt] (.Tuple [a, b] k2 pt2) pos.line X.env = pure false := by rfl) :
    DS X W (.Assign [.Tuple [.Name x px, .Name y py] kt pt] (.Tuple [a, b] k2 pt2) pos) (dPar i j dl) := by
  refine ps_imp (ps_par hc hN hi hj hij hx hy ha hw hs) fun D σ H ⟨F, S, ρ, De, r, h, k1, k2, k3, k4, k5⟩ => ?_
  refine ⟨F, S, ρ, _, _, r, h, fun vs xs S1 ρ1 H1 g1 r1 p1 q1 => ?_, fun e cls d S' ρ' H' g' r' => k5 e cls d ρ' σ S' H' g' r'⟩
  match xs, q1 with
  | [a, b], ⟨h1, h2, q⟩ =>
    obtain ⟨v, w, e, e1, v2, w2, e2, e3, e4⟩ := p1
    have e4 : w2 = [] := e4
    refine ⟨v, v2, by rw [e, e2, e4], ?_⟩
    have r2 := (r1.setD (i := i) (by rw [← r1.len]; exact h1) e1).setD (i := j) (by rw [List.length_set, ← r1.len]; exact h2) e3
    exact k1 _ _ S1 H1 g1 r2 q
/-! isinstance of a built-in type -/
def isTy (T : String) : D → Bool
  | .bl _ => T == "bool" || T == "int"
  | .int _ => T == "int"
  | .str _ => T == "str"
  | .lst _ => T == "list"
  | .scr _ => T == "list"
  | .tup _ => T == "tuple"
  | .dct _ => T == "dict"
  | _ => false
def fIsi (T : String) (a : D) (k : DV → Prop) : Prop := match a with
  | .ins _ _ => False
  | _ => k (.d (.bl (isTy T a)))
def okTy (T : String) : Bool := kitB "NoneType" T == some (isTy T .non) && kitB "bool" T == some (isTy T (.bl true)) && kitB "int" T == some (isTy T (.int 0)) && kitB "str" T == some (isTy T (.str Str.empty)) && kitB "list" T == some (isTy T (.lst [])) && kitB "tuple" T == some (isTy T (.tup [])) && kitB "dict" T == some (isTy T (.dct []))
theorem ok_isi {K : PySem.W.Frag} {T : String} (h : okTy T = true) : UnOk K (fIsi T) (fun x => rIsi K [x, .ty T]) := by
  intro S H a x Qz QQ sh ha hf kq
  unfold okTy at h
  simp only [Bool.and_eq_true, beq_iff_eq] at h
  obtain ⟨⟨⟨⟨⟨⟨h1, h2⟩, h3⟩, h4⟩, h5⟩, h6⟩, h7⟩ := h
  cases a with
  | non => have e : x = .non := ha; subst e; exact ⟨_, _, _, _, _, rfl, .ty T, .base .non, kit_ty h1, kq _ _ H Res.bl hf⟩
  | bl b => have e : x = .bl b := ha; subst e; exact ⟨_, _, _, _, _, rfl, .ty T, .base (.bl b), kit_ty h2, kq _ _ H Res.bl hf⟩
  | int i => have e : x = .int i := ha; subst e; exact ⟨_, _, _, _, _, rfl, .ty T, .base (.int i), kit_ty h3, kq _ _ H Res.bl hf⟩
  | str z => have e : x = .str z := ha; subst e; exact ⟨_, _, _, _, _, rfl, .ty T, .base (.str z), kit_ty h4, kq _ _ H Res.bl hf⟩
  | lst xs =>
    obtain ⟨p, vs, rfl, h1', _⟩ := ha
    exact ⟨_, _, _, _, _, rfl, .ty T, .base (.lst h1'), kit_ty h5, kq _ _ H Res.bl hf⟩
  | scr ns =>
    obtain ⟨p, rfl, hS⟩ := ha
    rcases sh.seq hS with h1' | ⟨o, its, n, h1', h2', _⟩
    · rcases h1' with h1' | ⟨ob, h1'⟩
      · exact ⟨_, _, _, _, _, rfl, .ty T, .base (.lst h1'), kit_ty h5, kq _ _ H Res.bl hf⟩
      · exact ⟨_, _, _, _, _, rfl, .ty T, .base (.frz h1'), kit_ty h5, kq _ _ H Res.bl hf⟩
    · exact ⟨_, _, _, _, _, rfl, .ty T, .kList h1' h2', kit_ty h5, kq _ _ H Res.bl hf⟩
  | tup xs =>
    obtain ⟨p, vs, rfl, hS, _⟩ := ha
    rcases sqT_mono sh hS with h1' | ⟨o, its, n, h1', h2', _⟩
    · rcases h1' with h1' | ⟨ob, h1'⟩
      · exact ⟨_, _, _, _, _, rfl, .ty T, .base (.tup h1'), kit_ty h6, kq _ _ H Res.bl hf⟩
      · exact ⟨_, _, _, _, _, rfl, .ty T, .fTuple h1', kit_ty h6, kq _ _ H Res.bl hf⟩
    · exact ⟨_, _, _, _, _, rfl, .ty T, .kTuple h1' h2', kit_ty h6, kq _ _ H Res.bl hf⟩
  | dct xs =>
    obtain ⟨p, vs, rfl, h1', _⟩ := ha
    exact ⟨_, _, _, _, _, rfl, .ty T, .base (.dK h1'), kit_ty h7, kq _ _ H Res.bl hf⟩
  | ins C fs => exact hf.elim
theorem d_isi {X : Cx} {W : WX} {e : Expr} {de : DTE} {p p2 pos : Pos} {x : Str} {Tn : String} (hT : okTy Tn = true) (hv : bootBuiltins x = some (.type Tn)) (hmT : X.mg x = none) (hm : X.mg "isinstance" = none) (ha : DE X W e de) (hgT : Gl X x := by rfl) (hg : Gl X "isinstance" := by rfl)
    (hn : x ≠ "__name__" := by decide) (hd : (x == ("__debug__" : Str)) = false := by decide) (he : starEach (e :: [.Name x p2]) X.env = (false, eval e X.env) :: starEach [.Name x p2] X.env := by rfl) (he2 : starEach [.Name x p2] X.env = (false, eval (.Name x p2) X.env) :: starEach [] X.env := by rfl)
    (hpl : (backTo pos (starEach [.Name x p2] X.env)).any (·.1) = false := by rfl) :
    DE X W (.Call (.Name "isinstance" p) [e, .Name x p2] [] pos) (dUn (fIsi Tn) de) :=
  pe_imp (pe_callB call_isi hg hm PyProof.Rows.boot_isinstance (pa_cons ha (pa_cons (pe_bltn (v := .ty Tn) hgT hmT hv rfl hn hd) pa_nil he2) he) (by decide) (by decide) he hpl) fun σ H QQ h => un_ok (r := fun x => rIsi X.K [x, .ty Tn]) (ok_isi hT) h
theorem isi_str : okTy "str" = true := by decide +kernel
theorem isi_int : okTy "int" = true := by decide +kernel
theorem isi_bool : okTy "bool" = true := by decide +kernel
theorem isi_tuple : okTy "tuple" = true := by decide +kernel
theorem isi_list : okTy "list" = true := by decide +kernel
/-! len(set(ints)) -/
/-- how many unlike ones -/
def dist (ns : List Int) : Nat := (PyProof.Rows.firstMet (fun i => ns.getD i 0) ns.length).length
def fLenSet (a : D) (k : DV → Prop) : Prop := match a with
  | .lst xs => match intsD xs with
    | some ns => ns.length ≤ 4000 ∧ k (.d (.int (dist ns)))
    | none => False
  | _ => False
def tLenSetG (K : PySem.W.Frag) (ta : TE) : TE := fun σ H Q => ta σ H fun x H1 => ∃ (l : Addr) (ns : List Int), x = .ref l ∧ SqL K H1 l (ns.map V.int) ∧ ns.length ≤ 4000 ∧ Q (.int (dist ns : Nat)) H1
theorem dedup_len : ∀ (xs acc : List Int), (xs.foldl PyProof.Rows.step_dedup acc).length ≤ acc.length + xs.length
  | [], acc => Nat.le_refl _
  | x :: xs, acc => by
    have h := dedup_len xs (PyProof.Rows.step_dedup acc x)
    have h2 : (PyProof.Rows.step_dedup acc x).length ≤ acc.length + 1 := by
      unfold PyProof.Rows.step_dedup
      split
      · omega
      · simp
    rw [List.foldl_cons, List.length_cons]
    omega
theorem firstMet_len (f : Nat → Int) (n : Nat) : (PyProof.Rows.firstMet f n).length ≤ n := by
  unfold PyProof.Rows.firstMet
  refine Nat.le_trans (dedup_len _ _) ?_
  simp
open PySem.Spec PyProof.Rows in
theorem pe_lenSetG {X : Cx} {a : Expr} {ta : TE} {p p2 q pos : Pos} (hg : Gl X "len") (hm : X.mg "len" = none) (hg2 : Gl X "set") (hm2 : X.mg "set" = none) (ha : PE X a ta) (hc : X.calm = true)
    (na : starEach [a] X.env = (false, eval a X.env) :: starEach [] X.env) : PE X (.Call (.Name "len" p) [.Call (.Name "set" p2) [a] [] q] [] pos) (tLenSetG X.K ta) := by
  refine ⟨fun pins s σ H Q I h => ?_⟩
  refine Call_ (ld_blt I hg hm boot_len ?_)
  refine callWith_builtin1 (args_cons ?_ rfl) rfl rfl
  refine Call_ (ld_blt I hg2 hm2 boot_set ?_)
  refine callWith_type1 (args_cons (thn (ha.run pins s σ H _ I h) fun v s1 ⟨x, H1, I1, r1, q1⟩ => args_nil ?_) na) na rfl
  obtain ⟨l, ns, rfl, hq, hl, q1⟩ := q1
  cases r1
  obtain ⟨its, r, pl, hz⟩ := I1.list hq
  have hlen : its.toArray.size = ns.length := by rw [List.size_toArray, ← r.length, List.length_map]
  refine call_set_list (I1.ok.hd hc) pl.isList (by simpa using RZ.intsAre_vals r) (by rw [hlen]; unfold scanBound; omega) fun h' tk hS hk => ?_
  refine args_nil ?_
  rw [hlen] at hS
  obtain ⟨o, es, ep, t, ho, hex, hd, _, _, _, hf, hn⟩ := hS
  have I2 : Inv X pins σ H1 { s1 with heap := h', toks := tk } := I1.kept fun b o e => hk b o (Heap.lt_size e) e
  have := firstMet_len (fun i => ns.getD i 0) ns.length
  exact call_len_set ho hex hd hf (by rw [hn] <;> omega) ⟨.int (dist ns), H1, I2.tok _, ⟨_, by rw [hn]; rfl⟩, q1⟩
theorem d_lenSet {X : Cx} {W : WX} {a : Expr} {de : DTE} {p p2 q pos : Pos} (hc : X.calm = true) (hm : X.mg "len" = none) (hm2 : X.mg "set" = none) (ha : DE X W a de) (hg : Gl X "len" := by rfl) (hg2 : Gl X "set" := by rfl)
    (na : starEach [a] X.env = (false, eval a X.env) :: starEach [] X.env := by rfl) : DE X W (.Call (.Name "len" p) [.Call (.Name "set" p2) [a] [] q] [] pos) (dUn fLenSet de) := by
  refine pe_imp (pe_lenSetG hg hm hg2 hm2 ha hc na) fun σ H QQ h => ?_
  refine un_ok (r := fun x H1 Q => ∃ (l : Addr) (ns : List Int), x = .ref l ∧ SqL X.K H1 l (ns.map V.int) ∧ ns.length ≤ 4000 ∧ Q (.int (dist ns : Nat)) H1) (fun S H a x Qz QQ sh ha hf kq => ?_) h
  unfold fLenSet at hf
  split at hf
  · rename_i xs
    cases c : intsD xs with
    | none => rw [c] at hf; exact hf.elim
    | some ns =>
      rw [c] at hf
      obtain ⟨p, vs, rfl, h1, h2⟩ := ha
      have e := intsD_of c
      subst e
      have e := RpL.int_inv h2
      subst e
      exact ⟨p, ns, rfl, SqL.of h1, hf.1, kq _ _ H Res.int hf.2⟩
  · exact hf.elim
/-! a name = a comprehension over a range -/
section
variable {X : Cx} {W : WX} {elt tg : Expr} {ifs : List Expr} {scope : Scope} {own : List (Str × Nat)} {pos p1 p2 : Pos} {dl : DTA} {de : DTE} {dg : DTG} {dt : DTT} {js : List Nat}
theorem d_setLcR1 {i : Nat} {y : Str} {py spos : Pos} {a : Expr} (hc : X.calm = true) (hN : X.N.Nodup) (hy : X.N[i]? = some y) (hyl : X.env.scope.names.lookup y = some .local) (hsw : swapsWith (.ListComp elt [⟨tg, .Call (.Name "range" p1) [a] [] p2, ifs, 0⟩] scope pos) (some (.Name y py)) spos.line X.env = pure true)
    (hm : X.mg "range" = none) (ha : DA X W [a] dl) (ok : BlkOk X.N X.env.scope scope own) (hjs : ∀ j, j ∈ js → j ∈ own.map (·.2))
    (hg : ∀ (s : Shared) (H : Hp) (C : Addr) (cl : List (Str × Addr)) (fp : List Addr), DG (X.blk s H scope (compEnvC scope cl C X.env) fp) tg js dg) (ht : ∀ (s : Shared) (H : Hp) (C : Addr) (cl : List (Str × Addr)) (fp : List Addr), DTs (X.blk s H scope (compEnvC scope cl C X.env) fp) ifs dt)
    (he : ∀ (s : Shared) (H : Hp) (C : Addr) (cl : List (Str × Addr)) (fp : List Addr), DE (X.blk s H scope (compEnvC scope cl C X.env) fp) W0 elt de) (hgl : Gl X "range" := by rfl) (hst : starEach [a] X.env = [(false, eval a X.env)] := by rfl)
    (hs : ∀ x, foldedSetIterable (.Call (.Name "range" p1) [a] [] p2) X.env x = pure x := by intro _; rfl) :
    DS X W (.Assign [.Name y py] (.ListComp elt [⟨tg, .Call (.Name "range" p1) [a] [] p2, ifs, 0⟩] scope pos) spos) (dSet i (dLcG 1 dl dg dt de (own.map (·.2)))) := by
  refine ps_imp (ps_setLc (g := gD X.K js dg) (tt := tDT X.K W0 dt) (te := tD X.K W0 de) hc hN hy hyl hsw (pi_range1 hgl hm ha hst) ok hg ht he hs) fun D σ H ⟨F, S, ρ, De, r, h, k1, k2, k3, k4, k5⟩ => ?_
  refine ⟨F, S, ρ, _, _, r, h, fun vs xs S1 ρ1 H1 g1 r1 p1 q1 => ?_, fun e cls d S' ρ' H' g' r' => k5 e cls d ρ' σ S' H' g' r'⟩
  have kk : ∀ v acc S' ρ' H', Gr F.B S1 S' → R X.K F S' ρ' σ H' → VR X.K F S' ρ' σ H' v (.fr (.l acc)) → storeS i (.fr (.l acc)) ρ' De.nx → gName i v σ H' D.nx := fun v acc S' ρ' H' g' r' vr' q' => by
    obtain ⟨S4, ρ4, g4, r4, q4⟩ := VR.store r' vr' q'
    exact k1 ρ4 _ S4 H' ((g1.trans g').trans g4) r4 q4
  rcases rng_ok p1 q1.2 with ⟨n, e, b1, b2, q, l⟩ | ⟨m, n, e, b, q, l⟩
  · exact ⟨n, e, b1, b2, lc_turns r1 (RpL.range (fun i => (0 : Int) + (i : Nat)) _) hjs q (fun i H' _ hi => goR i H' hi) (fun H' _ => stopR) kk⟩
  · have l1 : xs.length = 1 := q1.1
    omega
theorem d_setLcR2 {i : Nat} {y : Str} {py spos : Pos} {a b : Expr} (hc : X.calm = true) (hN : X.N.Nodup) (hy : X.N[i]? = some y) (hyl : X.env.scope.names.lookup y = some .local) (hsw : swapsWith (.ListComp elt [⟨tg, .Call (.Name "range" p1) [a, b] [] p2, ifs, 0⟩] scope pos) (some (.Name y py)) spos.line X.env = pure true)
    (hm : X.mg "range" = none) (ha : DA X W [a, b] dl) (ok : BlkOk X.N X.env.scope scope own) (hjs : ∀ j, j ∈ js → j ∈ own.map (·.2))
    (hg : ∀ (s : Shared) (H : Hp) (C : Addr) (cl : List (Str × Addr)) (fp : List Addr), DG (X.blk s H scope (compEnvC scope cl C X.env) fp) tg js dg) (ht : ∀ (s : Shared) (H : Hp) (C : Addr) (cl : List (Str × Addr)) (fp : List Addr), DTs (X.blk s H scope (compEnvC scope cl C X.env) fp) ifs dt)
    (he : ∀ (s : Shared) (H : Hp) (C : Addr) (cl : List (Str × Addr)) (fp : List Addr), DE (X.blk s H scope (compEnvC scope cl C X.env) fp) W0 elt de) (hgl : Gl X "range" := by rfl) (hst : starEach [a, b] X.env = [(false, eval a X.env), (false, eval b X.env)] := by rfl)
    (hst2 : starEach [b] X.env = [(false, eval b X.env)] := by rfl)
    (hs : ∀ x, foldedSetIterable (.Call (.Name "range" p1) [a, b] [] p2) X.env x = pure x := by intro _; rfl) :
    DS X W (.Assign [.Name y py] (.ListComp elt [⟨tg, .Call (.Name "range" p1) [a, b] [] p2, ifs, 0⟩] scope pos) spos) (dSet i (dLcG 2 dl dg dt de (own.map (·.2)))) := by
  refine ps_imp (ps_setLc (g := gD X.K js dg) (tt := tDT X.K W0 dt) (te := tD X.K W0 de) hc hN hy hyl hsw (pi_range2 hgl hm ha hst hst2) ok hg ht he hs) fun D σ H ⟨F, S, ρ, De, r, h, k1, k2, k3, k4, k5⟩ => ?_
  refine ⟨F, S, ρ, _, _, r, h, fun vs xs S1 ρ1 H1 g1 r1 p1 q1 => ?_, fun e cls d S' ρ' H' g' r' => k5 e cls d ρ' σ S' H' g' r'⟩
  have kk : ∀ v acc S' ρ' H', Gr F.B S1 S' → R X.K F S' ρ' σ H' → VR X.K F S' ρ' σ H' v (.fr (.l acc)) → storeS i (.fr (.l acc)) ρ' De.nx → gName i v σ H' D.nx := fun v acc S' ρ' H' g' r' vr' q' => by
    obtain ⟨S4, ρ4, g4, r4, q4⟩ := VR.store r' vr' q'
    exact k1 ρ4 _ S4 H' ((g1.trans g').trans g4) r4 q4
  rcases rng_ok p1 q1.2 with ⟨n, e, b1, b2, q, l⟩ | ⟨m, n, e, b, q, l⟩
  · have l1 : xs.length = 2 := q1.1
    omega
  · exact ⟨m, n, e, b, lc_turns r1 (RpL.range (fun i => m + (i : Nat)) _) hjs q (fun i H' _ hi => goR i H' hi) (fun H' _ => stopR) kk⟩
end
end DW
/-! DWk: the ends. -/
namespace DW
open PySem L2
theorem ds_never {X : Cx} {W : WX} {sts : List Stmt} : DSs X W sts dNever := ⟨fun pp s σ H D I h => by
  obtain ⟨F, S, ρ, De, r, z, _⟩ := h
  exact False.elim z⟩
/-- the same thing, which nothing unfolds -/
noncomputable def shut {α : Sort u} (x : α) : α := Classical.choose (⟨x, rfl⟩ : ∃ y, y = x)
theorem shut_eq {α : Sort u} (x : α) : shut x = x := Classical.choose_spec (⟨x, rfl⟩ : ∃ y, y = x)
theorem d_shut {X : Cx} {W : WX} {sts : List Stmt} {d : DTS} (h : DSs X W sts d) : DSs X W sts (shut d) := (shut_eq d).symm ▸ h
theorem fn_shut {P : Program} {w : World} {K : PySem.W.Frag} {mg : Str → Option Value} {base : Heap} {CX : CXT} {k n : Nat} {f : Addr} {fd : FuncData} {ps : List Str} {G : DSp} (h : FnOk P w K mg base CX k f fd ps (spD K n G)) : FnOk P w K mg base CX k f fd ps (spD K n (shut G)) := (shut_eq G).symm ▸ h
theorem cast_k {P : Program} {w : World} {K : PySem.W.Frag} {mg : Str → Option Value} {base : Heap} {CX : CXT} {k j : Nat} {f : Addr} {fd : FuncData} {ps : List Str} {sp : Sp} (F : FnOk P w K mg base CX k f fd ps sp) (e : k = j) : FnOk P w K mg base CX j f fd ps sp := e ▸ F
theorem walk_D {l : PySem.W.OpenLaw} {k : Nat} {q : Program} {loose : List Str} {XP : (Str → Option Value) → Heap → Prop} {YP : World → Heap → Prop} {d : DefRec} {K : Params → PySem.W.Frag} {x : Str} {run : Cs → DSp}
    (hn : l.most = some 63) (hdf : d.params.defaults = []) (hr : Room k callerA)
    (hY : ∀ (w : World) (h : Heap), YP w h → (K w.params).In h)
    (hlaw : ∀ (A : Cs) (ns : List Int), ns.length ≤ 63 → run A [.d (.scr ns)] (fun x _ => x = .d (.bl true)) (fun _ _ => False))
    (F : ∀ (w : World) (mg : Str → Option Value) (fa : Addr) (h : Heap), (K w.params).In h → h.Ns mainGlobals mg → mg d.name = some (.ref fa) →
      ∃ (fd : FuncData) (A : Cs), (∀ (s : Shared) (u : Value), BindsTo s fd ⟨[u], []⟩ [(x, u)]) ∧
        ∀ base : Heap, (K w.params).In base → base.Ns mainGlobals mg → FnOk l.prog w (K w.params) mg base (L2.CX l.prog w) k fa fd [x] (spD (K w.params) 1 (run A))) :
    PySem.W.WalkO q loose XP YP l.row.toRowW d [] (fun f vs => PySem.call f vs) := by
  refine L2.walk_of (n := 63) (k := k) (x := x) (CX := fun w => L2.CX l.prog w) (sp := fun w vs H Q _ => ∃ (a : Addr) (ns : List Int), vs = [.ref a] ∧ SqL (K w.params) H a (ns.map V.int) ∧ ns.length ≤ 63 ∧ ∀ H', Q (.bl true) H') hn (by decide) hdf hr hY (fun w mg fa h KX G hmg => ?_) (fun _ _ a ns hl _ hS => ⟨a, ns, rfl, hS, hl, fun _ => rfl⟩) fun _ _ _ _ _ z => ?_
  · obtain ⟨fd, A, hb, hF⟩ := F w mg fa h KX G hmg
    refine ⟨fd, hb, fun base h1 h2 => (hF base h1 h2).imp fun vs H Q E h => ?_⟩
    obtain ⟨a, ns, rfl, hS, hl, hq⟩ := h
    refine ⟨rfl, H, H, [.d (.scr ns)], _, _, ⟨rfl, rfl, fun _ _ e => e, fun _ _ e => e, fun i y e => ?_, fun i j y z p e1 e2 o1 o2 _ _ => ?_⟩, hlaw A ns hl, fun v y S' as' H' _ _ vr _ e => ?_, fun _ _ _ _ _ _ _ _ _ z => z.elim⟩
    · cases i with
      | zero => cases e; exact ⟨_, rfl, _, rfl, a, rfl, hS⟩
      | succ i => cases e
    · cases i with
      | zero => cases e1; cases o1
      | succ i => cases e1
    · subst e
      have e : v = .bl true := vr
      rw [e]
      exact hq H'
  · obtain ⟨_, _, _, _, _, _, _, _, _, _, _, _, _, _, _, _, z⟩ := z
end DW
/-! DWp: the pure side: loops by induction, comparisons of ints and lists of ints. -/
namespace DW
open PySem L2
/-- where a def's body leads -/
def dEnd (n : Nat) (Q : DV → List SV → Prop) (E : DExc → List SV → Prop) : DEnds := { nx := fun ρ => Q (.d .non) (outS n ρ), rt := fun x ρ => outV x ρ fun y => Q y (outS n ρ), ex := fun e ρ => E e (outS n ρ) }
theorem run_eq {n m : Nat} {body : DTS} {as : List SV} {Q : DV → List SV → Prop} {E : DExc → List SV → Prop} : dRun n m body as Q E = body (dEnd n Q E) (as ++ List.replicate m .un) := rfl
theorem dEnd_nx {n : Nat} {Q : DV → List SV → Prop} {E : DExc → List SV → Prop} {ρ : List SV} : (dEnd n Q E).nx ρ = Q (.d .non) (outS n ρ) := rfl
theorem dEnd_rt {n : Nat} {Q : DV → List SV → Prop} {E : DExc → List SV → Prop} {x : DV} {ρ : List SV} : (dEnd n Q E).rt x ρ = outV x ρ fun y => Q y (outS n ρ) := rfl
theorem dEnd_ex {n : Nat} {Q : DV → List SV → Prop} {E : DExc → List SV → Prop} {x : DExc} {ρ : List SV} : (dEnd n Q E).ex x ρ = E x (outS n ρ) := rfl
theorem forN_ind {α : Type} (f : α → D) {dg : DTG} {body : DTS} {De : DEnds} (P : List α → List SV → Prop) (h0 : ∀ ρ, P [] ρ → De.nx ρ)
    (hs : ∀ a as ρ (N : List SV → Prop), P (a :: as) ρ → (∀ ρ', P as ρ' → N ρ') → dg (f a) ρ fun ρ1 => body { De with nx := N, ct := N, bk := De.nx } ρ1) : ∀ xs ρ, P xs ρ → dForN dg body De (xs.map f) ρ
  | [], ρ, h => h0 ρ h
  | a :: as, ρ, h => hs a as ρ _ h fun ρ' h' => forN_ind f P h0 hs as ρ' h'
theorem whN_ind {dt : DTT} {body : DTS} {De : DEnds} (P : Nat → List SV → Prop) (h0 : ∀ ρ, ¬ P 0 ρ)
    (hs : ∀ n ρ (N : List SV → Prop), P (n + 1) ρ → (∀ ρ', P n ρ' → N ρ') → dt ρ (fun k ρ1 => if k = true then body { De with nx := N, ct := N, bk := De.nx } ρ1 else De.nx ρ1) De.ex) : ∀ n ρ, P n ρ → dWhN dt body De n ρ
  | 0, ρ, h => (h0 ρ h).elim
  | n + 1, ρ, h => hs n ρ _ h fun ρ' h' => whN_ind P h0 hs n ρ' h'
theorem lcN_fm {α : Type} (f : α → D) (p : α → Bool) (g : α → D) {dg : DTG} {dt : DTT} {de : DTE} {vs : List Nat} {Q : List D → List SV → Prop} {ρ0 : List SV} : ∀ (xs : List α) (acc : List D),
    (∀ a, a ∈ xs → ∀ (N : D → List SV → Prop) (M : List SV → Prop), (p a = true → N (g a) ρ0) → (p a = false → M ρ0) → dg (f a) ρ0 fun ρ1 => dt ρ1 (fun k ρ2 => if k = true then de ρ2 (fun y ρ3 => stab y ρ3 fun c ρ4 => N c (wipeD ρ4 vs)) (fun _ _ => False) else M (wipeD ρ2 vs)) (fun _ _ => False)) →
    acc.length + xs.length ≤ sizeLine → Q (acc ++ (xs.filter p).map g) ρ0 → dLcN dg dt de vs Q (xs.map f) acc ρ0
  | [], acc, _, _, q => by simpa [dLcN] using q
  | a :: as, acc, h, hl, q => by
    have hl' : acc.length + (as.length + 1) ≤ sizeLine := by simpa using hl
    have hh := fun b hb => h b (List.mem_cons_of_mem _ hb)
    refine h a List.mem_cons_self (fun c ρ => acc.length < sizeLine ∧ dLcN dg dt de vs Q (as.map f) (acc ++ [c]) ρ) (fun ρ => dLcN dg dt de vs Q (as.map f) acc ρ) (fun hp => ⟨by omega, ?_⟩) (fun hp => ?_)
    · refine lcN_fm f p g as _ hh (by simp; omega) ?_
      rw [List.filter_cons, if_pos hp] at q
      simpa using q
    · refine lcN_fm f p g as _ hh (by omega) ?_
      rw [List.filter_cons, if_neg (by rw [hp]; decide)] at q
      exact q
theorem eqv_int (a b : Int) : D.eqv (.int a) (.int b) = decide (a = b) := by
  show (a == b) = _
  by_cases h : a = b
  · simp [h]
  · simp [h]
theorem eqvAll_ints : ∀ as bs : List Int, PyData.eqvAll (D.pyL (as.map .int)) (D.pyL (bs.map .int)) = decide (as = bs)
  | [], [] => rfl
  | [], _ :: _ => rfl
  | _ :: _, [] => rfl
  | a :: as, b :: bs => by
    show ((a == b) && PyData.eqvAll (D.pyL (as.map .int)) (D.pyL (bs.map .int))) = _
    rw [eqvAll_ints as bs]
    by_cases h : a = b
    · simp [h]
    · simp [h]
theorem eqv_ints (as bs : List Int) : D.eqv (.lst (as.map .int)) (.lst (bs.map .int)) = decide (as = bs) := eqvAll_ints as bs
theorem eqv_nil (as : List Int) : D.eqv (.lst (as.map .int)) (.lst []) = decide (as = []) := eqvAll_ints as []
theorem eqv_nilD : ∀ as : List D, D.eqv (.lst as) (.lst []) = as.isEmpty
  | [] => rfl
  | _ :: _ => rfl
theorem ix_nat {n j : Nat} (h : j < n) : L2.ixN n (j : Int) = some j := by
  unfold L2.ixN
  rw [if_pos (by omega), if_pos (by omega), Int.toNat_natCast]
theorem at_nat {α : Type} (xs : List α) (n : Nat) : L2.atI xs (n : Int) = xs[n]? := by
  unfold L2.atI
  by_cases h : n < xs.length
  · rw [ix_nat h]
    rfl
  · unfold L2.ixN
    rw [if_pos (by omega), if_neg (by omega), List.getElem?_eq_none (by omega)]
    rfl
theorem at_0 {α : Type} (xs : List α) : L2.atI xs 0 = xs[0]? := at_nat xs 0
theorem at_1 {α : Type} (xs : List α) : L2.atI xs 1 = xs[1]? := at_nat xs 1
theorem at_2 {α : Type} (xs : List α) : L2.atI xs 2 = xs[2]? := at_nat xs 2
theorem at_3 {α : Type} (xs : List α) : L2.atI xs 3 = xs[3]? := at_nat xs 3
theorem ix_0 : L2.ixN 4 0 = some 0 := rfl
theorem ix_1 : L2.ixN 4 1 = some 1 := rfl
theorem ix_2 : L2.ixN 4 2 = some 2 := rfl
theorem ix_3 : L2.ixN 4 3 = some 3 := rfl
theorem plL_ints (n : Nat) : ∀ xs : List Int, D.plL (xs.map .int) n = true
  | [] => by simp [D.plL]
  | x :: xs => by
    have := plL_ints n xs
    simp [D.plL, D.pl, this]
theorem pl_ints {xs : List Int} {n : Nat} : (D.lst (xs.map .int)).pl (n + 1) = true := by
  show D.plL (xs.map .int) n = true
  exact plL_ints n xs
theorem if_false_t {p q : Prop} : (if false = true then p else q) = q := if_neg (by decide)
theorem anyI (a : Int) : ∀ xs : List Int, ((xs.map D.int).any fun z => D.eqv z (.int a)) = decide (a ∈ xs)
  | [] => by simp
  | x :: xs => by
    rw [List.map_cons, List.any_cons, anyI a xs, eqv_int]
    by_cases h : x = a
    · simp [h]
    · have h' : ¬ a = x := fun e => h e.symm
      simp [h, h']
/-! the readings' equations at known data -/
section
variable {a b c x y : D} {ρ : List SV} {o : OO} {i j : Nat} {m n : Int} {k : D → Prop} {kv : DV → Prop} {ks : D → List SV → Prop} {kk : List SV → Prop} {kl : List D → Prop} {xs ys : List D} {C C0 : Addr} {fs : List (Str × D)} {f : Str}
theorem pk_d : pk ρ (.d x) k = k x := rfl
theorem pk_fr : pk ρ (.fr o) k = k o.toD := rfl
theorem pk_sl : pk ρ (.sl i) k = match ρ[i]? with | some (.d x) => k x | some (.ow o) => k o.toD | some (.rf o) => k o.toD | _ => False := rfl
theorem stab_d : stab (.d x) ρ ks = ks x ρ := rfl
theorem stab_fr : stab (.fr o) ρ ks = ks o.toD ρ := rfl
theorem stab_sl : stab (.sl i) ρ ks = match ρ[i]? with | some (.d a) => ks a ρ | some (.ow o) => ks o.toD (ρ.set i (.d o.toD)) | _ => False := rfl
theorem fz_d : (DV.d x).fz = .d x := rfl
theorem fz_fr : (DV.fr o).fz = .d o.toD := rfl
theorem fz_sl : (DV.sl i).fz = .sl i := rfl
theorem toD_l : (OO.l xs).toD = .lst xs := rfl
theorem toD_i : (OO.i C fs).toD = .ins C fs := rfl
theorem toD_k {kvs : List (Key × D)} : (OO.k kvs).toD = .dct kvs := rfl
theorem re_rf {o' : OO} : (SV.rf o').re o = .rf o := rfl
theorem re_ow {o' : OO} : (SV.ow o').re o = .ow o := rfl
theorem store_d : storeS i (.d a) ρ kk = (i < ρ.length ∧ kk (ρ.set i (.d a))) := rfl
theorem store_fr : storeS i (.fr o) ρ kk = (i < ρ.length ∧ kk (ρ.set i (.ow o))) := rfl
theorem store_sl : storeS i (.sl j) ρ kk = (i < ρ.length ∧ stab (.sl j) ρ fun a ρ1 => kk (ρ1.set i (.d a))) := rfl
theorem outV_d : outV (.d a) ρ kv = kv (.d a) := rfl
theorem outV_fr : outV (.fr o) ρ kv = kv (.fr o) := rfl
theorem outV_sl : outV (.sl i) ρ kv = match ρ[i]? with | some (.d a) => kv (.d a) | some (.ow o) => kv (.fr o) | _ => False := rfl
theorem items_l : items (.lst xs) kl = kl xs := rfl
theorem items_t : items (.tup xs) kl = kl xs := rfl
theorem items_s {ns : List Int} : items (.scr ns) kl = kl (ns.map .int) := rfl
theorem rng_1 {kr : Int → Nat → Prop} : rng [.int n] kr = (-1000000000000 ≤ n ∧ n ≤ 1000000000000 ∧ kr 0 n.toNat) := rfl
theorem rng_2 {kr : Int → Nat → Prop} : rng [.int m, .int n] kr = (-1000000000000 ≤ m ∧ m ≤ 1000000000000 ∧ -1000000000000 ≤ n ∧ n ≤ 1000000000000 ∧ kr m (n - m).toNat) := rfl
theorem dgT_t {is : List Nat} : dgT is (.tup xs) ρ kk = setAll is xs ρ kk := rfl
theorem setAll_0 : setAll [] [] ρ kk = kk ρ := rfl
theorem setAll_s {is : List Nat} : setAll (i :: is) (a :: xs) ρ kk = (i < ρ.length ∧ setAll is xs (ρ.set i (.d a)) kk) := rfl
theorem putR_rf {y : SV} {bs : List SV} : putR i y ρ (.rf o :: bs) kk = kk (ρ.set i (y.re o)) := rfl
theorem madeQ_n {bs : List SV} {ko : OO → Prop} : madeQ (.d .non) (.rf o :: bs) ko = ko o := rfl
theorem fAdd_i : fAdd (.int m) (.int n) kv = kv (.d (.int (m + n))) := rfl
theorem fAdd_l : fAdd (.lst xs) (.lst ys) kv = (xs.length + ys.length ≤ sizeLine ∧ kv (.fr (.l (xs ++ ys)))) := rfl
theorem fSub_i : fSub (.int m) (.int n) kv = kv (.d (.int (m - n))) := rfl
theorem fMul_i : fMul (.int m) (.int n) kv = ((m.natAbs < 2 ^ 64 ∨ n.natAbs < 2 ^ 64 ∨ (m.natAbs < 2 ^ 400000 ∧ n.natAbs < 2 ^ 400000)) ∧ kv (.d (.int (m * n)))) := rfl
theorem fDiv_i : fDiv (.int m) (.int n) kv = (((n ≠ 0 ∧ n.natAbs < 1073741824) ∨ (0 < n ∧ n.natAbs < 2 ^ 8000)) ∧ kv (.d (.int (m.fdiv n)))) := rfl
theorem fMod_i : fMod (.int m) (.int n) kv = (n ≠ 0 ∧ kv (.d (.int (m.fmod n)))) := rfl
theorem fPow_i : fPow (.int m) (.int n) kv = (0 ≤ n ∧ n ≤ 1000000 ∧ m.natAbs < 2 ^ 64 ∧ kv (.d (.int (m ^ n.toNat)))) := rfl
theorem fNeg_i : fNeg (.int m) kv = kv (.d (.int (-m))) := rfl
theorem fCmp_i {p : Int → Int → Bool} : fCmp p (.int m) (.int n) kv = kv (.d (.bl (p m n))) := rfl
theorem fIn_l : fInB false a (.lst xs) kv = (a.pl 7 = true ∧ (D.lst xs).pl 8 = true ∧ kv (.d (.bl (xs.any fun z => D.eqv z a)))) := rfl
theorem fNotIn_l : fInB true a (.lst xs) kv = (a.pl 7 = true ∧ (D.lst xs).pl 8 = true ∧ kv (.d (.bl (!(xs.any fun z => D.eqv z a))))) := rfl
theorem fIx_l : fIx (.lst xs) (.int n) kv = match L2.atI xs n with | some c => kv (.d c) | none => False := rfl
theorem fIx_t : fIx (.tup xs) (.int n) kv = match L2.atI xs n with | some c => kv (.d c) | none => False := rfl
theorem fIx_s {ns : List Int} : fIx (.scr ns) (.int n) kv = match L2.atI ns n with | some c => kv (.d (.int c)) | none => False := rfl
theorem fLen_l : fLen (.lst xs) kv = kv (.d (.int xs.length)) := rfl
theorem fLen_t : fLen (.tup xs) kv = kv (.d (.int xs.length)) := rfl
theorem fLen_s {ns : List Int} : fLen (.scr ns) kv = kv (.d (.int ns.length)) := rfl
theorem fInt_i : fInt (.int n) kv = kv (.d (.int n)) := rfl
theorem fInt_b {q : Bool} : fInt (.bl q) kv = kv (.d (.int (if q then 1 else 0))) := rfl
theorem fList_l : fList (.lst xs) kv = kv (.fr (.l xs)) := rfl
theorem fList_t : fList (.tup xs) kv = kv (.fr (.l xs)) := rfl
theorem fIsN_n : fIsN a .non kv = kv (.d (.bl a.isN)) := rfl
theorem fNotN_n : fNotN a .non kv = kv (.d (.bl (!a.isN))) := rfl
theorem isN_i : (D.int n).isN = false := rfl
theorem gAppend_1 {kd : D → List D → Prop} : gAppend xs [a] kd = (xs.length < sizeLine ∧ kd .non (xs ++ [a])) := rfl
theorem gPop_0 {kd : D → List D → Prop} : gPop xs [] kd = match xs[xs.length - 1]? with | some a => kd a xs.dropLast | none => False := rfl
theorem gPop_c {kd : D → List D → Prop} : gPop (xs ++ [a]) [] kd = kd a xs := by
  have e : (xs ++ [a])[(xs ++ [a]).length - 1]? = some a := by simp
  have e2 : (xs ++ [a]).dropLast = xs := by simp
  rw [gPop_0, e, e2]
theorem fFld_i : fFld C0 f (.ins C fs) kv = (C = C0 ∧ match fs.lookup f with | some y => kv (.d y) | none => False) := rfl
theorem fRev_l : fRev (.lst xs) kv = kv (.fr (.l xs.reverse)) := rfl
theorem pl_i {q : Nat} : (D.int n).pl q = true := by cases q <;> rfl
theorem fIsi_i {T : String} : fIsi T (.int n) kv = kv (.d (.bl (T == "int"))) := rfl
theorem fIsi_b {T : String} {q : Bool} : fIsi T (.bl q) kv = kv (.d (.bl (T == "bool" || T == "int"))) := rfl
theorem fIsi_n {T : String} : fIsi T .non kv = kv (.d (.bl false)) := rfl
theorem fIsi_l {T : String} : fIsi T (.lst xs) kv = kv (.d (.bl (T == "list"))) := rfl
theorem fIsi_t {T : String} : fIsi T (.tup xs) kv = kv (.d (.bl (T == "tuple"))) := rfl
theorem tst_b {de : DTE} {Q : Bool → List SV → Prop} {E : DExc → List SV → Prop} : dTst de ρ Q E = de ρ (fun x ρ1 => match x with | .d (.bl b) => Q b ρ1 | _ => False) E := rfl
end
/-! sorted -/
theorem leD_int (a b : Int) : leD (.int a) (.int b) = decide (a ≤ b) := by
  have e : leD (.int a) (.int b) = !(PyProof.Rows.lexLt PyProof.Rows.itemOrd [Sum.inl b] [Sum.inl a]) := rfl
  rw [e]
  by_cases h : b = a
  · subst h
    have : PyProof.Rows.lexLt PyProof.Rows.itemOrd [Sum.inl b] [Sum.inl b] = false := (PyProof.Rows.lex_self (O := PyProof.Rows.itemOrd) (Sum.inl b) [] []).trans rfl
    rw [this]
    simp
  · have hne : (Sum.inl b : Int ⊕ List Nat) ≠ .inl a := fun q => h (by cases q; rfl)
    have : PyProof.Rows.lexLt PyProof.Rows.itemOrd [Sum.inl b] [Sum.inl a] = decide (b < a) := PyProof.Rows.lex_diff (O := PyProof.Rows.itemOrd) hne
    rw [this]
    by_cases h2 : b < a
    · have h3 : ¬ a ≤ b := by omega
      simp [h2, h3]
    · have h3 : a ≤ b := by omega
      simp [h2, h3]
def sortI (xs : List Int) : List Int := xs.mergeSort fun a b => decide (a ≤ b)
theorem sortI_D (xs : List Int) : (xs.map D.int).mergeSort leD = (sortI xs).map .int := (List.map_mergeSort fun a _ b _ => (leD_int a b).symm).symm
theorem sortI_perm (xs : List Int) : (sortI xs).Perm xs := List.mergeSort_perm _ _
theorem sortI_len (xs : List Int) : (sortI xs).length = xs.length := (sortI_perm xs).length_eq
theorem sortI_pw (xs : List Int) : (sortI xs).Pairwise fun a b => decide (a ≤ b) = true := List.pairwise_mergeSort (fun a b c h1 h2 => by simp at *; omega) (fun a b => by simp; omega) xs
theorem sortI_iff {xs ys : List Int} : sortI xs = sortI ys ↔ xs.Perm ys := by
  constructor
  · intro h
    exact (sortI_perm xs).symm.trans (h ▸ sortI_perm ys)
  · intro h
    exact List.Perm.eq_of_pairwise (fun a b _ _ h1 h2 => by simp at *; omega) (sortI_pw xs) (sortI_pw ys) ((sortI_perm xs).trans (h.trans (sortI_perm ys).symm))
theorem alike_ints : ∀ as bs : List Int, PySem.W.alikeAll (D.pyL (as.map .int)) (D.pyL (bs.map .int)) = true
  | [], [] => rfl
  | [], _ :: _ => rfl
  | _ :: _, [] => rfl
  | a :: as, b :: bs => alike_ints as bs
theorem fSorted_ints {xs : List Int} {kv : DV → Prop} (h : xs.length ≤ sizeLine) (k : kv (.fr (.l ((sortI xs).map .int)))) : fSorted (.lst (xs.map .int)) kv := by
  refine ⟨by rw [List.length_map]; exact h, ?_, ?_, ?_, ?_⟩
  · intro d hd d' hd'
    simp only [List.mem_map] at hd hd'
    obtain ⟨_, ⟨a, _, rfl⟩, rfl⟩ := hd
    obtain ⟨_, ⟨b, _, rfl⟩, rfl⟩ := hd'
    rfl
  · refine .inr fun d hd => ?_
    simp only [List.mem_map] at hd
    obtain ⟨_, ⟨a, _, rfl⟩, rfl⟩ := hd
    exact ⟨(fun z => nomatch z), fun xs z => nomatch z⟩
  · intro x hx
    obtain ⟨a, _, rfl⟩ := List.mem_map.mp hx
    exact pl_i
  · rw [sortI_D]
    exact k
/-- what a tree costs, and its roads -/
def treeD (t : Int × List Int) : D := .tup [.int t.1, .lst (t.2.map .int)]
def sortT (ts : List (Int × List Int)) : List (Int × List Int) := ts.mergeSort fun a b => leD (treeD a) (treeD b)
theorem sortT_D (ts : List (Int × List Int)) : (ts.map treeD).mergeSort leD = (sortT ts).map treeD := (List.map_mergeSort (f := treeD) (s := leD) (r := fun a b => leD (treeD a) (treeD b)) fun _ _ _ _ => rfl).symm
theorem sortT_perm (ts : List (Int × List Int)) : (sortT ts).Perm ts := List.mergeSort_perm _ _
theorem pl_tree {t : Int × List Int} {n : Nat} : (treeD t).pl (n + 2) = true := by
  unfold treeD
  simp [D.pl, D.plL, plL_ints]
theorem fSorted_trees {ts : List (Int × List Int)} {kv : DV → Prop} (h : ts.length ≤ sizeLine) (k : kv (.fr (.l ((sortT ts).map treeD)))) : fSorted (.lst (ts.map treeD)) kv := by
  refine ⟨by rw [List.length_map]; exact h, ?_, ?_, ?_, ?_⟩
  · intro d hd d' hd'
    simp only [List.mem_map] at hd hd'
    obtain ⟨_, ⟨a, _, rfl⟩, rfl⟩ := hd
    obtain ⟨_, ⟨b, _, rfl⟩, rfl⟩ := hd'
    show (true && (PySem.W.alikeAll _ _ && true)) = true
    rw [alike_ints]
    rfl
  · refine .inl fun d hd => ?_
    simp only [List.mem_map] at hd
    obtain ⟨_, ⟨a, _, rfl⟩, rfl⟩ := hd
    exact ⟨_, _, rfl⟩
  · intro x hx
    obtain ⟨a, _, rfl⟩ := List.mem_map.mp hx
    exact pl_tree
  · rw [sortT_D]
    exact k
theorem fSum_ints {xs : List Int} {kv : DV → Prop} : fSum (.lst (xs.map .int)) kv = kv (.d (.int xs.sum)) := by
  simp only [fSum, intsD_map]
theorem dedup_full : ∀ (ns acc : List Int), (ns.foldl PyProof.Rows.step_dedup acc).length = acc.length + ns.length ↔ ns.Nodup ∧ ∀ x, x ∈ ns → x ∉ acc
  | [], acc => by simp
  | x :: ns, acc => by
    rw [List.foldl_cons, List.nodup_cons, List.length_cons]
    by_cases c : x ∈ acc
    · have e : PyProof.Rows.step_dedup acc x = acc := if_pos (List.any_eq_true.mpr ⟨x, c, by simp⟩)
      have h := dedup_len ns acc
      rw [e]
      constructor
      · intro q
        omega
      · intro q
        exact absurd c (q.2 x List.mem_cons_self)
    · have e : PyProof.Rows.step_dedup acc x = acc ++ [x] := if_neg fun z => by
        obtain ⟨y, hy, e⟩ := List.any_eq_true.mp z
        rw [show y = x by simpa using e] at hy
        exact c hy
      have ih := dedup_full ns (acc ++ [x])
      rw [List.length_append, List.length_singleton] at ih
      rw [e, show acc.length + (ns.length + 1) = acc.length + 1 + ns.length by omega, ih]
      constructor
      · rintro ⟨h1, h2⟩
        refine ⟨⟨fun hx => h2 x hx (by simp), h1⟩, fun y hy => ?_⟩
        rcases List.mem_cons.mp hy with rfl | hy
        · exact c
        · exact fun z => h2 y hy (by simp [z])
      · rintro ⟨⟨h1, h2⟩, h3⟩
        refine ⟨h2, fun y hy z => ?_⟩
        rcases List.mem_append.mp z with z | z
        · exact h3 y (List.mem_cons_of_mem _ hy) z
        · rw [List.mem_singleton.mp z] at hy
          exact h1 hy
theorem dist_iff {ns : List Int} : dist ns = ns.length ↔ ns.Nodup := by
  unfold dist PyProof.Rows.firstMet
  have e : (List.range ns.length).map (fun i => ns.getD i 0) = ns := List.ext_getElem (by simp) fun i h1 h2 => by simp [h2]
  rw [e]
  have := dedup_full ns []
  simpa using this
end DW
/-! DGr: what roads lead to; the two searches. -/
namespace DW
open PySem L2
abbrev Road := Int × Int × Int
def roadD (r : Road) : D := .tup [.int r.1, .int r.2.1, .int r.2.2]
def rowsD (rs : List Road) : List D := rs.map roadD
inductive Rch (rs : List Road) (root : Int) : Int → Prop
  | root : Rch rs root root
  | step {r : Road} (h : r ∈ rs) (p : Rch rs root r.1) : Rch rs root r.2.1
theorem Rch.mono {rs rs' : List Road} {root x : Int} (h : ∀ r, r ∈ rs → r ∈ rs') (p : Rch rs root x) : Rch rs' root x := by
  induction p with
  | root => exact .root
  | step hr _ ih => exact .step (h _ hr) ih
theorem Rch.cases' {rs : List Road} {root x : Int} (p : Rch rs root x) : x = root ∨ ∃ r, r ∈ rs ∧ r.2.1 = x := by
  cases p with
  | root => exact .inl rfl
  | step h _ => exact .inr ⟨_, h, rfl⟩
theorem len_le_of_subset : ∀ {fs gs : List Int}, fs.Nodup → (∀ x, x ∈ fs → x ∈ gs) → fs.length ≤ gs.length
  | [], _, _, _ => Nat.zero_le _
  | x :: fs, gs, h, hs => by
    have h' := List.nodup_cons.mp h
    have hx := hs x List.mem_cons_self
    have ih := len_le_of_subset (fs := fs) (gs := gs.erase x) h'.2 fun y hy => (List.mem_erase_of_ne (fun e : y = x => h'.1 (e ▸ hy))).mpr (hs y (List.mem_cons_of_mem _ hy))
    rw [List.length_erase_of_mem hx] at ih
    have : 0 < gs.length := List.length_pos_of_mem hx
    rw [List.length_cons]
    omega
def leadStep (cur : Int) (fs : List Int) (r : Road) : List Int := if r.1 = cur ∧ r.2.1 ∉ fs then fs ++ [r.2.1] else fs
theorem lead_facts (cur : Int) : ∀ (rs : List Road) (fs : List Int), fs.Nodup → (rs.foldl (leadStep cur) fs).Nodup ∧ (∃ t, rs.foldl (leadStep cur) fs = fs ++ t) ∧ (∀ x, x ∈ rs.foldl (leadStep cur) fs → x ∈ fs ∨ ∃ r, r ∈ rs ∧ r.1 = cur ∧ r.2.1 = x) ∧ ∀ r, r ∈ rs → r.1 = cur → r.2.1 ∈ rs.foldl (leadStep cur) fs
  | [], fs, h => ⟨h, ⟨[], (List.append_nil fs).symm⟩, fun x hx => .inl hx, fun r hr => nomatch hr⟩
  | r :: rs, fs, h => by
    rw [List.foldl_cons]
    have h1 : (leadStep cur fs r).Nodup := by
      unfold leadStep
      split
      · rename_i c
        exact List.nodup_append.mpr ⟨h, by simp, fun a ha b hb e => c.2 (by rw [List.mem_singleton.mp hb] at e; exact e ▸ ha)⟩
      · exact h
    obtain ⟨a, ⟨t, b⟩, c, d⟩ := lead_facts cur rs _ h1
    have h2 : ∃ t', leadStep cur fs r = fs ++ t' := by
      unfold leadStep
      split
      · exact ⟨_, rfl⟩
      · exact ⟨[], (List.append_nil fs).symm⟩
    obtain ⟨t', e'⟩ := h2
    have h3 : r.1 = cur → r.2.1 ∈ leadStep cur fs r := fun e => by
      unfold leadStep
      by_cases m : r.2.1 ∈ fs
      · rw [if_neg fun z => z.2 m]
        exact m
      · rw [if_pos ⟨e, m⟩]
        simp
    refine ⟨a, ⟨t' ++ t, by rw [b, e', List.append_assoc]⟩, fun x hx => ?_, fun q hq e => ?_⟩
    · rcases c x hx with hx | ⟨q, hq, e1, e2⟩
      · unfold leadStep at hx
        split at hx
        · rename_i c2
          rcases List.mem_append.mp hx with hx | hx
          · exact .inl hx
          · exact .inr ⟨r, List.mem_cons_self, c2.1, (List.mem_singleton.mp hx).symm⟩
        · exact .inl hx
      · exact .inr ⟨q, List.mem_cons_of_mem _ hq, e1, e2⟩
    · rcases List.mem_cons.mp hq with rfl | hq
      · rw [b]
        exact List.mem_append_left _ (h3 e)
      · exact d q hq e
structure LeadInv (rs : List Road) (root : Int) (fs : List Int) (at_ : Nat) : Prop where
  nd : fs.Nodup
  rch : ∀ x, x ∈ fs → Rch rs root x
  rt : root ∈ fs
  cl : ∀ j x, j < at_ → fs[j]? = some x → ∀ r, r ∈ rs → r.1 = x → r.2.1 ∈ fs
  le : at_ ≤ fs.length
theorem LeadInv.start {rs : List Road} {root : Int} : LeadInv rs root [root] 0 := ⟨by simp, fun x hx => by rw [List.mem_singleton.mp hx]; exact .root, by simp, fun j x h => absurd h (Nat.not_lt_zero _), Nat.zero_le _⟩
theorem LeadInv.bound {rs : List Road} {root : Int} {fs : List Int} (nd : fs.Nodup) (rch : ∀ x, x ∈ fs → Rch rs root x) : fs.length ≤ rs.length + 1 := by
  have := len_le_of_subset (gs := root :: rs.map (·.2.1)) nd fun x hx => by
    rcases (rch x hx).cases' with e | ⟨r, hr, e⟩
    · rw [e]; exact List.mem_cons_self
    · exact List.mem_cons_of_mem _ (List.mem_map.mpr ⟨r, hr, e⟩)
  simpa using this
theorem LeadInv.next {rs : List Road} {root : Int} {fs : List Int} {k : Nat} {c : Int} (I : LeadInv rs root fs k) (h : fs[k]? = some c) : LeadInv rs root (rs.foldl (leadStep c) fs) (k + 1) := by
  obtain ⟨a, ⟨t, b⟩, m, d⟩ := lead_facts c rs fs I.nd
  have hk : k < fs.length := (List.getElem?_eq_some_iff.mp h).1
  have hc : c ∈ fs := List.mem_of_getElem? h
  refine ⟨a, fun x hx => ?_, by rw [b]; exact List.mem_append_left _ I.rt, fun j x hj e r hr e2 => ?_, by rw [b, List.length_append]; omega⟩
  · rcases m x hx with hx | ⟨r, hr, e1, e2⟩
    · exact I.rch x hx
    · rw [← e2]
      exact .step hr (e1 ▸ I.rch c hc)
  · rw [b, List.getElem?_append_left (by omega)] at e
    by_cases hjk : j = k
    · subst hjk
      rw [h] at e
      cases e
      exact d r hr e2
    · rw [b]
      exact List.mem_append_left _ (I.cl j x (by omega) e r hr e2)
theorem LeadInv.done {rs : List Road} {root : Int} {fs : List Int} (I : LeadInv rs root fs fs.length) (x : Int) : x ∈ fs ↔ Rch rs root x := by
  refine ⟨I.rch x, fun p => ?_⟩
  induction p with
  | root => exact I.rt
  | step hr _ ih =>
    obtain ⟨j, hj⟩ := List.getElem?_of_mem ih
    exact I.cl j _ (List.getElem?_eq_some_iff.mp hj).1 hj _ hr rfl
/-! the other search -/
def comeStep (cur : Int) (p : List Int × List Int) (r : Road) : List Int × List Int := if r.1 = cur ∧ r.2.1 ∉ p.1 then (p.1 ++ [r.2.1], p.2 ++ [r.2.1]) else p
theorem come_lead (cur : Int) : ∀ (rs : List Road) (fs ws : List Int), ∃ t, rs.foldl (comeStep cur) (fs, ws) = (fs ++ t, ws ++ t) ∧ rs.foldl (leadStep cur) fs = fs ++ t
  | [], fs, ws => ⟨[], by simp, by simp⟩
  | r :: rs, fs, ws => by
    rw [List.foldl_cons, List.foldl_cons]
    by_cases c : r.1 = cur ∧ r.2.1 ∉ fs
    · obtain ⟨t, a, b⟩ := come_lead cur rs (fs ++ [r.2.1]) (ws ++ [r.2.1])
      refine ⟨r.2.1 :: t, ?_, ?_⟩
      · rw [show comeStep cur (fs, ws) r = (fs ++ [r.2.1], ws ++ [r.2.1]) from if_pos c, a]
        simp
      · rw [show leadStep cur fs r = fs ++ [r.2.1] from if_pos c, b]
        simp
    · obtain ⟨t, a, b⟩ := come_lead cur rs fs ws
      exact ⟨t, by rw [show comeStep cur (fs, ws) r = (fs, ws) from if_neg c]; exact a, by rw [show leadStep cur fs r = fs from if_neg c]; exact b⟩
structure ComeInv (rs : List Road) (root : Int) (fs ws : List Int) : Prop where
  nd : fs.Nodup
  rch : ∀ x, x ∈ fs → Rch rs root x
  rt : root ∈ fs
  sub : ∀ x, x ∈ ws → x ∈ fs
  cl : ∀ x, x ∈ fs → x ∉ ws → ∀ r, r ∈ rs → r.1 = x → r.2.1 ∈ fs
theorem ComeInv.start {rs : List Road} {root : Int} : ComeInv rs root [root] [root] := ⟨by simp, fun x hx => by rw [List.mem_singleton.mp hx]; exact .root, by simp, fun x h => h, fun x h1 h2 => absurd h1 h2⟩
theorem ComeInv.next {rs : List Road} {root : Int} {fs ws : List Int} {c : Int} (I : ComeInv rs root fs (ws ++ [c])) : ∃ t, rs.foldl (comeStep c) (fs, ws) = (fs ++ t, ws ++ t) ∧ ComeInv rs root (fs ++ t) (ws ++ t) := by
  obtain ⟨t, e1, e2⟩ := come_lead c rs fs ws
  obtain ⟨a, _, m, d⟩ := lead_facts c rs fs I.nd
  rw [e2] at a m d
  have hc : c ∈ fs := I.sub c (by simp)
  refine ⟨t, e1, a, fun x hx => ?_, List.mem_append_left _ I.rt, fun x hx => ?_, fun x hx hw r hr e => ?_⟩
  · rcases m x hx with hx | ⟨r, hr, e1, e2⟩
    · exact I.rch x hx
    · rw [← e2]
      exact .step hr (e1 ▸ I.rch c hc)
  · rcases List.mem_append.mp hx with hx | hx
    · exact List.mem_append_left _ (I.sub x (List.mem_append_left _ hx))
    · exact List.mem_append_right _ hx
  · rcases List.mem_append.mp hx with hx | hx
    · by_cases hxc : x = c
      · exact d r hr (e.trans hxc)
      · refine List.mem_append_left _ (I.cl x hx (fun z => ?_) r hr e)
        rcases List.mem_append.mp z with z | z
        · exact hw (List.mem_append_left _ z)
        · exact hxc (List.mem_singleton.mp z)
    · exact absurd (List.mem_append_right _ hx) hw
theorem ComeInv.done {rs : List Road} {root : Int} {fs : List Int} (I : ComeInv rs root fs []) (x : Int) : x ∈ fs ↔ Rch rs root x := by
  refine ⟨I.rch x, fun p => ?_⟩
  induction p with
  | root => exact I.rt
  | step hr _ ih => exact I.cl _ ih (by simp) _ hr rfl
theorem at_road (r : Road) : L2.atI [D.int r.1, .int r.2.1, .int r.2.2] 0 = some (.int r.1) ∧ L2.atI [D.int r.1, .int r.2.1, .int r.2.2] 1 = some (.int r.2.1) ∧ L2.atI [D.int r.1, .int r.2.1, .int r.2.2] 2 = some (.int r.2.2) := ⟨rfl, rfl, rfl⟩
end DW
namespace Lk02
open PySem L2 DW
noncomputable def r_Map_init_1 (A : Cs) : DTS := shut
  (dIfS (dNot (dTst (dChain fLe fLe (dC (.int 0)) (dVar 7) (dC (.int 1000000000)))))
  dNever
  dNil)
noncomputable def l_Map_init_2 (A : Cs) : DTS := shut
  (dSeq (dAsg (dBin fIx (dVar 3) (dVar 4)) (dgT [5, 6, 7]))
  (dSeq (dIfS (dOr (dNot (dTst (dChain fLe fLt (dC (.int 0)) (dVar 5) (dVar 1)))) (dOr (dNot (dTst (dChain fLe fLt (dC (.int 0)) (dVar 6) (dVar 1)))) (dTst (dBin fEq (dVar 5) (dVar 6)))))
  dNever
  dNil)
  (r_Map_init_1 A)))
noncomputable def r_Map_init_3 (A : Cs) : DTS := shut
  (dSeq (dSetF A.Map 0 "many" (dVar 1))
  (dSeq (dSetF A.Map 0 "root" (dVar 2))
  (dSetF A.Map 0 "rows" (dUn fList (dVar 3)))))
noncomputable def r_Map_init_4 (A : Cs) : DTS := shut
  (dSeq (dForG 1 (dACons (dUn fLen (dVar 3)) dANil) (dgN 4)
  (l_Map_init_2 A))
  (r_Map_init_3 A))
noncomputable def r_Map_init_5 (A : Cs) : DTS := shut
  (dSeq (dIfS (dTst (dBin fGt (dUn fLen (dVar 3)) (dC (.int 60))))
  dNever
  dNil)
  (r_Map_init_4 A))
noncomputable def r_Map_init_6 (A : Cs) : DTS := shut
  (dSeq (dIfS (dNot (dTst (dChain fLe fLt (dC (.int 0)) (dVar 2) (dVar 1))))
  dNever
  dNil)
  (r_Map_init_5 A))
/-- Map.__init__: 0 self 1 many 2 root 3 roads 4 at 5 begin 6 goal 7 cost -/
noncomputable def b_Map_init (A : Cs) : DTS :=
  (dSeq (dIfS (dNot (dTst (dChain fLe fLe (dC (.int 1)) (dVar 1) (dC (.int 20)))))
  dNever
  dNil)
  (r_Map_init_6 A))
noncomputable def run_Map_init (A : Cs) : DSp := shut (dRun 4 4 (b_Map_init A))
/-- cost_of: 0 chart 1 roads 2 road -/
noncomputable def b_cost_of (A : Cs) : DTS :=
  (dRet (dUn fSum (dLc (dVar 1) (dgN 2) dYes (dBin fIx (dBin fIx (dFld A.Map "rows" (dVar 0)) (dVar 2)) (dC (.int 2))) [2])))
noncomputable def run_cost_of (A : Cs) : DSp := shut (dRun 2 1 (b_cost_of A))
/-- Map.begin: 0 self -/
noncomputable def b_Map_begin (A : Cs) : DTS :=
  (dRet (dFld A.Map "root" (dVar 0)))
noncomputable def run_Map_begin (A : Cs) : DSp := shut (dRun 1 0 (b_Map_begin A))
/-- Map.size: 0 self -/
noncomputable def b_Map_size (A : Cs) : DTS :=
  (dRet (dFld A.Map "many" (dVar 0)))
noncomputable def run_Map_size (A : Cs) : DSp := shut (dRun 1 0 (b_Map_size A))
noncomputable def l_come_to_1 (A : Cs) : DTS := shut
  (dIfS (dAnd (dTst (dBin fEq (dBin fIx (dVar 6) (dC (.int 0))) (dVar 5))) (dTst (dBin fNotIn (dBin fIx (dVar 6) (dC (.int 1))) (dVar 3))))
  (dSeq (dExpr (dLM 3 gAppend (dACons (dBin fIx (dVar 6) (dC (.int 1))) dANil)))
  (dExpr (dLM 4 gAppend (dACons (dBin fIx (dVar 6) (dC (.int 1))) dANil))))
  dNil)
noncomputable def l_come_to_2 (A : Cs) : DTS := shut
  (dSeq (dSet 5 (dLM 4 gPop dANil))
  (dFor (dVar 2) (dgN 6)
  (l_come_to_1 A)))
noncomputable def r_come_to_3 (A : Cs) : DTS := shut
  (dRet (dUn fSorted (dVar 3)))
/-- come_to: 0 many 1 root 2 rows 3 found 4 waiting 5 here 6 row -/
noncomputable def b_come_to (A : Cs) : DTS :=
  (dSeq (dSet 3 (dLst (dACons (dVar 1) dANil)))
  (dSeq (dSet 4 (dLst (dACons (dVar 1) dANil)))
  (dSeq (dWhile (dTst (dBin fNe (dVar 4) (dLst dANil)))
  (l_come_to_2 A))
  (r_come_to_3 A))))
noncomputable def run_come_to (A : Cs) : DSp := shut (dRun 3 4 (b_come_to A))
noncomputable def r_is_tree_1 (A : Cs) : DTS := shut
  (dSeq (dSet 2 (dLc (dVar 1) (dgN 3) dYes (dBin fIx (dFld A.Map "rows" (dVar 0)) (dVar 3)) [3]))
  (dRet (dBin fEq (dUn fLen (dCall 3 (run_come_to A) (dACons (dMeth 1 A.Map "size" (run_Map_size A) (dVar 0) dANil) (dACons (dMeth 1 A.Map "begin" (run_Map_begin A) (dVar 0) dANil) (dACons (dVar 2) dANil))))) (dMeth 1 A.Map "size" (run_Map_size A) (dVar 0) dANil))))
noncomputable def r_is_tree_2 (A : Cs) : DTS := shut
  (dSeq (dIfS (dTst (dBin fNe (dLc (dVar 1) (dgN 3) (dNot (dTst (dChain fLe fLt (dC (.int 0)) (dVar 3) (dUn fLen (dFld A.Map "rows" (dVar 0)))))) (dVar 3) [3]) (dLst dANil)))
  (dRet (dC (.bl false)))
  dNil)
  (r_is_tree_1 A))
/-- is_tree: 0 chart 1 roads 2 rows 3 road -/
noncomputable def b_is_tree (A : Cs) : DTS :=
  (dSeq (dIfS (dOr (dTst (dBin fNe (dUn fLenSet (dVar 1)) (dUn fLen (dVar 1)))) (dTst (dBin fNe (dUn fLen (dVar 1)) (dBin fSub (dMeth 1 A.Map "size" (run_Map_size A) (dVar 0) dANil) (dC (.int 1))))))
  (dRet (dC (.bl false)))
  dNil)
  (r_is_tree_2 A))
noncomputable def run_is_tree (A : Cs) : DSp := shut (dRun 2 2 (b_is_tree A))
noncomputable def l_law_dice_1 (A : Cs) : DTS := shut
  (dSet 1 (dBin fMod (dBin fAdd (dBin fAdd (dBin fMul (dVar 1) (dC (.int 48271))) (dBin fMul (dBin fMod (dVar 2) (dC (.int 2147483647))) (dC (.int 69621)))) (dC (.int 11))) (dC (.int 2147483647))))
noncomputable def r_law_dice_2 (A : Cs) : DTS := shut
  (dRet (dLst (dACons (dVar 0) (dACons (dC (.int 0)) (dACons (dBin fMul (dVar 1) (dUn fInt (dBin fGt (dUn fLen (dVar 0)) (dC (.int 2))))) (dACons (dC (.int 0)) dANil))))))
/-- _law_dice: 0 script 1 mixed 2 cell -/
noncomputable def b_law_dice (A : Cs) : DTS :=
  (dSeq (dSet 1 (dC (.int 0)))
  (dSeq (dFor (dVar 0) (dgN 2)
  (l_law_dice_1 A))
  (r_law_dice_2 A)))
noncomputable def run_law_dice (A : Cs) : DSp := shut (dRun 1 2 (b_law_dice A))
noncomputable def l_law_like_1 (A : Cs) (self : DSp) : DTS := shut
  (dIfS (dNot (dTst (dCall 2 self (dACons (dBin fIx (dVar 0) (dVar 2)) (dACons (dBin fIx (dVar 1) (dVar 2)) dANil)))))
  (dRet (dC (.bl false)))
  dNil)
noncomputable def r_law_like_2 (A : Cs) (self : DSp) : DTS := shut
  (dRet (dC (.bl true)))
noncomputable def r_law_like_3 (A : Cs) (self : DSp) : DTS := shut
  (dSeq (dForG 1 (dACons (dUn fLen (dVar 1)) dANil) (dgN 2)
  (l_law_like_1 A self))
  (r_law_like_2 A self))
noncomputable def r_law_like_4 (A : Cs) (self : DSp) : DTS := shut
  (dSeq (dIfS (dTst (dBin fNe (dUn fLen (dVar 0)) (dUn fLen (dVar 1))))
  (dRet (dC (.bl false)))
  dNil)
  (r_law_like_3 A self))
noncomputable def r_law_like_5 (A : Cs) (self : DSp) : DTS := shut
  (dSeq (dIfS (dOr (dTst (dBin fNe (dUn (fIsi "tuple") (dVar 1)) (dUn (fIsi "tuple") (dVar 0)))) (dTst (dBin fNe (dUn (fIsi "list") (dVar 1)) (dUn (fIsi "list") (dVar 0)))))
  (dRet (dC (.bl false)))
  dNil)
  (r_law_like_4 A self))
noncomputable def r_law_like_6 (A : Cs) (self : DSp) : DTS := shut
  (dSeq (dIfS (dTst (dBin fIsN (dVar 1) (dC .non)))
  (dRet (dBin fIsN (dVar 0) (dC .non)))
  dNil)
  (r_law_like_5 A self))
noncomputable def r_law_like_7 (A : Cs) (self : DSp) : DTS := shut
  (dSeq (dIfS (dTst (dUn (fIsi "int") (dVar 1)))
  (dRet (dAndV (dUn (fIsi "int") (dVar 0)) (dAndV (dNotV (dUn (fIsi "bool") (dVar 0))) (dBin fEq (dVar 0) (dVar 1)))))
  dNil)
  (r_law_like_6 A self))
noncomputable def b_law_like (A : Cs) (self : DSp) : DTS :=
  (dSeq (dIfS (dTst (dUn (fIsi "str") (dVar 1)))
  (dRet (dAndV (dUn (fIsi "str") (dVar 0)) (dBin fEq (dVar 0) (dVar 1))))
  dNil)
  (r_law_like_7 A self))
noncomputable def run_law_like (A : Cs) : Nat → DSp
  | 0 => dRun 2 1 dNever
  | k + 1 => dRun 2 1 (b_law_like A (run_law_like A k))
noncomputable def runT_law_like (A : Cs) : DSp := shut (run_law_like A 3)
noncomputable def r_law_next_1 (A : Cs) : DTS := shut
  (dSeq (dSetIx 0 (dC (.int 2)) (dBin fMod (dBin fMul (dBin fIx (dVar 0) (dC (.int 2))) (dC (.int 48271))) (dC (.int 2147483647))))
  (dRet (dBin fMod (dBin fDiv (dBin fIx (dVar 0) (dC (.int 2))) (dC (.int 7))) (dVar 1))))
noncomputable def r_law_next_2 (A : Cs) : DTS := shut
  (dSeq (dSetIx 0 (dC (.int 1)) (dBin fAdd (dBin fIx (dVar 0) (dC (.int 1))) (dC (.int 1))))
  (dSeq (dIfS (dTst (dBin fLe (dBin fIx (dVar 0) (dC (.int 1))) (dUn fLen (dBin fIx (dVar 0) (dC (.int 0))))))
  (dSeq (dSet 3 (dBin fIx (dBin fIx (dVar 0) (dC (.int 0))) (dBin fSub (dBin fIx (dVar 0) (dC (.int 1))) (dC (.int 1)))))
  (dSeq (dSetIx 0 (dC (.int 3)) (dIf (dTst (dBin fGe (dVar 3) (dBin fPow (dC (.int 10)) (dC (.int 18))))) (dBin fDiv (dVar 3) (dVar 1)) (dC (.int 0))))
  (dRet (dBin fMod (dVar 3) (dVar 1)))))
  dNil)
  (r_law_next_1 A)))
/-- _law_next: 0 dice_here 1 many 2 found 3 cell -/
noncomputable def b_law_next (A : Cs) : DTS :=
  (dSeq (dIfS (dTst (dBin fGt (dBin fIx (dVar 0) (dC (.int 3))) (dC (.int 0))))
  (dSeq (dSet 2 (dBin fMod (dBin fIx (dVar 0) (dC (.int 3))) (dVar 1)))
  (dSeq (dSetIx 0 (dC (.int 3)) (dBin fDiv (dBin fIx (dVar 0) (dC (.int 3))) (dVar 1)))
  (dRet (dVar 2))))
  dNil)
  (r_law_next_2 A))
noncomputable def run_law_next (A : Cs) : DSp := shut (dRun 2 2 (b_law_next A))
noncomputable def r_law_cost_1 (A : Cs) : DTS := shut
  (dRet (dCallR 2 0 (run_law_next A) (dACons (dBin fIx (dLst (dACons (dC (.int 200)) (dACons (dBin fAdd (dBin fPow (dC (.int 10)) (dC (.int 9))) (dC (.int 1))) dANil))) (dBin fSub (dVar 1) (dC (.int 4)))) dANil)))
/-- _law_cost: 0 d 1 way -/
noncomputable def b_law_cost (A : Cs) : DTS :=
  (dSeq (dSet 1 (dCallR 2 0 (run_law_next A) (dACons (dC (.int 6)) dANil)))
  (dSeq (dIfS (dTst (dBin fLt (dVar 1) (dC (.int 4))))
  (dRet (dCallR 2 0 (run_law_next A) (dACons (dBin fAdd (dC (.int 3)) (dBin fMul (dC (.int 4)) (dVar 1))) dANil)))
  dNil)
  (r_law_cost_1 A)))
noncomputable def run_law_cost (A : Cs) : DSp := shut (dRun 1 1 (b_law_cost A))
noncomputable def r_law_map_1 (A : Cs) : DTS := shut
  (dIfS (dTst (dBin fNe (dVar 7) (dVar 8)))
  (dExpr (dLM 5 gAppend (dACons (dTup (dACons (dVar 7) (dACons (dVar 8) (dACons (dCallR 1 0 (run_law_cost A) dANil) dANil)))) dANil)))
  dNil)
noncomputable def l_law_map_2 (A : Cs) : DTS := shut
  (dSeq (dSet 7 (dCallR 2 0 (run_law_next A) (dACons (dVar 3) dANil)))
  (dSeq (dSet 8 (dBin fMod (dBin fAdd (dBin fAdd (dVar 7) (dC (.int 1))) (dCallR 2 0 (run_law_next A) (dACons (dBin fSub (dVar 3) (dC (.int 1))) dANil))) (dVar 3)))
  (dSeq (dIfS (dAnd (dTst (dBin fGt (dCallR 2 0 (run_law_next A) (dACons (dC (.int 5)) dANil)) (dC (.int 0)))) (dTst (dBin fLt (dVar 6) (dVar 3))))
  (dSeq (dSet 8 (dBin fMod (dBin fAdd (dBin fAdd (dVar 4) (dC (.int 1))) (dVar 6)) (dVar 3)))
  (dSet 7 (dBin fMod (dBin fAdd (dVar 4) (dCallR 2 0 (run_law_next A) (dACons (dBin fAdd (dVar 6) (dC (.int 1))) dANil))) (dVar 3))))
  dNil)
  (r_law_map_1 A))))
noncomputable def r_law_map_3 (A : Cs) : DTS := shut
  (dRet (dTup (dACons (dVar 3) (dACons (dVar 4) (dACons (dVar 5) dANil)))))
/-- _law_map: 0 d 1 places 2 roads 3 many 4 root 5 rows 6 k 7 begin 8 goal -/
noncomputable def b_law_map (A : Cs) : DTS :=
  (dSeq (dSet 3 (dBin fAdd (dC (.int 1)) (dCallR 2 0 (run_law_next A) (dACons (dVar 1) dANil))))
  (dSeq (dSet 4 (dCallR 2 0 (run_law_next A) (dACons (dVar 3) dANil)))
  (dSeq (dSet 5 (dLst dANil))
  (dSeq (dIfS (dTst (dBin fGt (dVar 3) (dC (.int 1))))
  (dForG 1 (dACons (dCallR 2 0 (run_law_next A) (dACons (dBin fAdd (dVar 2) (dC (.int 1))) dANil)) dANil) (dgN 6)
  (l_law_map_2 A))
  dNil)
  (r_law_map_3 A)))))
noncomputable def run_law_map (A : Cs) : DSp := shut (dRun 3 6 (b_law_map A))
noncomputable def l_law_leads_1 (A : Cs) : DTS := shut
  (dIfS (dAnd (dTst (dBin fEq (dVar 5) (dBin fIx (dVar 3) (dVar 4)))) (dTst (dBin fNotIn (dVar 6) (dVar 3))))
  (dExpr (dLM 3 gAppend (dACons (dVar 6) dANil)))
  dNil)
noncomputable def r_law_leads_2 (A : Cs) : DTS := shut
  (dSet 4 (dBin fAdd (dVar 4) (dC (.int 1))))
noncomputable def l_law_leads_3 (A : Cs) : DTS := shut
  (dSeq (dFor (dVar 2) (dgT [5, 6, 7])
  (l_law_leads_1 A))
  (r_law_leads_2 A))
noncomputable def r_law_leads_4 (A : Cs) : DTS := shut
  (dRet (dVar 3))
/-- _law_leads: 0 many 1 root 2 rows 3 found 4 at 5 begin 6 goal 7 cost_here -/
noncomputable def b_law_leads (A : Cs) : DTS :=
  (dSeq (dSet 3 (dLst (dACons (dVar 1) dANil)))
  (dSeq (dSet 4 (dC (.int 0)))
  (dSeq (dWhile (dTst (dBin fLt (dVar 4) (dUn fLen (dVar 3))))
  (l_law_leads_3 A))
  (r_law_leads_4 A))))
noncomputable def run_law_leads (A : Cs) : DSp := shut (dRun 3 5 (b_law_leads A))
noncomputable def l_law_trees_1 (A : Cs) : DTS := shut
  (dSet 7 (dBin fAdd (dVar 7) (dLc (dVar 6) (dgN 10) dYes (dBin fAdd (dVar 8) (dLst (dACons (dVar 10) dANil))) [10])))
noncomputable def r_law_trees_2 (A : Cs) : DTS := shut
  (dSet 4 (dVar 7))
noncomputable def l_law_trees_3 (A : Cs) : DTS := shut
  (dIfS (dTst (dBin fNe (dVar 5) (dVar 2)))
  (dSeq (dSet 6 (dLcG 1 (dACons (dUn fLen (dVar 3)) dANil) (dgN 10) (dTst (dBin fEq (dBin fIx (dBin fIx (dVar 3) (dVar 10)) (dC (.int 1))) (dVar 5))) (dVar 10) [10]))
  (dSeq (dSet 7 (dLst dANil))
  (dSeq (dFor (dVar 4) (dgN 8)
  (l_law_trees_1 A))
  (r_law_trees_2 A))))
  dNil)
noncomputable def l_law_trees_4 (A : Cs) : DTS := shut
  (dIfS (dTst (dBin fEq (dUn fLen (dCall 3 (run_law_leads A) (dACons (dVar 1) (dACons (dVar 2) (dACons (dLc (dVar 8) (dgN 10) dYes (dBin fIx (dVar 3) (dVar 10)) [10]) dANil))))) (dVar 1)))
  (dExpr (dLM 9 gAppend (dACons (dTup (dACons (dUn fSum (dLc (dVar 8) (dgN 10) dYes (dBin fIx (dBin fIx (dVar 3) (dVar 10)) (dC (.int 2))) [10])) (dACons (dUn fSorted (dVar 8)) dANil))) dANil)))
  dNil)
noncomputable def r_law_trees_5 (A : Cs) : DTS := shut
  (dRet (dUn fSorted (dVar 9)))
noncomputable def r_law_trees_6 (A : Cs) : DTS := shut
  (dSeq (dSet 9 (dLst dANil))
  (dSeq (dFor (dVar 4) (dgN 8)
  (l_law_trees_4 A))
  (r_law_trees_5 A)))
/-- _law_trees: 0 chart 1 many 2 root 3 rows 4 some 5 place 6 into 7 longer 8 row 9 found 10 road -/
noncomputable def b_law_trees (A : Cs) : DTS :=
  (dSeq (dAsg (dVar 0) (dgT [1, 2, 3]))
  (dSeq (dSet 4 (dLst (dACons (dLst dANil) dANil)))
  (dSeq (dForG 1 (dACons (dVar 1) dANil) (dgN 5)
  (l_law_trees_3 A))
  (r_law_trees_6 A))))
noncomputable def run_law_trees (A : Cs) : DSp := shut (dRun 1 10 (b_law_trees A))
noncomputable def r_law_1 (A : Cs) : DTS := shut
  (dIfS (dAnd (dTst (dBin fNe (dVar 7) (dLst dANil))) (dTst (dBin fEq (dCallR 2 1 (run_law_next A) (dACons (dC (.int 2)) dANil)) (dC (.int 1)))))
  (dSetIx 7 (dCallR 2 1 (run_law_next A) (dACons (dUn fLen (dVar 7)) dANil)) (dCallR 2 1 (run_law_next A) (dACons (dUn fLen (dVar 5)) dANil)))
  dNil)
noncomputable def r_law_2 (A : Cs) : DTS := shut
  (dRet (dCall 2 (runT_law_like A) (dACons (dCall 2 (run_cost_of A) (dACons (dMake 4 A.Map (run_Map_init A) (dACons (dVar 3) (dACons (dVar 4) (dACons (dVar 5) dANil)))) (dACons (dVar 11) dANil))) (dACons (dUn fSum (dLc (dVar 11) (dgN 13) dYes (dBin fIx (dBin fIx (dVar 5) (dVar 13)) (dC (.int 2))) [13])) dANil))))
noncomputable def r_law_3 (A : Cs) : DTS := shut
  (dSeq (dSet 11 (dLc (dVar 7) (dgN 13) (dTst (dChain fLe fLt (dC (.int 0)) (dVar 13) (dUn fLen (dVar 5)))) (dVar 13) [13]))
  (r_law_2 A))
noncomputable def r_law_4 (A : Cs) : DTS := shut
  (dSeq (dIfS (dOr (dNot (dTst (dUn (fIsi "bool") (dVar 9)))) (dOr (dTst (dBin fNe (dVar 9) (dVar 10))) (dTst (dBin fNe (dVar 8) (dVar 7)))))
  (dRet (dC (.bl false)))
  dNil)
  (r_law_3 A))
noncomputable def r_law_5 (A : Cs) : DTS := shut
  (dSeq (dSet 10 (dBin fIn (dUn fSorted (dVar 7)) (dLc (dVar 6) (dgT [14, 15]) dYes (dVar 15) [14, 15])))
  (r_law_4 A))
noncomputable def r_law_6 (A : Cs) : DTS := shut
  (dSeq (dSet 8 (dUn fList (dVar 7)))
  (dSeq (dSet 9 (dCall 2 (run_is_tree A) (dACons (dMake 4 A.Map (run_Map_init A) (dACons (dVar 3) (dACons (dVar 4) (dACons (dVar 5) dANil)))) (dACons (dVar 8) dANil))))
  (r_law_5 A)))
noncomputable def r_law_7 (A : Cs) : DTS := shut
  (dSeq (dIfS (dAnd (dTst (dBin fNe (dVar 6) (dLst dANil))) (dTst (dBin fGt (dCallR 2 1 (run_law_next A) (dACons (dC (.int 3)) dANil)) (dC (.int 0)))))
  (dSeq (dSet 7 (dUn fRev (dBin fIx (dBin fIx (dVar 6) (dCallR 2 1 (run_law_next A) (dACons (dUn fLen (dVar 6)) dANil))) (dC (.int 1)))))
  (r_law_1 A))
  dNil)
  (r_law_6 A))
noncomputable def r_law_8 (A : Cs) : DTS := shut
  (dSeq (dSet 7 (dLcG 1 (dACons (dCallR 2 1 (run_law_next A) (dACons (dBin fAdd (dVar 3) (dC (.int 1))) dANil)) dANil) (dgN 12) dYes (dBin fSub (dCallR 2 1 (run_law_next A) (dACons (dBin fAdd (dUn fLen (dVar 5)) (dC (.int 2))) dANil)) (dC (.int 1))) [12]))
  (r_law_7 A))
noncomputable def r_law_9 (A : Cs) : DTS := shut
  (dSeq (dAsg (dVar 2) (dgT [3, 4, 5]))
  (dSeq (dSet 6 (dCall 1 (run_law_trees A) (dACons (dVar 2) dANil)))
  (r_law_8 A)))
noncomputable def r_law_10 (A : Cs) : DTS := shut
  (dSeq (dSet 2 (dCallR 3 1 (run_law_map A) (dACons (dC (.int 5)) (dACons (dC (.int 9)) dANil))))
  (r_law_9 A))
/-- law: 0 script 1 d 2 chart 3 many 4 root 5 rows 6 trees_here 7 roads 8 handed 9 found 10 due 11 some 12 k 13 road 14 cost_here 15 tree -/
noncomputable def b_law (A : Cs) : DTS :=
  (dSeq (dSet 1 (dCall 1 (run_law_dice A) (dACons (dVar 0) dANil)))
  (r_law_10 A))
noncomputable def run_law (A : Cs) : DSp := shut (dRun 1 15 (b_law A))
end Lk02
namespace Lk02
open PySem L2 DW
def top (i : Nat) : Stmt := PySem.Challenge.pw_rootcheap_k02_trees_known.main.body.getD i (.Pass ⟨0, 0, 0, 0⟩)
abbrev s_Map_init : Stmt := inClass (top 7) 0
abbrev s_cost_of : Stmt := top 10
abbrev s_Map_begin : Stmt := inClass (top 7) 2
abbrev s_Map_size : Stmt := inClass (top 7) 1
abbrev s_come_to : Stmt := top 8
abbrev s_is_tree : Stmt := top 9
abbrev s_law_dice : Stmt := top 12
abbrev s_law_like : Stmt := top 14
abbrev s_law_next : Stmt := top 13
abbrev s_law_cost : Stmt := top 15
abbrev s_law_map : Stmt := top 16
abbrev s_law_leads : Stmt := top 17
abbrev s_law_trees : Stmt := top 18
abbrev s_law : Stmt := top 19
structure Fa where
  f_Map_init : Addr
  d_Map_init : FuncData
  f_cost_of : Addr
  d_cost_of : FuncData
  f_Map_begin : Addr
  d_Map_begin : FuncData
  f_Map_size : Addr
  d_Map_size : FuncData
  f_come_to : Addr
  d_come_to : FuncData
  f_is_tree : Addr
  d_is_tree : FuncData
  f_law_dice : Addr
  d_law_dice : FuncData
  f_law_like : Addr
  d_law_like : FuncData
  f_law_next : Addr
  d_law_next : FuncData
  f_law_cost : Addr
  d_law_cost : FuncData
  f_law_map : Addr
  d_law_map : FuncData
  f_law_leads : Addr
  d_law_leads : FuncData
  f_law_trees : Addr
  d_law_trees : FuncData
  f_law : Addr
  d_law : FuncData
structure Tx (K : PySem.W.Frag) (mg : Str → Option Value) (A : Cs) (B : Fa) : Prop where
  n_bool : mg "bool" = none
  n_int : mg "int" = none
  n_isinstance : mg "isinstance" = none
  n_len : mg "len" = none
  n_list : mg "list" = none
  n_range : mg "range" = none
  n_set : mg "set" = none
  n_sorted : mg "sorted" = none
  n_str : mg "str" = none
  n_sum : mg "sum" = none
  n_tuple : mg "tuple" = none
  g_MOST_COST : ∃ t, mg "MOST_COST" = some (.int 1000000000 t)
  g_MOST_PLACES : ∃ t, mg "MOST_PLACES" = some (.int 20 t)
  g_MOST_ROADS : ∃ t, mg "MOST_ROADS" = some (.int 60 t)
  c_Map : Cls K A.Map
  a_Map_many : NoAttr K A.Map "many"
  a_Map_root : NoAttr K A.Map "root"
  a_Map_rows : NoAttr K A.Map "rows"
  F_Map_init : Fun K "__init__" "Map.__init__" s_Map_init B.f_Map_init B.d_Map_init
  b_Map_init : Binds K B.d_Map_init ["self", "many", "root", "roads"] []
  m_Map : Mk K A.Map B.f_Map_init
  g_Map : mg "Map" = some (.ref A.Map)
  F_cost_of : Fun K "cost_of" "cost_of" s_cost_of B.f_cost_of B.d_cost_of
  b_cost_of : Binds K B.d_cost_of ["chart", "roads"] []
  g_cost_of : mg "cost_of" = some (.ref B.f_cost_of)
  k_cost_of : PySem.W.keepIn K (.ref B.f_cost_of) = true
  F_Map_begin : Fun K "begin" "Map.begin" s_Map_begin B.f_Map_begin B.d_Map_begin
  b_Map_begin : Binds K B.d_Map_begin ["self"] []
  t_Map_begin : Meth K A.Map "begin" B.f_Map_begin
  F_Map_size : Fun K "size" "Map.size" s_Map_size B.f_Map_size B.d_Map_size
  b_Map_size : Binds K B.d_Map_size ["self"] []
  t_Map_size : Meth K A.Map "size" B.f_Map_size
  F_come_to : Fun K "come_to" "come_to" s_come_to B.f_come_to B.d_come_to
  b_come_to : Binds K B.d_come_to ["many", "root", "rows"] []
  g_come_to : mg "come_to" = some (.ref B.f_come_to)
  k_come_to : PySem.W.keepIn K (.ref B.f_come_to) = true
  F_is_tree : Fun K "is_tree" "is_tree" s_is_tree B.f_is_tree B.d_is_tree
  b_is_tree : Binds K B.d_is_tree ["chart", "roads"] []
  g_is_tree : mg "is_tree" = some (.ref B.f_is_tree)
  k_is_tree : PySem.W.keepIn K (.ref B.f_is_tree) = true
  F_law_dice : Fun K "_law_dice" "_law_dice" s_law_dice B.f_law_dice B.d_law_dice
  b_law_dice : Binds K B.d_law_dice ["_law_script"] []
  g_law_dice : mg "_law_dice" = some (.ref B.f_law_dice)
  k_law_dice : PySem.W.keepIn K (.ref B.f_law_dice) = true
  F_law_like : Fun K "_law_like" "_law_like" s_law_like B.f_law_like B.d_law_like
  b_law_like : Binds K B.d_law_like ["_law_found", "_law_due"] []
  g_law_like : mg "_law_like" = some (.ref B.f_law_like)
  k_law_like : PySem.W.keepIn K (.ref B.f_law_like) = true
  F_law_next : Fun K "_law_next" "_law_next" s_law_next B.f_law_next B.d_law_next
  b_law_next : Binds K B.d_law_next ["_law_dice_here", "_law_many"] []
  g_law_next : mg "_law_next" = some (.ref B.f_law_next)
  k_law_next : PySem.W.keepIn K (.ref B.f_law_next) = true
  F_law_cost : Fun K "_law_cost" "_law_cost" s_law_cost B.f_law_cost B.d_law_cost
  b_law_cost : Binds K B.d_law_cost ["_law_d"] []
  g_law_cost : mg "_law_cost" = some (.ref B.f_law_cost)
  k_law_cost : PySem.W.keepIn K (.ref B.f_law_cost) = true
  F_law_map : Fun K "_law_map" "_law_map" s_law_map B.f_law_map B.d_law_map
  b_law_map : Binds K B.d_law_map ["_law_d", "_law_places", "_law_roads"] []
  g_law_map : mg "_law_map" = some (.ref B.f_law_map)
  k_law_map : PySem.W.keepIn K (.ref B.f_law_map) = true
  F_law_leads : Fun K "_law_leads" "_law_leads" s_law_leads B.f_law_leads B.d_law_leads
  b_law_leads : Binds K B.d_law_leads ["_law_many", "_law_root", "_law_rows"] []
  g_law_leads : mg "_law_leads" = some (.ref B.f_law_leads)
  k_law_leads : PySem.W.keepIn K (.ref B.f_law_leads) = true
  F_law_trees : Fun K "_law_trees" "_law_trees" s_law_trees B.f_law_trees B.d_law_trees
  b_law_trees : Binds K B.d_law_trees ["_law_chart"] []
  g_law_trees : mg "_law_trees" = some (.ref B.f_law_trees)
  k_law_trees : PySem.W.keepIn K (.ref B.f_law_trees) = true
  F_law : Fun K "law" "law" s_law B.f_law B.d_law
  b_law : Binds K B.d_law ["_law_script"] []
  g_law : mg "law" = some (.ref B.f_law)
  k_law : PySem.W.keepIn K (.ref B.f_law) = true
section
variable {P : Program} {w : World} {K : PySem.W.Frag} {mg : Str → Option Value} {base : Heap} {A : Cs} {B : Fa}
theorem sc_Map_init : FnScope ["self", "many", "root", "roads", "at", "begin", "goal", "cost"] ["self", "many", "root", "roads"] (defScope s_Map_init) := ⟨rfl, rfl, rfl, by decide +kernel, rfl, by decide +kernel, by decide +kernel⟩
theorem ok_Map_init (T : Tx K mg A B) : FnOk P w K mg base (L2.CX P w) 1 B.f_Map_init B.d_Map_init ["self", "many", "root", "roads"] (spD K 4 (run_Map_init A)) := fn_shut (fn_D (N := ["self", "many", "root", "roads", "at", "begin", "goal", "cost"]) (ps := ["self", "many", "root", "roads"]) T.F_Map_init sc_Map_init fun cdv Ar outer s H E hr => 
  (d_cons (d_ifS (d_not (d_chainT op_le (ok_cmp _) op_le (ok_cmp _) d_int (d_var 1) (d_glob T.g_MOST_PLACES.choose_spec)))
  (d_last d_never)
  d_nil)
  (d_shut (d_cons (d_ifS (d_not (d_chainT op_le (ok_cmp _) op_lt (ok_cmp _) d_int (d_var 2) (d_var 1)))
  (d_last d_never)
  d_nil)
  (d_shut (d_cons (d_ifS (d_cmpT op_gt (ok_cmp _) (d_len T.n_len (d_var 3)) (d_glob T.g_MOST_ROADS.choose_spec))
  (d_last d_never)
  d_nil)
  (d_shut (d_cons (d_forR1 (passes_of rfl) rfl T.n_range (d_acons (d_len T.n_len (d_var 3)) d_anil) (d_gname 4 sc_Map_init.nd)
  (d_shut (d_cons (d_asg (d_ix (hu1 hr) (d_var 3) (d_var 4)) (d_gtup [5, 6, 7] rfl (pgs_cons (pg_name (i := 5) sc_Map_init.nd rfl (by first | exact Or.inl rfl | exact Or.inr rfl)) (pgs_cons (pg_name (i := 6) sc_Map_init.nd rfl (by first | exact Or.inl rfl | exact Or.inr rfl)) (pgs_cons (pg_name (i := 7) sc_Map_init.nd rfl (by first | exact Or.inl rfl | exact Or.inr rfl)) pgs_nil)))))
  (d_cons (d_ifS (d_pw (d_or (d_not (d_chainT op_le (ok_cmp _) op_lt (ok_cmp _) d_int (d_var 5) (d_var 1))) (d_or (d_not (d_chainT op_le (ok_cmp _) op_lt (ok_cmp _) d_int (d_var 6) (d_var 1))) (d_or1 (d_cmpT (op_eqD (hu64 hr)) ok_eq (d_var 5) (d_var 6))))))
  (d_last d_never)
  d_nil)
  (d_shut (d_last (d_ifS (d_not (d_chainT op_le (ok_cmp _) op_le (ok_cmp _) d_int (d_var 7) (d_glob T.g_MOST_COST.choose_spec)))
  (d_last d_never)
  d_nil)))))))
  (d_shut (d_cons (d_setF 0 T.c_Map T.a_Map_many (d_var 1))
  (d_cons (d_setF 0 T.c_Map T.a_Map_root (d_var 2))
  (d_last (d_setF 0 T.c_Map T.a_Map_rows (d_list T.n_list (d_var 3)))))))))))))))
theorem sc_cost_of : FnScope ["chart", "roads", "road"] ["chart", "roads"] (defScope s_cost_of) := ⟨rfl, rfl, rfl, by decide +kernel, rfl, by decide +kernel, by decide +kernel⟩
theorem ok_cost_of (T : Tx K mg A B) : FnOk P w K mg base (L2.CX P w) 1 B.f_cost_of B.d_cost_of ["chart", "roads"] (spD K 2 (run_cost_of A)) := fn_shut (fn_D (N := ["chart", "roads", "road"]) (ps := ["chart", "roads"]) T.F_cost_of sc_cost_of fun cdv Ar outer s H E hr => 
  (d_last (d_ret (d_sum rfl T.n_sum (d_lc (own := [("road", 2)]) rfl sc_cost_of.nd (d_var 1) (blkOk_by (own := [("road", 2)]) (N := ["chart", "roads", "road"]) (sc := (defScope s_cost_of)) (by decide +kernel)) (by decide) (fun _ _ _ _ _ => (d_gname 2 sc_cost_of.nd)) (fun _ _ _ _ _ => d_tests_nil) (fun _ _ _ _ _ => (d_ix (hu1 hr) (d_ix (hu1 hr) (d_fld T.c_Map T.a_Map_rows (d_var 0)) (d_var 2)) d_int)))))))
theorem sc_Map_begin : FnScope ["self"] ["self"] (defScope s_Map_begin) := ⟨rfl, rfl, rfl, by decide +kernel, rfl, by decide +kernel, by decide +kernel⟩
theorem ok_Map_begin (T : Tx K mg A B) : FnOk P w K mg base (L2.CX P w) 1 B.f_Map_begin B.d_Map_begin ["self"] (spD K 1 (run_Map_begin A)) := fn_shut (fn_D (N := ["self"]) (ps := ["self"]) T.F_Map_begin sc_Map_begin fun cdv Ar outer s H E hr => 
  (d_last (d_ret (d_fld T.c_Map T.a_Map_root (d_var 0)))))
theorem sc_Map_size : FnScope ["self"] ["self"] (defScope s_Map_size) := ⟨rfl, rfl, rfl, by decide +kernel, rfl, by decide +kernel, by decide +kernel⟩
theorem ok_Map_size (T : Tx K mg A B) : FnOk P w K mg base (L2.CX P w) 1 B.f_Map_size B.d_Map_size ["self"] (spD K 1 (run_Map_size A)) := fn_shut (fn_D (N := ["self"]) (ps := ["self"]) T.F_Map_size sc_Map_size fun cdv Ar outer s H E hr => 
  (d_last (d_ret (d_fld T.c_Map T.a_Map_many (d_var 0)))))
theorem sc_come_to : FnScope ["many", "root", "rows", "found", "waiting", "here", "row"] ["many", "root", "rows"] (defScope s_come_to) := ⟨rfl, rfl, rfl, by decide +kernel, rfl, by decide +kernel, by decide +kernel⟩
theorem ok_come_to (T : Tx K mg A B) : FnOk P w K mg base (L2.CX P w) 1 B.f_come_to B.d_come_to ["many", "root", "rows"] (spD K 3 (run_come_to A)) := fn_shut (fn_D (N := ["many", "root", "rows", "found", "waiting", "here", "row"]) (ps := ["many", "root", "rows"]) T.F_come_to sc_come_to fun cdv Ar outer s H E hr => 
  (d_cons (d_set 3 (d_lst (d_acons (d_var 1) d_anil)) sc_come_to.nd)
  (d_cons (d_set 4 (d_lst (d_acons (d_var 1) d_anil)) sc_come_to.nd)
  (d_cons (d_while (passes_of rfl) (d_cmpT (op_neD (hu64 hr)) ok_ne (d_var 4) (d_lst d_anil))
  (d_shut (d_cons (d_set 5 (d_lm0 4 PySem.F.slot_list_pop PySem.F.type_list_pop mt_popA ok_pop) sc_come_to.nd)
  (d_last (d_for (passes_of rfl) rfl (d_var 2) (d_gname 6 sc_come_to.nd)
  (d_shut (d_last (d_ifS (d_pw (d_and (d_cmpT (op_eqD (hu64 hr)) ok_eq (d_ix (hu1 hr) (d_var 6) d_int) (d_var 5)) (d_and1 (d_cmpT (op_notInA (hu65 hr)) (ok_in true) (d_ix (hu1 hr) (d_var 6) d_int) (d_var 3)))))
  (d_cons (d_expr (d_lm 3 PySem.F.slot_list_append PySem.F.type_list_append mt_append ok_append (d_acons (d_ix (hu1 hr) (d_var 6) d_int) d_anil)))
  (d_last (d_expr (d_lm 4 PySem.F.slot_list_append PySem.F.type_list_append mt_append ok_append (d_acons (d_ix (hu1 hr) (d_var 6) d_int) d_anil)))))
  d_nil))))))))
  (d_shut (d_last (d_ret (d_sorted (hu64 hr) T.n_sorted (d_var 3)))))))))
theorem sc_is_tree : FnScope ["chart", "roads", "rows", "road"] ["chart", "roads"] (defScope s_is_tree) := ⟨rfl, rfl, rfl, by decide +kernel, rfl, by decide +kernel, by decide +kernel⟩
theorem ok_is_tree (T : Tx K mg A B) : FnOk P w K mg base (L2.CX P w) 2 B.f_is_tree B.d_is_tree ["chart", "roads"] (spD K 2 (run_is_tree A)) := fn_shut (fn_D (N := ["chart", "roads", "rows", "road"]) (ps := ["chart", "roads"]) T.F_is_tree sc_is_tree fun cdv Ar outer s H E hr => 
  (d_cons (d_ifS (d_pw (d_or (d_cmpT (op_neD (hu64 hr)) ok_ne (d_lenSet rfl T.n_len T.n_set (d_var 1)) (d_len T.n_len (d_var 1))) (d_or1 (d_cmpT (op_neD (hu64 hr)) ok_ne (d_len T.n_len (d_var 1)) (d_sub (d_meth0 (ps := ["self"]) T.c_Map T.t_Map_size (ok_Map_size T) (hr.mono (by decide)) T.b_Map_size (takes_of rfl rfl rfl rfl) (d_var 0)) d_int)))))
  (d_last (d_ret d_bl))
  d_nil)
  (d_shut (d_cons (d_ifS (d_cmpT (op_neD (hu64 hr)) ok_ne (d_lc (own := [("road", 3)]) rfl sc_is_tree.nd (d_var 1) (blkOk_by (own := [("road", 3)]) (N := ["chart", "roads", "rows", "road"]) (sc := (defScope s_is_tree)) (by decide +kernel)) (by decide) (fun _ _ _ _ _ => (d_gname 3 sc_is_tree.nd)) (fun _ _ _ _ _ => (d_tests_one (d_not (d_chainT op_le (ok_cmp _) op_lt (ok_cmp _) d_int (d_var 3) (d_len T.n_len (d_fld T.c_Map T.a_Map_rows (d_var 0))))))) (fun _ _ _ _ _ => (d_var 3))) (d_lst d_anil))
  (d_last (d_ret d_bl))
  d_nil)
  (d_shut (d_cons (d_setLc (own := [("road", 3)]) (i := 2) rfl sc_is_tree.nd rfl rfl (sw_true rfl rfl rfl (by decide +kernel)) (d_var 1) (blkOk_by (own := [("road", 3)]) (N := ["chart", "roads", "rows", "road"]) (sc := (defScope s_is_tree)) (by decide +kernel)) (by decide) (fun _ _ _ _ _ => (d_gname 3 sc_is_tree.nd)) (fun _ _ _ _ _ => d_tests_nil) (fun _ _ _ _ _ => (d_ix (hu1 hr) (d_fld T.c_Map T.a_Map_rows (d_var 0)) (d_var 3))))
  (d_last (d_ret (d_cmp (op_eqD (hu64 hr)) ok_eq (d_len T.n_len (d_call (ps := ["many", "root", "rows"]) (ok_come_to T) (hr.mono (by decide)) T.g_come_to T.k_come_to T.b_come_to (takes_of rfl rfl rfl rfl) (d_acons (d_meth0 (ps := ["self"]) T.c_Map T.t_Map_size (ok_Map_size T) (hr.mono (by decide)) T.b_Map_size (takes_of rfl rfl rfl rfl) (d_var 0)) (d_acons (d_meth0 (ps := ["self"]) T.c_Map T.t_Map_begin (ok_Map_begin T) (hr.mono (by decide)) T.b_Map_begin (takes_of rfl rfl rfl rfl) (d_var 0)) (d_acons (d_var 2) d_anil))))) (d_meth0 (ps := ["self"]) T.c_Map T.t_Map_size (ok_Map_size T) (hr.mono (by decide)) T.b_Map_size (takes_of rfl rfl rfl rfl) (d_var 0)))))))))))
theorem sc_law_dice : FnScope ["_law_script", "_law_mixed", "_law_cell"] ["_law_script"] (defScope s_law_dice) := ⟨rfl, rfl, rfl, by decide +kernel, rfl, by decide +kernel, by decide +kernel⟩
theorem ok_law_dice (T : Tx K mg A B) : FnOk P w K mg base (L2.CX P w) 1 B.f_law_dice B.d_law_dice ["_law_script"] (spD K 1 (run_law_dice A)) := fn_shut (fn_D (N := ["_law_script", "_law_mixed", "_law_cell"]) (ps := ["_law_script"]) T.F_law_dice sc_law_dice fun cdv Ar outer s H E hr => 
  (d_cons (d_set 1 d_int sc_law_dice.nd)
  (d_cons (d_for (passes_of rfl) rfl (d_var 0) (d_gname 2 sc_law_dice.nd)
  (d_shut (d_last (d_set 1 (d_mod (d_add (d_add (d_mul (d_var 1) d_int) (d_mul (d_mod (d_var 2) d_int) d_int)) d_int) d_int) sc_law_dice.nd))))
  (d_shut (d_last (d_ret (d_lst (d_acons (d_var 0) (d_acons d_int (d_acons (d_mul (d_var 1) (d_int1 T.n_int (d_cmp op_gt (ok_cmp _) (d_len T.n_len (d_var 0)) d_int))) (d_acons d_int d_anil)))))))))))
theorem sc_law_like : FnScope ["_law_found", "_law_due", "_law_k"] ["_law_found", "_law_due"] (defScope s_law_like) := ⟨rfl, rfl, rfl, by decide +kernel, rfl, by decide +kernel, by decide +kernel⟩
theorem ok_law_like (T : Tx K mg A B) : ∀ n, FnOk P w K mg base (L2.CX P w) (n + 1) B.f_law_like B.d_law_like ["_law_found", "_law_due"] (spD K 2 (run_law_like A n))
  | 0 => fn_D (N := ["_law_found", "_law_due", "_law_k"]) (ps := ["_law_found", "_law_due"]) T.F_law_like sc_law_like fun cdv Ar outer s H E hr => ds_never
  | n + 1 => by
    have ih := ok_law_like T n
    show FnOk P w K mg base (L2.CX P w) (n + 1 + 1) B.f_law_like B.d_law_like ["_law_found", "_law_due"] (spD K 2 (dRun 2 1 (b_law_like A (run_law_like A n))))
    generalize run_law_like A n = G at ih ⊢
    exact cast_k (fn_D (k := n + 1) (N := ["_law_found", "_law_due", "_law_k"]) (ps := ["_law_found", "_law_due"]) T.F_law_like sc_law_like fun cdv Ar outer s H E hr => (d_cons (d_ifS (d_valT (d_isi isi_str PyProof.Rows.boot_str T.n_str T.n_isinstance (d_var 1)))
  (d_last (d_ret (d_andV (d_isi isi_str PyProof.Rows.boot_str T.n_str T.n_isinstance (d_var 0)) (d_one (d_cmp (op_eqD (hu64 hr)) ok_eq (d_var 0) (d_var 1))))))
  d_nil)
  (d_shut (d_cons (d_ifS (d_valT (d_isi isi_int PyProof.Rows.boot_int T.n_int T.n_isinstance (d_var 1)))
  (d_last (d_ret (d_andV (d_isi isi_int PyProof.Rows.boot_int T.n_int T.n_isinstance (d_var 0)) (d_andV (d_notV (d_isi isi_bool PyProof.Rows.boot_bool T.n_bool T.n_isinstance (d_var 0))) (d_one (d_cmp (op_eqD (hu64 hr)) ok_eq (d_var 0) (d_var 1)))))))
  d_nil)
  (d_shut (d_cons (d_ifS (d_cmpT op_isN ok_isN (d_var 1) d_non)
  (d_last (d_ret (d_cmp op_isN ok_isN (d_var 0) d_non)))
  d_nil)
  (d_shut (d_cons (d_ifS (d_pw (d_or (d_cmpT (op_neD (hu64 hr)) ok_ne (d_isi isi_tuple PyProof.Rows.boot_tuple T.n_tuple T.n_isinstance (d_var 1)) (d_isi isi_tuple PyProof.Rows.boot_tuple T.n_tuple T.n_isinstance (d_var 0))) (d_or1 (d_cmpT (op_neD (hu64 hr)) ok_ne (d_isi isi_list PyProof.Rows.boot_list T.n_list T.n_isinstance (d_var 1)) (d_isi isi_list PyProof.Rows.boot_list T.n_list T.n_isinstance (d_var 0))))))
  (d_last (d_ret d_bl))
  d_nil)
  (d_shut (d_cons (d_ifS (d_cmpT (op_neD (hu64 hr)) ok_ne (d_len T.n_len (d_var 0)) (d_len T.n_len (d_var 1)))
  (d_last (d_ret d_bl))
  d_nil)
  (d_shut (d_cons (d_forR1 (passes_of rfl) rfl T.n_range (d_acons (d_len T.n_len (d_var 1)) d_anil) (d_gname 2 sc_law_like.nd)
  (d_shut (d_last (d_ifS (d_not (d_valT (d_call (ps := ["_law_found", "_law_due"]) (ih) (hr.mono (by omega)) T.g_law_like T.k_law_like T.b_law_like (takes_of rfl rfl rfl rfl) (d_acons (d_ix (hu1 hr) (d_var 0) (d_var 2)) (d_acons (d_ix (hu1 hr) (d_var 1) (d_var 2)) d_anil)))))
  (d_last (d_ret d_bl))
  d_nil))))
  (d_shut (d_last (d_ret d_bl))))))))))))))) (by omega)
theorem sc_law_next : FnScope ["_law_dice_here", "_law_many", "_law_found", "_law_cell"] ["_law_dice_here", "_law_many"] (defScope s_law_next) := ⟨rfl, rfl, rfl, by decide +kernel, rfl, by decide +kernel, by decide +kernel⟩
theorem ok_law_next (T : Tx K mg A B) : FnOk P w K mg base (L2.CX P w) 1 B.f_law_next B.d_law_next ["_law_dice_here", "_law_many"] (spD K 2 (run_law_next A)) := fn_shut (fn_D (N := ["_law_dice_here", "_law_many", "_law_found", "_law_cell"]) (ps := ["_law_dice_here", "_law_many"]) T.F_law_next sc_law_next fun cdv Ar outer s H E hr => 
  (d_cons (d_ifS (d_cmpT op_gt (ok_cmp _) (d_ix (hu1 hr) (d_var 0) d_int) d_int)
  (d_cons (d_set 2 (d_mod (d_ix (hu1 hr) (d_var 0) d_int) (d_var 1)) sc_law_next.nd)
  (d_cons (d_setIx 0 d_int (d_div (d_ix (hu1 hr) (d_var 0) d_int) (d_var 1)))
  (d_last (d_ret (d_var 2)))))
  d_nil)
  (d_shut (d_cons (d_setIx 0 d_int (d_add (d_ix (hu1 hr) (d_var 0) d_int) d_int))
  (d_cons (d_ifS (d_cmpT op_le (ok_cmp _) (d_ix (hu1 hr) (d_var 0) d_int) (d_len T.n_len (d_ix (hu1 hr) (d_var 0) d_int)))
  (d_cons (d_set 3 (d_ix (hu1 hr) (d_ix (hu1 hr) (d_var 0) d_int) (d_sub (d_ix (hu1 hr) (d_var 0) d_int) d_int)) sc_law_next.nd)
  (d_cons (d_setIx 0 d_int (d_if (d_cmpT op_ge (ok_cmp _) (d_var 3) (d_pow d_int d_int)) (d_div (d_var 3) (d_var 1)) d_int))
  (d_last (d_ret (d_mod (d_var 3) (d_var 1))))))
  d_nil)
  (d_shut (d_cons (d_setIx 0 d_int (d_mod (d_mul (d_ix (hu1 hr) (d_var 0) d_int) d_int) d_int))
  (d_last (d_ret (d_mod (d_div (d_ix (hu1 hr) (d_var 0) d_int) d_int) (d_var 1)))))))))))
theorem sc_law_cost : FnScope ["_law_d", "_law_way"] ["_law_d"] (defScope s_law_cost) := ⟨rfl, rfl, rfl, by decide +kernel, rfl, by decide +kernel, by decide +kernel⟩
theorem ok_law_cost (T : Tx K mg A B) : FnOk P w K mg base (L2.CX P w) 2 B.f_law_cost B.d_law_cost ["_law_d"] (spD K 1 (run_law_cost A)) := fn_shut (fn_D (N := ["_law_d", "_law_way"]) (ps := ["_law_d"]) T.F_law_cost sc_law_cost fun cdv Ar outer s H E hr => 
  (d_cons (d_set 1 (d_callR 0 (ps := ["_law_dice_here", "_law_many"]) (ok_law_next T) (hr.mono (by decide)) T.g_law_next T.k_law_next T.b_law_next (takes_of rfl rfl rfl rfl) (d_acons d_int d_anil)) sc_law_cost.nd)
  (d_cons (d_ifS (d_cmpT op_lt (ok_cmp _) (d_var 1) d_int)
  (d_last (d_ret (d_callR 0 (ps := ["_law_dice_here", "_law_many"]) (ok_law_next T) (hr.mono (by decide)) T.g_law_next T.k_law_next T.b_law_next (takes_of rfl rfl rfl rfl) (d_acons (d_add d_int (d_mul d_int (d_var 1))) d_anil))))
  d_nil)
  (d_shut (d_last (d_ret (d_callR 0 (ps := ["_law_dice_here", "_law_many"]) (ok_law_next T) (hr.mono (by decide)) T.g_law_next T.k_law_next T.b_law_next (takes_of rfl rfl rfl rfl) (d_acons (d_ix (hu1 hr) (d_lst (d_acons d_int (d_acons (d_add (d_pow d_int d_int) d_int) d_anil))) (d_sub (d_var 1) d_int)) d_anil))))))))
theorem sc_law_map : FnScope ["_law_d", "_law_places", "_law_roads", "_law_many", "_law_root", "_law_rows", "_law_k", "_law_begin", "_law_goal"] ["_law_d", "_law_places", "_law_roads"] (defScope s_law_map) := ⟨rfl, rfl, rfl, by decide +kernel, rfl, by decide +kernel, by decide +kernel⟩
theorem ok_law_map (T : Tx K mg A B) : FnOk P w K mg base (L2.CX P w) 3 B.f_law_map B.d_law_map ["_law_d", "_law_places", "_law_roads"] (spD K 3 (run_law_map A)) := fn_shut (fn_D (N := ["_law_d", "_law_places", "_law_roads", "_law_many", "_law_root", "_law_rows", "_law_k", "_law_begin", "_law_goal"]) (ps := ["_law_d", "_law_places", "_law_roads"]) T.F_law_map sc_law_map fun cdv Ar outer s H E hr => 
  (d_cons (d_set 3 (d_add d_int (d_callR 0 (ps := ["_law_dice_here", "_law_many"]) (ok_law_next T) (hr.mono (by decide)) T.g_law_next T.k_law_next T.b_law_next (takes_of rfl rfl rfl rfl) (d_acons (d_var 1) d_anil))) sc_law_map.nd)
  (d_cons (d_set 4 (d_callR 0 (ps := ["_law_dice_here", "_law_many"]) (ok_law_next T) (hr.mono (by decide)) T.g_law_next T.k_law_next T.b_law_next (takes_of rfl rfl rfl rfl) (d_acons (d_var 3) d_anil)) sc_law_map.nd)
  (d_cons (d_set 5 (d_lst d_anil) sc_law_map.nd)
  (d_cons (d_ifS (d_cmpT op_gt (ok_cmp _) (d_var 3) d_int)
  (d_last (d_forR1 (passes_of rfl) rfl T.n_range (d_acons (d_callR 0 (ps := ["_law_dice_here", "_law_many"]) (ok_law_next T) (hr.mono (by decide)) T.g_law_next T.k_law_next T.b_law_next (takes_of rfl rfl rfl rfl) (d_acons (d_add (d_var 2) d_int) d_anil)) d_anil) (d_gname 6 sc_law_map.nd)
  (d_shut (d_cons (d_set 7 (d_callR 0 (ps := ["_law_dice_here", "_law_many"]) (ok_law_next T) (hr.mono (by decide)) T.g_law_next T.k_law_next T.b_law_next (takes_of rfl rfl rfl rfl) (d_acons (d_var 3) d_anil)) sc_law_map.nd)
  (d_cons (d_set 8 (d_mod (d_add (d_add (d_var 7) d_int) (d_callR 0 (ps := ["_law_dice_here", "_law_many"]) (ok_law_next T) (hr.mono (by decide)) T.g_law_next T.k_law_next T.b_law_next (takes_of rfl rfl rfl rfl) (d_acons (d_sub (d_var 3) d_int) d_anil))) (d_var 3)) sc_law_map.nd)
  (d_cons (d_ifS (d_pw (d_and (d_cmpT op_gt (ok_cmp _) (d_callR 0 (ps := ["_law_dice_here", "_law_many"]) (ok_law_next T) (hr.mono (by decide)) T.g_law_next T.k_law_next T.b_law_next (takes_of rfl rfl rfl rfl) (d_acons d_int d_anil)) d_int) (d_and1 (d_cmpT op_lt (ok_cmp _) (d_var 6) (d_var 3)))))
  (d_cons (d_set 8 (d_mod (d_add (d_add (d_var 4) d_int) (d_var 6)) (d_var 3)) sc_law_map.nd)
  (d_last (d_set 7 (d_mod (d_add (d_var 4) (d_callR 0 (ps := ["_law_dice_here", "_law_many"]) (ok_law_next T) (hr.mono (by decide)) T.g_law_next T.k_law_next T.b_law_next (takes_of rfl rfl rfl rfl) (d_acons (d_add (d_var 6) d_int) d_anil))) (d_var 3)) sc_law_map.nd)))
  d_nil)
  (d_shut (d_last (d_ifS (d_cmpT (op_neD (hu64 hr)) ok_ne (d_var 7) (d_var 8))
  (d_last (d_expr (d_lm 5 PySem.F.slot_list_append PySem.F.type_list_append mt_append ok_append (d_acons (d_tup (d_acons (d_var 7) (d_acons (d_var 8) (d_acons (d_callR 0 (ps := ["_law_d"]) (ok_law_cost T) (hr.mono (by decide)) T.g_law_cost T.k_law_cost T.b_law_cost (takes_of rfl rfl rfl rfl) d_anil) d_anil)))) d_anil))))
  d_nil)))))))))
  d_nil)
  (d_shut (d_last (d_ret (d_tup (d_acons (d_var 3) (d_acons (d_var 4) (d_acons (d_var 5) d_anil))))))))))))
theorem sc_law_leads : FnScope ["_law_many", "_law_root", "_law_rows", "_law_found", "_law_at", "_law_begin", "_law_goal", "_law_cost_here"] ["_law_many", "_law_root", "_law_rows"] (defScope s_law_leads) := ⟨rfl, rfl, rfl, by decide +kernel, rfl, by decide +kernel, by decide +kernel⟩
theorem ok_law_leads (T : Tx K mg A B) : FnOk P w K mg base (L2.CX P w) 1 B.f_law_leads B.d_law_leads ["_law_many", "_law_root", "_law_rows"] (spD K 3 (run_law_leads A)) := fn_shut (fn_D (N := ["_law_many", "_law_root", "_law_rows", "_law_found", "_law_at", "_law_begin", "_law_goal", "_law_cost_here"]) (ps := ["_law_many", "_law_root", "_law_rows"]) T.F_law_leads sc_law_leads fun cdv Ar outer s H E hr => 
  (d_cons (d_set 3 (d_lst (d_acons (d_var 1) d_anil)) sc_law_leads.nd)
  (d_cons (d_set 4 d_int sc_law_leads.nd)
  (d_cons (d_while (passes_of rfl) (d_cmpT op_lt (ok_cmp _) (d_var 4) (d_len T.n_len (d_var 3)))
  (d_shut (d_cons (d_for (passes_of rfl) rfl (d_var 2) (d_gtup [5, 6, 7] rfl (pgs_cons (pg_name (i := 5) sc_law_leads.nd rfl (by first | exact Or.inl rfl | exact Or.inr rfl)) (pgs_cons (pg_name (i := 6) sc_law_leads.nd rfl (by first | exact Or.inl rfl | exact Or.inr rfl)) (pgs_cons (pg_name (i := 7) sc_law_leads.nd rfl (by first | exact Or.inl rfl | exact Or.inr rfl)) pgs_nil))))
  (d_shut (d_last (d_ifS (d_pw (d_and (d_cmpT (op_eqD (hu64 hr)) ok_eq (d_var 5) (d_ix (hu1 hr) (d_var 3) (d_var 4))) (d_and1 (d_cmpT (op_notInA (hu65 hr)) (ok_in true) (d_var 6) (d_var 3)))))
  (d_last (d_expr (d_lm 3 PySem.F.slot_list_append PySem.F.type_list_append mt_append ok_append (d_acons (d_var 6) d_anil))))
  d_nil))))
  (d_shut (d_last (d_set 4 (d_add (d_var 4) d_int) sc_law_leads.nd))))))
  (d_shut (d_last (d_ret (d_var 3))))))))
theorem sc_law_trees : FnScope ["_law_chart", "_law_many", "_law_root", "_law_rows", "_law_some", "_law_place", "_law_into", "_law_longer", "_law_row", "_law_found", "_law_road"] ["_law_chart"] (defScope s_law_trees) := ⟨rfl, rfl, rfl, by decide +kernel, rfl, by decide +kernel, by decide +kernel⟩
theorem ok_law_trees (T : Tx K mg A B) : FnOk P w K mg base (L2.CX P w) 2 B.f_law_trees B.d_law_trees ["_law_chart"] (spD K 1 (run_law_trees A)) := fn_shut (fn_D (N := ["_law_chart", "_law_many", "_law_root", "_law_rows", "_law_some", "_law_place", "_law_into", "_law_longer", "_law_row", "_law_found", "_law_road"]) (ps := ["_law_chart"]) T.F_law_trees sc_law_trees fun cdv Ar outer s H E hr => 
  (d_cons (d_asg (d_var 0) (d_gtup [1, 2, 3] rfl (pgs_cons (pg_name (i := 1) sc_law_trees.nd rfl (by first | exact Or.inl rfl | exact Or.inr rfl)) (pgs_cons (pg_name (i := 2) sc_law_trees.nd rfl (by first | exact Or.inl rfl | exact Or.inr rfl)) (pgs_cons (pg_name (i := 3) sc_law_trees.nd rfl (by first | exact Or.inl rfl | exact Or.inr rfl)) pgs_nil)))))
  (d_cons (d_set 4 (d_lst (d_acons (d_lst d_anil) d_anil)) sc_law_trees.nd)
  (d_cons (d_forR1 (passes_of rfl) rfl T.n_range (d_acons (d_var 1) d_anil) (d_gname 5 sc_law_trees.nd)
  (d_shut (d_last (d_ifS (d_cmpT (op_neD (hu64 hr)) ok_ne (d_var 5) (d_var 2))
  (d_cons (d_setLcR1 (own := [("_law_road", 10)]) (i := 6) rfl sc_law_trees.nd rfl rfl (sw_true rfl rfl rfl (by decide +kernel)) T.n_range (d_acons (d_len T.n_len (d_var 3)) d_anil) (blkOk_by (own := [("_law_road", 10)]) (N := ["_law_chart", "_law_many", "_law_root", "_law_rows", "_law_some", "_law_place", "_law_into", "_law_longer", "_law_row", "_law_found", "_law_road"]) (sc := (defScope s_law_trees)) (by decide +kernel)) (by decide) (fun _ _ _ _ _ => (d_gname 10 sc_law_trees.nd)) (fun _ _ _ _ _ => (d_tests_one (d_cmpT (op_eqD (hu64 hr)) ok_eq (d_ix (hu1 hr) (d_ix (hu1 hr) (d_var 3) (d_var 10)) d_int) (d_var 5)))) (fun _ _ _ _ _ => (d_var 10)))
  (d_cons (d_set 7 (d_lst d_anil) sc_law_trees.nd)
  (d_cons (d_for (passes_of rfl) rfl (d_var 4) (d_gname 8 sc_law_trees.nd)
  (d_shut (d_last (d_set 7 (d_add (d_var 7) (d_lc (own := [("_law_road", 10)]) rfl sc_law_trees.nd (d_var 6) (blkOk_by (own := [("_law_road", 10)]) (N := ["_law_chart", "_law_many", "_law_root", "_law_rows", "_law_some", "_law_place", "_law_into", "_law_longer", "_law_row", "_law_found", "_law_road"]) (sc := (defScope s_law_trees)) (by decide +kernel)) (by decide) (fun _ _ _ _ _ => (d_gname 10 sc_law_trees.nd)) (fun _ _ _ _ _ => d_tests_nil) (fun _ _ _ _ _ => (d_add (d_var 8) (d_lst (d_acons (d_var 10) d_anil)))))) sc_law_trees.nd))))
  (d_shut (d_last (d_set 4 (d_var 7) sc_law_trees.nd))))))
  d_nil))))
  (d_shut (d_cons (d_set 9 (d_lst d_anil) sc_law_trees.nd)
  (d_cons (d_for (passes_of rfl) rfl (d_var 4) (d_gname 8 sc_law_trees.nd)
  (d_shut (d_last (d_ifS (d_cmpT (op_eqD (hu64 hr)) ok_eq (d_len T.n_len (d_call (ps := ["_law_many", "_law_root", "_law_rows"]) (ok_law_leads T) (hr.mono (by decide)) T.g_law_leads T.k_law_leads T.b_law_leads (takes_of rfl rfl rfl rfl) (d_acons (d_var 1) (d_acons (d_var 2) (d_acons (d_lc (own := [("_law_road", 10)]) rfl sc_law_trees.nd (d_var 8) (blkOk_by (own := [("_law_road", 10)]) (N := ["_law_chart", "_law_many", "_law_root", "_law_rows", "_law_some", "_law_place", "_law_into", "_law_longer", "_law_row", "_law_found", "_law_road"]) (sc := (defScope s_law_trees)) (by decide +kernel)) (by decide) (fun _ _ _ _ _ => (d_gname 10 sc_law_trees.nd)) (fun _ _ _ _ _ => d_tests_nil) (fun _ _ _ _ _ => (d_ix (hu1 hr) (d_var 3) (d_var 10)))) d_anil))))) (d_var 1))
  (d_last (d_expr (d_lm 9 PySem.F.slot_list_append PySem.F.type_list_append mt_append ok_append (d_acons (d_tup (d_acons (d_sum rfl T.n_sum (d_lc (own := [("_law_road", 10)]) rfl sc_law_trees.nd (d_var 8) (blkOk_by (own := [("_law_road", 10)]) (N := ["_law_chart", "_law_many", "_law_root", "_law_rows", "_law_some", "_law_place", "_law_into", "_law_longer", "_law_row", "_law_found", "_law_road"]) (sc := (defScope s_law_trees)) (by decide +kernel)) (by decide) (fun _ _ _ _ _ => (d_gname 10 sc_law_trees.nd)) (fun _ _ _ _ _ => d_tests_nil) (fun _ _ _ _ _ => (d_ix (hu1 hr) (d_ix (hu1 hr) (d_var 3) (d_var 10)) d_int)))) (d_acons (d_sorted (hu64 hr) T.n_sorted (d_var 8)) d_anil))) d_anil))))
  d_nil))))
  (d_shut (d_last (d_ret (d_sorted (hu64 hr) T.n_sorted (d_var 9))))))))))))
theorem sc_law : FnScope ["_law_script", "_law_d", "_law_chart", "_law_many", "_law_root", "_law_rows", "_law_trees_here", "_law_roads", "_law_handed", "_law_found", "_law_due", "_law_some", "_law_k", "_law_road", "_law_cost_here", "_law_tree"] ["_law_script"] (defScope s_law) := ⟨rfl, rfl, rfl, by decide +kernel, rfl, by decide +kernel, by decide +kernel⟩
theorem ok_law (T : Tx K mg A B) : FnOk P w K mg base (L2.CX P w) 5 B.f_law B.d_law ["_law_script"] (spD K 1 (run_law A)) := fn_shut (fn_D (N := ["_law_script", "_law_d", "_law_chart", "_law_many", "_law_root", "_law_rows", "_law_trees_here", "_law_roads", "_law_handed", "_law_found", "_law_due", "_law_some", "_law_k", "_law_road", "_law_cost_here", "_law_tree"]) (ps := ["_law_script"]) T.F_law sc_law fun cdv Ar outer s H E hr => 
  (d_cons (d_set 1 (d_call (ps := ["_law_script"]) (ok_law_dice T) (hr.mono (by decide)) T.g_law_dice T.k_law_dice T.b_law_dice (takes_of rfl rfl rfl rfl) (d_acons (d_var 0) d_anil)) sc_law.nd)
  (d_shut (d_cons (d_set 2 (d_callR 1 (ps := ["_law_d", "_law_places", "_law_roads"]) (ok_law_map T) (hr.mono (by decide)) T.g_law_map T.k_law_map T.b_law_map (takes_of rfl rfl rfl rfl) (d_acons d_int (d_acons d_int d_anil))) sc_law.nd)
  (d_shut (d_cons (d_asg (d_var 2) (d_gtup [3, 4, 5] rfl (pgs_cons (pg_name (i := 3) sc_law.nd rfl (by first | exact Or.inl rfl | exact Or.inr rfl)) (pgs_cons (pg_name (i := 4) sc_law.nd rfl (by first | exact Or.inl rfl | exact Or.inr rfl)) (pgs_cons (pg_name (i := 5) sc_law.nd rfl (by first | exact Or.inl rfl | exact Or.inr rfl)) pgs_nil)))))
  (d_cons (d_set 6 (d_call (ps := ["_law_chart"]) (ok_law_trees T) (hr.mono (by decide)) T.g_law_trees T.k_law_trees T.b_law_trees (takes_of rfl rfl rfl rfl) (d_acons (d_var 2) d_anil)) sc_law.nd)
  (d_shut (d_cons (d_setLcR1 (own := [("_law_k", 12)]) (i := 7) rfl sc_law.nd rfl rfl (sw_true rfl rfl rfl (by decide +kernel)) T.n_range (d_acons (d_callR 1 (ps := ["_law_dice_here", "_law_many"]) (ok_law_next T) (hr.mono (by decide)) T.g_law_next T.k_law_next T.b_law_next (takes_of rfl rfl rfl rfl) (d_acons (d_add (d_var 3) d_int) d_anil)) d_anil) (blkOk_by (own := [("_law_k", 12)]) (N := ["_law_script", "_law_d", "_law_chart", "_law_many", "_law_root", "_law_rows", "_law_trees_here", "_law_roads", "_law_handed", "_law_found", "_law_due", "_law_some", "_law_k", "_law_road", "_law_cost_here", "_law_tree"]) (sc := (defScope s_law)) (by decide +kernel)) (by decide) (fun _ _ _ _ _ => (d_gname 12 sc_law.nd)) (fun _ _ _ _ _ => d_tests_nil) (fun _ _ _ _ _ => (d_sub (d_callR 1 (ps := ["_law_dice_here", "_law_many"]) (ok_law_next T) (hr.mono (by decide)) T.g_law_next T.k_law_next T.b_law_next takes0 (d_acons (d_add (d_len T.n_len (d_var 5)) d_int) d_anil)) d_int)))
  (d_shut (d_cons (d_ifS (d_pw (d_and (d_cmpT (op_neD (hu64 hr)) ok_ne (d_var 6) (d_lst d_anil)) (d_and1 (d_cmpT op_gt (ok_cmp _) (d_callR 1 (ps := ["_law_dice_here", "_law_many"]) (ok_law_next T) (hr.mono (by decide)) T.g_law_next T.k_law_next T.b_law_next (takes_of rfl rfl rfl rfl) (d_acons d_int d_anil)) d_int))))
  (d_cons (d_set 7 (d_rev (d_ix (hu1 hr) (d_ix (hu1 hr) (d_var 6) (d_callR 1 (ps := ["_law_dice_here", "_law_many"]) (ok_law_next T) (hr.mono (by decide)) T.g_law_next T.k_law_next T.b_law_next (takes_of rfl rfl rfl rfl) (d_acons (d_len T.n_len (d_var 6)) d_anil))) d_int)) sc_law.nd)
  (d_shut (d_last (d_ifS (d_pw (d_and (d_cmpT (op_neD (hu64 hr)) ok_ne (d_var 7) (d_lst d_anil)) (d_and1 (d_cmpT (op_eqD (hu64 hr)) ok_eq (d_callR 1 (ps := ["_law_dice_here", "_law_many"]) (ok_law_next T) (hr.mono (by decide)) T.g_law_next T.k_law_next T.b_law_next (takes_of rfl rfl rfl rfl) (d_acons d_int d_anil)) d_int))))
  (d_last (d_setIx 7 (d_callR 1 (ps := ["_law_dice_here", "_law_many"]) (ok_law_next T) (hr.mono (by decide)) T.g_law_next T.k_law_next T.b_law_next (takes_of rfl rfl rfl rfl) (d_acons (d_len T.n_len (d_var 7)) d_anil)) (d_callR 1 (ps := ["_law_dice_here", "_law_many"]) (ok_law_next T) (hr.mono (by decide)) T.g_law_next T.k_law_next T.b_law_next (takes_of rfl rfl rfl rfl) (d_acons (d_len T.n_len (d_var 5)) d_anil))))
  d_nil))))
  d_nil)
  (d_shut (d_cons (d_set 8 (d_list T.n_list (d_var 7)) sc_law.nd)
  (d_cons (d_set 9 (d_call (ps := ["chart", "roads"]) (ok_is_tree T) (hr.mono (by decide)) T.g_is_tree T.k_is_tree T.b_is_tree (takes_of rfl rfl rfl rfl) (d_acons (d_make (ps := ["self", "many", "root", "roads"]) T.m_Map (ok_Map_init T) (hr.mono (by decide)) T.g_Map T.b_Map_init (takes_of rfl rfl rfl rfl) (d_acons (d_var 3) (d_acons (d_var 4) (d_acons (d_var 5) d_anil)))) (d_acons (d_var 8) d_anil))) sc_law.nd)
  (d_shut (d_cons (d_set 10 (d_cmp (op_inA (hu65 hr)) (ok_in false) (d_sorted (hu64 hr) T.n_sorted (d_var 7)) (d_lc (own := [("_law_cost_here", 14), ("_law_tree", 15)]) rfl sc_law.nd (d_var 6) (blkOk_by (own := [("_law_cost_here", 14), ("_law_tree", 15)]) (N := ["_law_script", "_law_d", "_law_chart", "_law_many", "_law_root", "_law_rows", "_law_trees_here", "_law_roads", "_law_handed", "_law_found", "_law_due", "_law_some", "_law_k", "_law_road", "_law_cost_here", "_law_tree"]) (sc := (defScope s_law)) (by decide +kernel)) (by decide) (fun _ _ _ _ _ => (d_gtup [14, 15] rfl (pgs_cons (pg_name (i := 14) sc_law.nd rfl (by first | exact Or.inl rfl | exact Or.inr rfl)) (pgs_cons (pg_name (i := 15) sc_law.nd rfl (by first | exact Or.inl rfl | exact Or.inr rfl)) pgs_nil)))) (fun _ _ _ _ _ => d_tests_nil) (fun _ _ _ _ _ => (d_var 15)))) sc_law.nd)
  (d_shut (d_cons (d_ifS (d_pw (d_or (d_not (d_valT (d_isi isi_bool PyProof.Rows.boot_bool T.n_bool T.n_isinstance (d_var 9)))) (d_or (d_cmpT (op_neD (hu64 hr)) ok_ne (d_var 9) (d_var 10)) (d_or1 (d_cmpT (op_neD (hu64 hr)) ok_ne (d_var 8) (d_var 7))))))
  (d_last (d_ret d_bl))
  d_nil)
  (d_shut (d_cons (d_setLc (own := [("_law_road", 13)]) (i := 11) rfl sc_law.nd rfl rfl (sw_true rfl rfl rfl (by decide +kernel)) (d_var 7) (blkOk_by (own := [("_law_road", 13)]) (N := ["_law_script", "_law_d", "_law_chart", "_law_many", "_law_root", "_law_rows", "_law_trees_here", "_law_roads", "_law_handed", "_law_found", "_law_due", "_law_some", "_law_k", "_law_road", "_law_cost_here", "_law_tree"]) (sc := (defScope s_law)) (by decide +kernel)) (by decide) (fun _ _ _ _ _ => (d_gname 13 sc_law.nd)) (fun _ _ _ _ _ => (d_tests_one (d_chainT op_le (ok_cmp _) op_lt (ok_cmp _) d_int (d_var 13) (d_len T.n_len (d_var 5))))) (fun _ _ _ _ _ => (d_var 13)))
  (d_shut (d_last (d_ret (d_call (ps := ["_law_found", "_law_due"]) (fn_shut (ok_law_like T 3)) (hr.mono (by decide)) T.g_law_like T.k_law_like T.b_law_like (takes_of rfl rfl rfl rfl) (d_acons (d_call (ps := ["chart", "roads"]) (ok_cost_of T) (hr.mono (by decide)) T.g_cost_of T.k_cost_of T.b_cost_of (takes_of rfl rfl rfl rfl) (d_acons (d_make (ps := ["self", "many", "root", "roads"]) T.m_Map (ok_Map_init T) (hr.mono (by decide)) T.g_Map T.b_Map_init (takes_of rfl rfl rfl rfl) (d_acons (d_var 3) (d_acons (d_var 4) (d_acons (d_var 5) d_anil)))) (d_acons (d_var 11) d_anil))) (d_acons (d_sum rfl T.n_sum (d_lc (own := [("_law_road", 13)]) rfl sc_law.nd (d_var 11) (blkOk_by (own := [("_law_road", 13)]) (N := ["_law_script", "_law_d", "_law_chart", "_law_many", "_law_root", "_law_rows", "_law_trees_here", "_law_roads", "_law_handed", "_law_found", "_law_due", "_law_some", "_law_k", "_law_road", "_law_cost_here", "_law_tree"]) (sc := (defScope s_law)) (by decide +kernel)) (by decide) (fun _ _ _ _ _ => (d_gname 13 sc_law.nd)) (fun _ _ _ _ _ => d_tests_nil) (fun _ _ _ _ _ => (d_ix (hu1 hr) (d_ix (hu1 hr) (d_var 5) (d_var 13)) d_int)))) d_anil))))))))))))))))))))))))))
end
theorem all_mk {l : PySem.W.OpenLaw} {w : World} {K : PySem.W.Frag} {h : Heap} {mg : Str → Option Value} {fa a_Map f_Map_init f_cost_of f_Map_begin f_Map_size f_come_to f_is_tree f_law_dice f_law_like f_law_next f_law_cost f_law_map f_law_leads f_law_trees f_law : Addr} (X : K.In h) (G : h.Ns mainGlobals mg) (hfa : mg "law" = some (.ref fa))
    {od_Map_init an_Map_init od_cost_of an_cost_of od_Map_begin an_Map_begin od_Map_size an_Map_size od_come_to an_come_to od_is_tree an_is_tree od_law_dice an_law_dice od_law_like an_law_like od_law_next an_law_next od_law_cost an_law_cost od_law_map an_law_map od_law_leads an_law_leads od_law_trees an_law_trees od_law an_law : Option Addr} {sl_Map_init sl_cost_of sl_Map_begin sl_Map_size sl_come_to sl_is_tree sl_law_dice sl_law_like sl_law_next sl_law_cost sl_law_map sl_law_leads sl_law_trees sl_law : Array (Option Value)} {oc_Map_init kV_Map_init dc_Map_init pm_Map_init cd_Map_init ct_Map_init oc_cost_of kV_cost_of dc_cost_of pm_cost_of cd_cost_of ct_cost_of oc_Map_begin kV_Map_begin dc_Map_begin pm_Map_begin cd_Map_begin ct_Map_begin oc_Map_size kV_Map_size dc_Map_size pm_Map_size cd_Map_size ct_Map_size oc_come_to kV_come_to dc_come_to pm_come_to cd_come_to ct_come_to oc_is_tree kV_is_tree dc_is_tree pm_is_tree cd_is_tree ct_is_tree oc_law_dice kV_law_dice dc_law_dice pm_law_dice cd_law_dice ct_law_dice oc_law_like kV_law_like dc_law_like pm_law_like cd_law_like ct_law_like oc_law_next kV_law_next dc_law_next pm_law_next cd_law_next ct_law_next oc_law_cost kV_law_cost dc_law_cost pm_law_cost cd_law_cost ct_law_cost oc_law_map kV_law_map dc_law_map pm_law_map cd_law_map ct_law_map oc_law_leads kV_law_leads dc_law_leads pm_law_leads cd_law_leads ct_law_leads oc_law_trees kV_law_trees dc_law_trees pm_law_trees cd_law_trees ct_law_trees oc_law kV_law dc_law pm_law cd_law ct_law : Value} {t_MOST_COST t_MOST_PLACES t_MOST_ROADS : Tok}
    (z_bool : PySem.W.nsIn K mainGlobals "bool" = some none)
    (z_int : PySem.W.nsIn K mainGlobals "int" = some none)
    (z_isinstance : PySem.W.nsIn K mainGlobals "isinstance" = some none)
    (z_len : PySem.W.nsIn K mainGlobals "len" = some none)
    (z_list : PySem.W.nsIn K mainGlobals "list" = some none)
    (z_range : PySem.W.nsIn K mainGlobals "range" = some none)
    (z_set : PySem.W.nsIn K mainGlobals "set" = some none)
    (z_sorted : PySem.W.nsIn K mainGlobals "sorted" = some none)
    (z_str : PySem.W.nsIn K mainGlobals "str" = some none)
    (z_sum : PySem.W.nsIn K mainGlobals "sum" = some none)
    (z_tuple : PySem.W.nsIn K mainGlobals "tuple" = some none)
    (g_MOST_COST : PySem.W.nsIn K mainGlobals "MOST_COST" = some (some (.int 1000000000 t_MOST_COST)))
    (g_MOST_PLACES : PySem.W.nsIn K mainGlobals "MOST_PLACES" = some (some (.int 20 t_MOST_PLACES)))
    (g_MOST_ROADS : PySem.W.nsIn K mainGlobals "MOST_ROADS" = some (some (.int 60 t_MOST_ROADS)))
    (pg_Map : PySem.W.plainGet K a_Map Str.empty = true)
    (hd_Map : PySem.W.hasDictIn K a_Map = true)
    (po_Map : PySem.W.plainOver K a_Map = true)
    (sa_Map : PySem.W.findIn K (.ref a_Map) "__setattr__" = some (some (.builtin "object.__setattr__")))
    (a_Map_many : PySem.W.findIn K (.ref a_Map) "many" = some none)
    (a_Map_root : PySem.W.findIn K (.ref a_Map) "root" = some none)
    (a_Map_rows : PySem.W.findIn K (.ref a_Map) "rows" = some none)
    (g_Map : PySem.W.nsIn K mainGlobals "Map" = some (some (.ref a_Map)))
    (l_Map_init : K.lookup f_Map_init = some ⟨oc_Map_init, od_Map_init, .func (PySem.W.fnOf "__init__" "Map.__init__" (defArgs s_Map_init) (defBody s_Map_init) (defScope s_Map_init) .none kV_Map_init dc_Map_init pm_Map_init an_Map_init cd_Map_init ct_Map_init), sl_Map_init⟩)
    (c_Map_init : PySem.W.codeIn K cd_Map_init "Map.__init__" = true)
    (k_Map_init : PySem.W.keepIn K (.ref f_Map_init) = true)
    (at_Map_init : PySem.W.findIn K (.ref a_Map) "__init__" = some (some (.ref f_Map_init)))
    (i_Map_init : PySem.W.isFn K (.ref f_Map_init) = true)
    (mk_Map : PySem.W.makesIn K a_Map = true)
    (kc_Map : PySem.W.keepIn K (.ref a_Map) = true)
    (l_cost_of : K.lookup f_cost_of = some ⟨oc_cost_of, od_cost_of, .func (PySem.W.fnOf "cost_of" "cost_of" (defArgs s_cost_of) (defBody s_cost_of) (defScope s_cost_of) .none kV_cost_of dc_cost_of pm_cost_of an_cost_of cd_cost_of ct_cost_of), sl_cost_of⟩)
    (c_cost_of : PySem.W.codeIn K cd_cost_of "cost_of" = true)
    (k_cost_of : PySem.W.keepIn K (.ref f_cost_of) = true)
    (g_cost_of : PySem.W.nsIn K mainGlobals "cost_of" = some (some (.ref f_cost_of)))
    (l_Map_begin : K.lookup f_Map_begin = some ⟨oc_Map_begin, od_Map_begin, .func (PySem.W.fnOf "begin" "Map.begin" (defArgs s_Map_begin) (defBody s_Map_begin) (defScope s_Map_begin) .none kV_Map_begin dc_Map_begin pm_Map_begin an_Map_begin cd_Map_begin ct_Map_begin), sl_Map_begin⟩)
    (c_Map_begin : PySem.W.codeIn K cd_Map_begin "Map.begin" = true)
    (k_Map_begin : PySem.W.keepIn K (.ref f_Map_begin) = true)
    (at_Map_begin : PySem.W.findIn K (.ref a_Map) "begin" = some (some (.ref f_Map_begin)))
    (i_Map_begin : PySem.W.isFn K (.ref f_Map_begin) = true)
    (l_Map_size : K.lookup f_Map_size = some ⟨oc_Map_size, od_Map_size, .func (PySem.W.fnOf "size" "Map.size" (defArgs s_Map_size) (defBody s_Map_size) (defScope s_Map_size) .none kV_Map_size dc_Map_size pm_Map_size an_Map_size cd_Map_size ct_Map_size), sl_Map_size⟩)
    (c_Map_size : PySem.W.codeIn K cd_Map_size "Map.size" = true)
    (k_Map_size : PySem.W.keepIn K (.ref f_Map_size) = true)
    (at_Map_size : PySem.W.findIn K (.ref a_Map) "size" = some (some (.ref f_Map_size)))
    (i_Map_size : PySem.W.isFn K (.ref f_Map_size) = true)
    (l_come_to : K.lookup f_come_to = some ⟨oc_come_to, od_come_to, .func (PySem.W.fnOf "come_to" "come_to" (defArgs s_come_to) (defBody s_come_to) (defScope s_come_to) .none kV_come_to dc_come_to pm_come_to an_come_to cd_come_to ct_come_to), sl_come_to⟩)
    (c_come_to : PySem.W.codeIn K cd_come_to "come_to" = true)
    (k_come_to : PySem.W.keepIn K (.ref f_come_to) = true)
    (g_come_to : PySem.W.nsIn K mainGlobals "come_to" = some (some (.ref f_come_to)))
    (l_is_tree : K.lookup f_is_tree = some ⟨oc_is_tree, od_is_tree, .func (PySem.W.fnOf "is_tree" "is_tree" (defArgs s_is_tree) (defBody s_is_tree) (defScope s_is_tree) .none kV_is_tree dc_is_tree pm_is_tree an_is_tree cd_is_tree ct_is_tree), sl_is_tree⟩)
    (c_is_tree : PySem.W.codeIn K cd_is_tree "is_tree" = true)
    (k_is_tree : PySem.W.keepIn K (.ref f_is_tree) = true)
    (g_is_tree : PySem.W.nsIn K mainGlobals "is_tree" = some (some (.ref f_is_tree)))
    (l_law_dice : K.lookup f_law_dice = some ⟨oc_law_dice, od_law_dice, .func (PySem.W.fnOf "_law_dice" "_law_dice" (defArgs s_law_dice) (defBody s_law_dice) (defScope s_law_dice) .none kV_law_dice dc_law_dice pm_law_dice an_law_dice cd_law_dice ct_law_dice), sl_law_dice⟩)
    (c_law_dice : PySem.W.codeIn K cd_law_dice "_law_dice" = true)
    (k_law_dice : PySem.W.keepIn K (.ref f_law_dice) = true)
    (g_law_dice : PySem.W.nsIn K mainGlobals "_law_dice" = some (some (.ref f_law_dice)))
    (l_law_like : K.lookup f_law_like = some ⟨oc_law_like, od_law_like, .func (PySem.W.fnOf "_law_like" "_law_like" (defArgs s_law_like) (defBody s_law_like) (defScope s_law_like) .none kV_law_like dc_law_like pm_law_like an_law_like cd_law_like ct_law_like), sl_law_like⟩)
    (c_law_like : PySem.W.codeIn K cd_law_like "_law_like" = true)
    (k_law_like : PySem.W.keepIn K (.ref f_law_like) = true)
    (g_law_like : PySem.W.nsIn K mainGlobals "_law_like" = some (some (.ref f_law_like)))
    (l_law_next : K.lookup f_law_next = some ⟨oc_law_next, od_law_next, .func (PySem.W.fnOf "_law_next" "_law_next" (defArgs s_law_next) (defBody s_law_next) (defScope s_law_next) .none kV_law_next dc_law_next pm_law_next an_law_next cd_law_next ct_law_next), sl_law_next⟩)
    (c_law_next : PySem.W.codeIn K cd_law_next "_law_next" = true)
    (k_law_next : PySem.W.keepIn K (.ref f_law_next) = true)
    (g_law_next : PySem.W.nsIn K mainGlobals "_law_next" = some (some (.ref f_law_next)))
    (l_law_cost : K.lookup f_law_cost = some ⟨oc_law_cost, od_law_cost, .func (PySem.W.fnOf "_law_cost" "_law_cost" (defArgs s_law_cost) (defBody s_law_cost) (defScope s_law_cost) .none kV_law_cost dc_law_cost pm_law_cost an_law_cost cd_law_cost ct_law_cost), sl_law_cost⟩)
    (c_law_cost : PySem.W.codeIn K cd_law_cost "_law_cost" = true)
    (k_law_cost : PySem.W.keepIn K (.ref f_law_cost) = true)
    (g_law_cost : PySem.W.nsIn K mainGlobals "_law_cost" = some (some (.ref f_law_cost)))
    (l_law_map : K.lookup f_law_map = some ⟨oc_law_map, od_law_map, .func (PySem.W.fnOf "_law_map" "_law_map" (defArgs s_law_map) (defBody s_law_map) (defScope s_law_map) .none kV_law_map dc_law_map pm_law_map an_law_map cd_law_map ct_law_map), sl_law_map⟩)
    (c_law_map : PySem.W.codeIn K cd_law_map "_law_map" = true)
    (k_law_map : PySem.W.keepIn K (.ref f_law_map) = true)
    (g_law_map : PySem.W.nsIn K mainGlobals "_law_map" = some (some (.ref f_law_map)))
    (l_law_leads : K.lookup f_law_leads = some ⟨oc_law_leads, od_law_leads, .func (PySem.W.fnOf "_law_leads" "_law_leads" (defArgs s_law_leads) (defBody s_law_leads) (defScope s_law_leads) .none kV_law_leads dc_law_leads pm_law_leads an_law_leads cd_law_leads ct_law_leads), sl_law_leads⟩)
    (c_law_leads : PySem.W.codeIn K cd_law_leads "_law_leads" = true)
    (k_law_leads : PySem.W.keepIn K (.ref f_law_leads) = true)
    (g_law_leads : PySem.W.nsIn K mainGlobals "_law_leads" = some (some (.ref f_law_leads)))
    (l_law_trees : K.lookup f_law_trees = some ⟨oc_law_trees, od_law_trees, .func (PySem.W.fnOf "_law_trees" "_law_trees" (defArgs s_law_trees) (defBody s_law_trees) (defScope s_law_trees) .none kV_law_trees dc_law_trees pm_law_trees an_law_trees cd_law_trees ct_law_trees), sl_law_trees⟩)
    (c_law_trees : PySem.W.codeIn K cd_law_trees "_law_trees" = true)
    (k_law_trees : PySem.W.keepIn K (.ref f_law_trees) = true)
    (g_law_trees : PySem.W.nsIn K mainGlobals "_law_trees" = some (some (.ref f_law_trees)))
    (l_law : K.lookup f_law = some ⟨oc_law, od_law, .func (PySem.W.fnOf "law" "law" (defArgs s_law) (defBody s_law) (defScope s_law) .none kV_law dc_law pm_law an_law cd_law ct_law), sl_law⟩)
    (c_law : PySem.W.codeIn K cd_law "law" = true)
    (k_law : PySem.W.keepIn K (.ref f_law) = true)
    (g_law : PySem.W.nsIn K mainGlobals "law" = some (some (.ref f_law))) :
    ∃ (fd : FuncData) (A : Cs), (∀ (s : Shared) (v : Value), BindsTo s fd ⟨[v], []⟩ [("_law_script", v)]) ∧ ∀ base : Heap, K.In base → base.Ns mainGlobals mg → FnOk l.prog w K mg base (L2.CX l.prog w) 5 fa fd ["_law_script"] (spD K 1 (run_law A)) := by
  have e := hfa.symm.trans (PySem.W.mg_of X G g_law)
  have e2 : f_law = fa := by
    cases e
    rfl
  subst e2
  have T : Tx K mg (⟨a_Map, 0, 0, 0, 0, 0, 0, 0⟩ : Cs) (⟨f_Map_init, PySem.W.fnOf "__init__" "Map.__init__" (defArgs s_Map_init) (defBody s_Map_init) (defScope s_Map_init) .none kV_Map_init dc_Map_init pm_Map_init an_Map_init cd_Map_init ct_Map_init, f_cost_of, PySem.W.fnOf "cost_of" "cost_of" (defArgs s_cost_of) (defBody s_cost_of) (defScope s_cost_of) .none kV_cost_of dc_cost_of pm_cost_of an_cost_of cd_cost_of ct_cost_of, f_Map_begin, PySem.W.fnOf "begin" "Map.begin" (defArgs s_Map_begin) (defBody s_Map_begin) (defScope s_Map_begin) .none kV_Map_begin dc_Map_begin pm_Map_begin an_Map_begin cd_Map_begin ct_Map_begin, f_Map_size, PySem.W.fnOf "size" "Map.size" (defArgs s_Map_size) (defBody s_Map_size) (defScope s_Map_size) .none kV_Map_size dc_Map_size pm_Map_size an_Map_size cd_Map_size ct_Map_size, f_come_to, PySem.W.fnOf "come_to" "come_to" (defArgs s_come_to) (defBody s_come_to) (defScope s_come_to) .none kV_come_to dc_come_to pm_come_to an_come_to cd_come_to ct_come_to, f_is_tree, PySem.W.fnOf "is_tree" "is_tree" (defArgs s_is_tree) (defBody s_is_tree) (defScope s_is_tree) .none kV_is_tree dc_is_tree pm_is_tree an_is_tree cd_is_tree ct_is_tree, f_law_dice, PySem.W.fnOf "_law_dice" "_law_dice" (defArgs s_law_dice) (defBody s_law_dice) (defScope s_law_dice) .none kV_law_dice dc_law_dice pm_law_dice an_law_dice cd_law_dice ct_law_dice, f_law_like, PySem.W.fnOf "_law_like" "_law_like" (defArgs s_law_like) (defBody s_law_like) (defScope s_law_like) .none kV_law_like dc_law_like pm_law_like an_law_like cd_law_like ct_law_like, f_law_next, PySem.W.fnOf "_law_next" "_law_next" (defArgs s_law_next) (defBody s_law_next) (defScope s_law_next) .none kV_law_next dc_law_next pm_law_next an_law_next cd_law_next ct_law_next, f_law_cost, PySem.W.fnOf "_law_cost" "_law_cost" (defArgs s_law_cost) (defBody s_law_cost) (defScope s_law_cost) .none kV_law_cost dc_law_cost pm_law_cost an_law_cost cd_law_cost ct_law_cost, f_law_map, PySem.W.fnOf "_law_map" "_law_map" (defArgs s_law_map) (defBody s_law_map) (defScope s_law_map) .none kV_law_map dc_law_map pm_law_map an_law_map cd_law_map ct_law_map, f_law_leads, PySem.W.fnOf "_law_leads" "_law_leads" (defArgs s_law_leads) (defBody s_law_leads) (defScope s_law_leads) .none kV_law_leads dc_law_leads pm_law_leads an_law_leads cd_law_leads ct_law_leads, f_law_trees, PySem.W.fnOf "_law_trees" "_law_trees" (defArgs s_law_trees) (defBody s_law_trees) (defScope s_law_trees) .none kV_law_trees dc_law_trees pm_law_trees an_law_trees cd_law_trees ct_law_trees, f_law, PySem.W.fnOf "law" "law" (defArgs s_law) (defBody s_law) (defScope s_law) .none kV_law dc_law pm_law an_law cd_law ct_law⟩ : Fa) := { n_bool := PySem.W.mg_none_of X G z_bool, n_int := PySem.W.mg_none_of X G z_int, n_isinstance := PySem.W.mg_none_of X G z_isinstance, n_len := PySem.W.mg_none_of X G z_len, n_list := PySem.W.mg_none_of X G z_list, n_range := PySem.W.mg_none_of X G z_range, n_set := PySem.W.mg_none_of X G z_set, n_sorted := PySem.W.mg_none_of X G z_sorted, n_str := PySem.W.mg_none_of X G z_str, n_sum := PySem.W.mg_none_of X G z_sum, n_tuple := PySem.W.mg_none_of X G z_tuple, g_MOST_COST := ⟨_, PySem.W.mg_of X G g_MOST_COST⟩, g_MOST_PLACES := ⟨_, PySem.W.mg_of X G g_MOST_PLACES⟩, g_MOST_ROADS := ⟨_, PySem.W.mg_of X G g_MOST_ROADS⟩, c_Map := ⟨pg_Map, hd_Map, po_Map, sa_Map⟩, a_Map_many := a_Map_many, a_Map_root := a_Map_root, a_Map_rows := a_Map_rows, F_Map_init := fun_mk (st := s_Map_init) l_Map_init c_Map_init k_Map_init, b_Map_init := (fun_mk (st := s_Map_init) l_Map_init c_Map_init k_Map_init).binds (ps := ["self", "many", "root", "roads"]) fun _ _ _ _ _ _ us hl => match us, hl with | [_, _, _, _], _ => rfl, m_Map := ⟨mk_Map, at_Map_init, i_Map_init, kc_Map⟩, g_Map := PySem.W.mg_of X G g_Map, F_cost_of := fun_mk (st := s_cost_of) l_cost_of c_cost_of k_cost_of, b_cost_of := (fun_mk (st := s_cost_of) l_cost_of c_cost_of k_cost_of).binds (ps := ["chart", "roads"]) fun _ _ _ _ _ _ us hl => match us, hl with | [_, _], _ => rfl, g_cost_of := PySem.W.mg_of X G g_cost_of, k_cost_of := k_cost_of, F_Map_begin := fun_mk (st := s_Map_begin) l_Map_begin c_Map_begin k_Map_begin, b_Map_begin := (fun_mk (st := s_Map_begin) l_Map_begin c_Map_begin k_Map_begin).binds (ps := ["self"]) fun _ _ _ _ _ _ us hl => match us, hl with | [_], _ => rfl, t_Map_begin := ⟨at_Map_begin, i_Map_begin, k_Map_begin⟩, F_Map_size := fun_mk (st := s_Map_size) l_Map_size c_Map_size k_Map_size, b_Map_size := (fun_mk (st := s_Map_size) l_Map_size c_Map_size k_Map_size).binds (ps := ["self"]) fun _ _ _ _ _ _ us hl => match us, hl with | [_], _ => rfl, t_Map_size := ⟨at_Map_size, i_Map_size, k_Map_size⟩, F_come_to := fun_mk (st := s_come_to) l_come_to c_come_to k_come_to, b_come_to := (fun_mk (st := s_come_to) l_come_to c_come_to k_come_to).binds (ps := ["many", "root", "rows"]) fun _ _ _ _ _ _ us hl => match us, hl with | [_, _, _], _ => rfl, g_come_to := PySem.W.mg_of X G g_come_to, k_come_to := k_come_to, F_is_tree := fun_mk (st := s_is_tree) l_is_tree c_is_tree k_is_tree, b_is_tree := (fun_mk (st := s_is_tree) l_is_tree c_is_tree k_is_tree).binds (ps := ["chart", "roads"]) fun _ _ _ _ _ _ us hl => match us, hl with | [_, _], _ => rfl, g_is_tree := PySem.W.mg_of X G g_is_tree, k_is_tree := k_is_tree, F_law_dice := fun_mk (st := s_law_dice) l_law_dice c_law_dice k_law_dice, b_law_dice := (fun_mk (st := s_law_dice) l_law_dice c_law_dice k_law_dice).binds (ps := ["_law_script"]) fun _ _ _ _ _ _ us hl => match us, hl with | [_], _ => rfl, g_law_dice := PySem.W.mg_of X G g_law_dice, k_law_dice := k_law_dice, F_law_like := fun_mk (st := s_law_like) l_law_like c_law_like k_law_like, b_law_like := (fun_mk (st := s_law_like) l_law_like c_law_like k_law_like).binds (ps := ["_law_found", "_law_due"]) fun _ _ _ _ _ _ us hl => match us, hl with | [_, _], _ => rfl, g_law_like := PySem.W.mg_of X G g_law_like, k_law_like := k_law_like, F_law_next := fun_mk (st := s_law_next) l_law_next c_law_next k_law_next, b_law_next := (fun_mk (st := s_law_next) l_law_next c_law_next k_law_next).binds (ps := ["_law_dice_here", "_law_many"]) fun _ _ _ _ _ _ us hl => match us, hl with | [_, _], _ => rfl, g_law_next := PySem.W.mg_of X G g_law_next, k_law_next := k_law_next, F_law_cost := fun_mk (st := s_law_cost) l_law_cost c_law_cost k_law_cost, b_law_cost := (fun_mk (st := s_law_cost) l_law_cost c_law_cost k_law_cost).binds (ps := ["_law_d"]) fun _ _ _ _ _ _ us hl => match us, hl with | [_], _ => rfl, g_law_cost := PySem.W.mg_of X G g_law_cost, k_law_cost := k_law_cost, F_law_map := fun_mk (st := s_law_map) l_law_map c_law_map k_law_map, b_law_map := (fun_mk (st := s_law_map) l_law_map c_law_map k_law_map).binds (ps := ["_law_d", "_law_places", "_law_roads"]) fun _ _ _ _ _ _ us hl => match us, hl with | [_, _, _], _ => rfl, g_law_map := PySem.W.mg_of X G g_law_map, k_law_map := k_law_map, F_law_leads := fun_mk (st := s_law_leads) l_law_leads c_law_leads k_law_leads, b_law_leads := (fun_mk (st := s_law_leads) l_law_leads c_law_leads k_law_leads).binds (ps := ["_law_many", "_law_root", "_law_rows"]) fun _ _ _ _ _ _ us hl => match us, hl with | [_, _, _], _ => rfl, g_law_leads := PySem.W.mg_of X G g_law_leads, k_law_leads := k_law_leads, F_law_trees := fun_mk (st := s_law_trees) l_law_trees c_law_trees k_law_trees, b_law_trees := (fun_mk (st := s_law_trees) l_law_trees c_law_trees k_law_trees).binds (ps := ["_law_chart"]) fun _ _ _ _ _ _ us hl => match us, hl with | [_], _ => rfl, g_law_trees := PySem.W.mg_of X G g_law_trees, k_law_trees := k_law_trees, F_law := fun_mk (st := s_law) l_law c_law k_law, b_law := (fun_mk (st := s_law) l_law c_law k_law).binds (ps := ["_law_script"]) fun _ _ _ _ _ _ us hl => match us, hl with | [_], _ => rfl, g_law := PySem.W.mg_of X G g_law, k_law := k_law }
  exact ⟨_, _, fun s v => .of_eq rfl, fun base _ _ => ok_law T⟩
end Lk02
namespace Lk02
open PySem L2 DW
/-- the dice: script, how far, mixed, rest -/
abbrev diceL (ns : List Int) (i m r : Int) : List D := [.scr ns, .int i, .int m, .int r]
theorem fmod_lt {a b : Int} (h : 0 < b) : 0 ≤ a.fmod b ∧ a.fmod b < b := ⟨Int.fmod_nonneg_of_pos a h, Int.fmod_lt_of_pos a h⟩
theorem next_ok {A : Cs} {ns : List Int} {i m r many : Int} {Q : DV → List SV → Prop} {E : DExc → List SV → Prop} (hi : 0 ≤ i) (hm : 0 < many) (hb : many < 1073741824)
    (k : ∀ v i' m' r' : Int, 0 ≤ i' → 0 ≤ v → v < many → Q (.d (.int v)) [.rf (.l (diceL ns i' m' r')), .un]) : run_law_next A [.rf (.l (diceL ns i m r)), .d (.int many)] Q E := by
  unfold run_law_next b_law_next r_law_next_2 r_law_next_1
  simp only [shut_eq, dSeq, dSet, dRet, dExpr, dIfS, dNil, dIf, dTst, dBin, dUn, dVar, dC, dAnd, dOr, dNot, dAndV, dOrV, dNotV, dChain, dANil, dACons, dLst, dTup, dFld, dAsg, dgN, dSetIx, dLM, hasL, atL, dSetF, dCall, dCallR, hasO, dMeth, dMake, run_eq, dEnd_nx, dEnd_rt, dEnd_ex, outS, dLc, dLcG, dLcR, dFor, dForG, dForR, wipeD, backD, dYes, fLt, fLe, fGt, fGe, fEq, fNe, fIn, fNotIn, eqv_int, at_0, at_1, at_2, at_3, ix_0, ix_1, ix_2, ix_3, List.getElem?_cons_zero, List.getElem?_cons_succ, List.set_cons_zero, List.set_cons_succ, List.cons_append, List.nil_append, List.replicate_succ, List.replicate_zero, List.map_cons, List.map_nil, List.take_succ_cons, List.take_zero, List.length_cons, List.length_nil, List.take, List.length_set, pk_d, pk_fr, pk_sl, stab_d, stab_fr, stab_sl, fz_d, fz_fr, fz_sl, toD_l, toD_i, toD_k, re_rf, re_ow, store_d, store_fr, store_sl, outV_d, outV_fr, outV_sl, items_l, items_t, items_s, rng_1, rng_2, dgT_t, setAll_0, setAll_s, putR_rf, madeQ_n, fAdd_i, fAdd_l, fSub_i, fMul_i, fDiv_i, fMod_i, fPow_i, fNeg_i, fCmp_i, fIn_l, fNotIn_l, fIx_l, fIx_t, fIx_s, fLen_l, fLen_t, fLen_s, fInt_i, fInt_b, fList_l, fList_t, fIsN_n, fNotN_n, isN_i, gAppend_1, gPop_c, fFld_i, fRev_l, pl_i, fIsi_i, fIsi_b, fIsi_n, fIsi_l, fIsi_t, List.length_map, anyI, pl_ints, if_false_t, Nat.reduceAdd]
  have hm0 : many ≠ 0 := by omega
  have hmb : many ≠ 0 ∧ many.natAbs < 1073741824 := ⟨hm0, by omega⟩
  by_cases h : 0 < r
  · rw [if_pos (decide_eq_true h)]
    exact ⟨hm0, by decide, .inl hmb, trivial, k _ _ _ _ hi (fmod_lt hm).1 (fmod_lt hm).2⟩
  · rw [if_neg (by simpa using h)]
    refine ⟨trivial, ?_⟩
    by_cases h2 : i + 1 ≤ (ns.length : Int)
    · rw [if_pos (decide_eq_true h2)]
      obtain ⟨n, rfl⟩ := Int.eq_ofNat_of_zero_le hi
      have hn : n < ns.length := by omega
      have e : L2.atI ns ((n : Int) + 1 - 1) = some ns[n] := by
        rw [Int.add_sub_cancel, at_nat, List.getElem?_eq_getElem hn]
      rw [e]
      refine ⟨by decide, by decide, by decide, by decide, ?_⟩
      by_cases h3 : (10 : Int) ^ Int.toNat 18 ≤ ns[n]
      · rw [if_pos (decide_eq_true h3)]
        exact ⟨.inl hmb, trivial, hm0, k _ _ _ _ (by omega) (fmod_lt hm).1 (fmod_lt hm).2⟩
      · rw [if_neg (by simpa using h3)]
        exact ⟨trivial, hm0, k _ _ _ _ (by omega) (fmod_lt hm).1 (fmod_lt hm).2⟩
    · rw [if_neg (by simpa using h2)]
      exact ⟨.inr (.inl (by decide)), by decide, trivial, .inl ⟨by decide, by decide⟩, hm0, k _ _ _ _ (by omega) (fmod_lt hm).1 (fmod_lt hm).2⟩
/-- any dice -/
def IsDice (ns : List Int) (o : OO) : Prop := ∃ i m r : Int, 0 ≤ i ∧ o = .l (diceL ns i m r)
theorem next_any {A : Cs} {ns : List Int} {o : OO} {many : Int} {Q : DV → List SV → Prop} {E : DExc → List SV → Prop} (ho : IsDice ns o) (hm : 0 < many) (hb : many < 1073741824)
    (k : ∀ (v : Int) (o' : OO), IsDice ns o' → 0 ≤ v → v < many → Q (.d (.int v)) [.rf o', .un]) : run_law_next A [.rf o, .d (.int many)] Q E := by
  obtain ⟨i, m, r, hi, rfl⟩ := ho
  exact next_ok hi hm hb fun v i' m' r' h1 h2 h3 => k v _ ⟨i', m', r', h1, rfl⟩ h2 h3
theorem cost_any {A : Cs} {ns : List Int} {o : OO} {Q : DV → List SV → Prop} {E : DExc → List SV → Prop} (ho : IsDice ns o)
    (k : ∀ (v : Int) (o' : OO), IsDice ns o' → 0 ≤ v → v ≤ 1000000000 → Q (.d (.int v)) [.rf o']) : run_law_cost A [.rf o] Q E := by
  unfold run_law_cost b_law_cost r_law_cost_1
  simp only [shut_eq, dSeq, dSet, dRet, dExpr, dIfS, dNil, dIf, dTst, dBin, dUn, dVar, dC, dAnd, dOr, dNot, dAndV, dOrV, dNotV, dChain, dANil, dACons, dLst, dTup, dFld, dAsg, dgN, dSetIx, dLM, hasL, atL, dSetF, dCall, dCallR, hasO, dMeth, dMake, run_eq, dEnd_nx, dEnd_rt, dEnd_ex, outS, dLc, dLcG, dLcR, dFor, dForG, dForR, wipeD, backD, dYes, fLt, fLe, fGt, fGe, fEq, fNe, fIn, fNotIn, eqv_int, at_0, at_1, at_2, at_3, ix_0, ix_1, ix_2, ix_3, List.getElem?_cons_zero, List.getElem?_cons_succ, List.set_cons_zero, List.set_cons_succ, List.cons_append, List.nil_append, List.replicate_succ, List.replicate_zero, List.map_cons, List.map_nil, List.take_succ_cons, List.take_zero, List.length_cons, List.length_nil, List.take, List.length_set, pk_d, pk_fr, pk_sl, stab_d, stab_fr, stab_sl, fz_d, fz_fr, fz_sl, toD_l, toD_i, toD_k, re_rf, re_ow, store_d, store_fr, store_sl, outV_d, outV_fr, outV_sl, items_l, items_t, items_s, rng_1, rng_2, dgT_t, setAll_0, setAll_s, putR_rf, madeQ_n, fAdd_i, fAdd_l, fSub_i, fMul_i, fDiv_i, fMod_i, fPow_i, fNeg_i, fCmp_i, fIn_l, fNotIn_l, fIx_l, fIx_t, fIx_s, fLen_l, fLen_t, fLen_s, fInt_i, fInt_b, fList_l, fList_t, fIsN_n, fNotN_n, isN_i, gAppend_1, gPop_c, fFld_i, fRev_l, pl_i, fIsi_i, fIsi_b, fIsi_n, fIsi_l, fIsi_t, List.length_map, anyI, pl_ints, if_false_t, Nat.reduceAdd]
  refine ⟨trivial, trivial, next_any ho (by decide) (by decide) fun v o1 h1 h2 h3 => ?_⟩
  simp only [shut_eq, dSeq, dSet, dRet, dExpr, dIfS, dNil, dIf, dTst, dBin, dUn, dVar, dC, dAnd, dOr, dNot, dAndV, dOrV, dNotV, dChain, dANil, dACons, dLst, dTup, dFld, dAsg, dgN, dSetIx, dLM, hasL, atL, dSetF, dCall, dCallR, hasO, dMeth, dMake, run_eq, dEnd_nx, dEnd_rt, dEnd_ex, outS, dLc, dLcG, dLcR, dFor, dForG, dForR, wipeD, backD, dYes, fLt, fLe, fGt, fGe, fEq, fNe, fIn, fNotIn, eqv_int, at_0, at_1, at_2, at_3, ix_0, ix_1, ix_2, ix_3, List.getElem?_cons_zero, List.getElem?_cons_succ, List.set_cons_zero, List.set_cons_succ, List.cons_append, List.nil_append, List.replicate_succ, List.replicate_zero, List.map_cons, List.map_nil, List.take_succ_cons, List.take_zero, List.length_cons, List.length_nil, List.take, List.length_set, pk_d, pk_fr, pk_sl, stab_d, stab_fr, stab_sl, fz_d, fz_fr, fz_sl, toD_l, toD_i, toD_k, re_rf, re_ow, store_d, store_fr, store_sl, outV_d, outV_fr, outV_sl, items_l, items_t, items_s, rng_1, rng_2, dgT_t, setAll_0, setAll_s, putR_rf, madeQ_n, fAdd_i, fAdd_l, fSub_i, fMul_i, fDiv_i, fMod_i, fPow_i, fNeg_i, fCmp_i, fIn_l, fNotIn_l, fIx_l, fIx_t, fIx_s, fLen_l, fLen_t, fLen_s, fInt_i, fInt_b, fList_l, fList_t, fIsN_n, fNotN_n, isN_i, gAppend_1, gPop_c, fFld_i, fRev_l, pl_i, fIsi_i, fIsi_b, fIsi_n, fIsi_l, fIsi_t, List.length_map, anyI, pl_ints, if_false_t, Nat.reduceAdd]
  refine ⟨by decide, ?_⟩
  by_cases h : v < 4
  · rw [if_pos (decide_eq_true h)]
    refine ⟨trivial, .inl (by decide), trivial, next_any h1 (by omega) (by omega) fun v o2 h4 h5 h6 => ?_⟩
    exact k _ _ h4 h5 (by omega)
  · rw [if_neg (by simpa using h)]
    refine ⟨trivial, by decide, by decide, by decide, by decide, ?_⟩
    have e : v = 4 ∨ v = 5 := by omega
    rcases e with rfl | rfl
    · exact ⟨trivial, next_any h1 (by decide) (by decide) fun v o2 h4 h5 h6 => k _ _ h4 h5 (by omega)⟩
    · exact ⟨trivial, next_any h1 (by decide) (by decide) fun v o2 h4 h5 h6 => k _ _ h4 h5 (Int.lt_add_one_iff.mp h6)⟩
/-! maps -/
def GoodRoad (many : Int) (r : Road) : Prop := 0 ≤ r.1 ∧ r.1 < many ∧ 0 ≤ r.2.1 ∧ r.2.1 < many ∧ r.1 ≠ r.2.1 ∧ 0 ≤ r.2.2 ∧ r.2.2 ≤ 1000000000
theorem map_any {A : Cs} {ns : List Int} {o : OO} {places roads : Int} {Q : DV → List SV → Prop} {E : DExc → List SV → Prop} (ho : IsDice ns o) (hp : 0 < places) (hp2 : places ≤ 20) (hr : 0 ≤ roads) (hr2 : roads ≤ 60)
    (k : ∀ (many root : Int) (rs : List Road) (o' : OO), IsDice ns o' → 0 ≤ root → root < many → many ≤ places → (rs.length : Int) ≤ roads → (∀ r, r ∈ rs → GoodRoad many r) → Q (.d (.tup [.int many, .int root, .lst (rowsD rs)])) [.rf o', .un, .un]) :
    run_law_map A [.rf o, .d (.int places), .d (.int roads)] Q E := by
  unfold run_law_map b_law_map
  simp only [shut_eq, dSeq, dSet, dRet, dExpr, dIfS, dNil, dIf, dTst, dBin, dUn, dVar, dC, dAnd, dOr, dNot, dAndV, dOrV, dNotV, dChain, dANil, dACons, dLst, dTup, dFld, dAsg, dgN, dSetIx, dLM, hasL, atL, dSetF, dCall, dCallR, hasO, dMeth, dMake, run_eq, dEnd_nx, dEnd_rt, dEnd_ex, outS, dLc, dLcG, dLcR, dFor, dForG, dForR, wipeD, backD, dYes, fLt, fLe, fGt, fGe, fEq, fNe, fIn, fNotIn, eqv_int, at_0, at_1, at_2, at_3, ix_0, ix_1, ix_2, ix_3, List.getElem?_cons_zero, List.getElem?_cons_succ, List.set_cons_zero, List.set_cons_succ, List.cons_append, List.nil_append, List.replicate_succ, List.replicate_zero, List.map_cons, List.map_nil, List.take_succ_cons, List.take_zero, List.length_cons, List.length_nil, List.take, List.length_set, pk_d, pk_fr, pk_sl, stab_d, stab_fr, stab_sl, fz_d, fz_fr, fz_sl, toD_l, toD_i, toD_k, re_rf, re_ow, store_d, store_fr, store_sl, outV_d, outV_fr, outV_sl, items_l, items_t, items_s, rng_1, rng_2, dgT_t, setAll_0, setAll_s, putR_rf, madeQ_n, fAdd_i, fAdd_l, fSub_i, fMul_i, fDiv_i, fMod_i, fPow_i, fNeg_i, fCmp_i, fIn_l, fNotIn_l, fIx_l, fIx_t, fIx_s, fLen_l, fLen_t, fLen_s, fInt_i, fInt_b, fList_l, fList_t, fIsN_n, fNotN_n, isN_i, gAppend_1, gPop_c, fFld_i, fRev_l, pl_i, fIsi_i, fIsi_b, fIsi_n, fIsi_l, fIsi_t, List.length_map, anyI, pl_ints, if_false_t, Nat.reduceAdd]
  refine ⟨trivial, trivial, next_any ho hp (by omega) fun v o1 h1 h2 h3 => ?_⟩
  simp only [shut_eq, dSeq, dSet, dRet, dExpr, dIfS, dNil, dIf, dTst, dBin, dUn, dVar, dC, dAnd, dOr, dNot, dAndV, dOrV, dNotV, dChain, dANil, dACons, dLst, dTup, dFld, dAsg, dgN, dSetIx, dLM, hasL, atL, dSetF, dCall, dCallR, hasO, dMeth, dMake, run_eq, dEnd_nx, dEnd_rt, dEnd_ex, outS, dLc, dLcG, dLcR, dFor, dForG, dForR, wipeD, backD, dYes, fLt, fLe, fGt, fGe, fEq, fNe, fIn, fNotIn, eqv_int, at_0, at_1, at_2, at_3, ix_0, ix_1, ix_2, ix_3, List.getElem?_cons_zero, List.getElem?_cons_succ, List.set_cons_zero, List.set_cons_succ, List.cons_append, List.nil_append, List.replicate_succ, List.replicate_zero, List.map_cons, List.map_nil, List.take_succ_cons, List.take_zero, List.length_cons, List.length_nil, List.take, List.length_set, pk_d, pk_fr, pk_sl, stab_d, stab_fr, stab_sl, fz_d, fz_fr, fz_sl, toD_l, toD_i, toD_k, re_rf, re_ow, store_d, store_fr, store_sl, outV_d, outV_fr, outV_sl, items_l, items_t, items_s, rng_1, rng_2, dgT_t, setAll_0, setAll_s, putR_rf, madeQ_n, fAdd_i, fAdd_l, fSub_i, fMul_i, fDiv_i, fMod_i, fPow_i, fNeg_i, fCmp_i, fIn_l, fNotIn_l, fIx_l, fIx_t, fIx_s, fLen_l, fLen_t, fLen_s, fInt_i, fInt_b, fList_l, fList_t, fIsN_n, fNotN_n, isN_i, gAppend_1, gPop_c, fFld_i, fRev_l, pl_i, fIsi_i, fIsi_b, fIsi_n, fIsi_l, fIsi_t, List.length_map, anyI, pl_ints, if_false_t, Nat.reduceAdd]
  refine ⟨by decide, trivial, trivial, next_any h1 (by omega) (by omega) fun w o2 h4 h5 h6 => ?_⟩
  simp only [shut_eq, dSeq, dSet, dRet, dExpr, dIfS, dNil, dIf, dTst, dBin, dUn, dVar, dC, dAnd, dOr, dNot, dAndV, dOrV, dNotV, dChain, dANil, dACons, dLst, dTup, dFld, dAsg, dgN, dSetIx, dLM, hasL, atL, dSetF, dCall, dCallR, hasO, dMeth, dMake, run_eq, dEnd_nx, dEnd_rt, dEnd_ex, outS, dLc, dLcG, dLcR, dFor, dForG, dForR, wipeD, backD, dYes, fLt, fLe, fGt, fGe, fEq, fNe, fIn, fNotIn, eqv_int, at_0, at_1, at_2, at_3, ix_0, ix_1, ix_2, ix_3, List.getElem?_cons_zero, List.getElem?_cons_succ, List.set_cons_zero, List.set_cons_succ, List.cons_append, List.nil_append, List.replicate_succ, List.replicate_zero, List.map_cons, List.map_nil, List.take_succ_cons, List.take_zero, List.length_cons, List.length_nil, List.take, List.length_set, pk_d, pk_fr, pk_sl, stab_d, stab_fr, stab_sl, fz_d, fz_fr, fz_sl, toD_l, toD_i, toD_k, re_rf, re_ow, store_d, store_fr, store_sl, outV_d, outV_fr, outV_sl, items_l, items_t, items_s, rng_1, rng_2, dgT_t, setAll_0, setAll_s, putR_rf, madeQ_n, fAdd_i, fAdd_l, fSub_i, fMul_i, fDiv_i, fMod_i, fPow_i, fNeg_i, fCmp_i, fIn_l, fNotIn_l, fIx_l, fIx_t, fIx_s, fLen_l, fLen_t, fLen_s, fInt_i, fInt_b, fList_l, fList_t, fIsN_n, fNotN_n, isN_i, gAppend_1, gPop_c, fFld_i, fRev_l, pl_i, fIsi_i, fIsi_b, fIsi_n, fIsi_l, fIsi_t, List.length_map, anyI, pl_ints, if_false_t, Nat.reduceAdd]
  refine ⟨by decide, by decide, by decide, ?_⟩
  have fin : ∀ (o' : OO) (rs : List Road) (x6 x7 x8 : SV), IsDice ns o' → (rs.length : Int) ≤ roads → (∀ r, r ∈ rs → GoodRoad (1 + v) r) →
      r_law_map_3 A (dEnd 3 Q E) [.rf o', .d (.int places), .d (.int roads), .d (.int (1 + v)), .d (.int w), .ow (.l (rowsD rs)), x6, x7, x8] := fun o' rs x6 x7 x8 ho' hl hg => by
    unfold r_law_map_3
    simp only [shut_eq, dSeq, dSet, dRet, dExpr, dIfS, dNil, dIf, dTst, dBin, dUn, dVar, dC, dAnd, dOr, dNot, dAndV, dOrV, dNotV, dChain, dANil, dACons, dLst, dTup, dFld, dAsg, dgN, dSetIx, dLM, hasL, atL, dSetF, dCall, dCallR, hasO, dMeth, dMake, run_eq, dEnd_nx, dEnd_rt, dEnd_ex, outS, dLc, dLcG, dLcR, dFor, dForG, dForR, wipeD, backD, dYes, fLt, fLe, fGt, fGe, fEq, fNe, fIn, fNotIn, eqv_int, at_0, at_1, at_2, at_3, ix_0, ix_1, ix_2, ix_3, List.getElem?_cons_zero, List.getElem?_cons_succ, List.set_cons_zero, List.set_cons_succ, List.cons_append, List.nil_append, List.replicate_succ, List.replicate_zero, List.map_cons, List.map_nil, List.take_succ_cons, List.take_zero, List.length_cons, List.length_nil, List.take, List.length_set, pk_d, pk_fr, pk_sl, stab_d, stab_fr, stab_sl, fz_d, fz_fr, fz_sl, toD_l, toD_i, toD_k, re_rf, re_ow, store_d, store_fr, store_sl, outV_d, outV_fr, outV_sl, items_l, items_t, items_s, rng_1, rng_2, dgT_t, setAll_0, setAll_s, putR_rf, madeQ_n, fAdd_i, fAdd_l, fSub_i, fMul_i, fDiv_i, fMod_i, fPow_i, fNeg_i, fCmp_i, fIn_l, fNotIn_l, fIx_l, fIx_t, fIx_s, fLen_l, fLen_t, fLen_s, fInt_i, fInt_b, fList_l, fList_t, fIsN_n, fNotN_n, isN_i, gAppend_1, gPop_c, fFld_i, fRev_l, pl_i, fIsi_i, fIsi_b, fIsi_n, fIsi_l, fIsi_t, List.length_map, anyI, pl_ints, if_false_t, Nat.reduceAdd]
    exact ⟨by decide, k _ _ _ _ ho' h5 h6 (by omega) hl hg⟩
  by_cases h : 1 < 1 + v
  · rw [if_pos (decide_eq_true h)]
    refine ⟨trivial, trivial, next_any h4 (by omega) (by omega) fun u o3 h7 h8 h9 => ?_⟩
    simp only [shut_eq, dSeq, dSet, dRet, dExpr, dIfS, dNil, dIf, dTst, dBin, dUn, dVar, dC, dAnd, dOr, dNot, dAndV, dOrV, dNotV, dChain, dANil, dACons, dLst, dTup, dFld, dAsg, dgN, dSetIx, dLM, hasL, atL, dSetF, dCall, dCallR, hasO, dMeth, dMake, run_eq, dEnd_nx, dEnd_rt, dEnd_ex, outS, dLc, dLcG, dLcR, dFor, dForG, dForR, wipeD, backD, dYes, fLt, fLe, fGt, fGe, fEq, fNe, fIn, fNotIn, eqv_int, at_0, at_1, at_2, at_3, ix_0, ix_1, ix_2, ix_3, List.getElem?_cons_zero, List.getElem?_cons_succ, List.set_cons_zero, List.set_cons_succ, List.cons_append, List.nil_append, List.replicate_succ, List.replicate_zero, List.map_cons, List.map_nil, List.take_succ_cons, List.take_zero, List.length_cons, List.length_nil, List.take, List.length_set, pk_d, pk_fr, pk_sl, stab_d, stab_fr, stab_sl, fz_d, fz_fr, fz_sl, toD_l, toD_i, toD_k, re_rf, re_ow, store_d, store_fr, store_sl, outV_d, outV_fr, outV_sl, items_l, items_t, items_s, rng_1, rng_2, dgT_t, setAll_0, setAll_s, putR_rf, madeQ_n, fAdd_i, fAdd_l, fSub_i, fMul_i, fDiv_i, fMod_i, fPow_i, fNeg_i, fCmp_i, fIn_l, fNotIn_l, fIx_l, fIx_t, fIx_s, fLen_l, fLen_t, fLen_s, fInt_i, fInt_b, fList_l, fList_t, fIsN_n, fNotN_n, isN_i, gAppend_1, gPop_c, fFld_i, fRev_l, pl_i, fIsi_i, fIsi_b, fIsi_n, fIsi_l, fIsi_t, List.length_map, anyI, pl_ints, if_false_t, Nat.reduceAdd]
    refine ⟨trivial, by omega, by omega, ?_⟩
    refine forN_ind (fun i : Nat => D.int (0 + (i : Int))) (fun as ρ => ∃ (o' : OO) (rs : List Road) (x6 x7 x8 : SV), IsDice ns o' ∧ (∀ j, j ∈ as → j < 60) ∧ (rs.length : Int) + as.length ≤ roads ∧ (∀ r, r ∈ rs → GoodRoad (1 + v) r) ∧ ρ = [.rf o', .d (.int places), .d (.int roads), .d (.int (1 + v)), .d (.int w), .ow (.l (rowsD rs)), x6, x7, x8]) ?_ ?_ _ _ ⟨o3, [], _, _, _, h7, fun j hj => ?_, ?_, fun r hr => (nomatch hr), rfl⟩
    · rintro ρ ⟨o', rs, x6, x7, x8, hd, _, hl, hg, rfl⟩
      exact fin o' rs _ _ _ hd (by simpa using hl) hg
    · rintro a as ρ N ⟨o', rs, x6, x7, x8, hd, ha, hl, hg, rfl⟩ hN
      have ha60 := ha a List.mem_cons_self
      have ha' : ∀ j, j ∈ as → j < 60 := fun j hj => ha j (List.mem_cons_of_mem _ hj)
      have hl' : (rs.length : Int) + (as.length + 1) ≤ roads := by simpa using hl
      unfold l_law_map_2
      simp only [shut_eq, dSeq, dSet, dRet, dExpr, dIfS, dNil, dIf, dTst, dBin, dUn, dVar, dC, dAnd, dOr, dNot, dAndV, dOrV, dNotV, dChain, dANil, dACons, dLst, dTup, dFld, dAsg, dgN, dSetIx, dLM, hasL, atL, dSetF, dCall, dCallR, hasO, dMeth, dMake, run_eq, dEnd_nx, dEnd_rt, dEnd_ex, outS, dLc, dLcG, dLcR, dFor, dForG, dForR, wipeD, backD, dYes, fLt, fLe, fGt, fGe, fEq, fNe, fIn, fNotIn, eqv_int, at_0, at_1, at_2, at_3, ix_0, ix_1, ix_2, ix_3, List.getElem?_cons_zero, List.getElem?_cons_succ, List.set_cons_zero, List.set_cons_succ, List.cons_append, List.nil_append, List.replicate_succ, List.replicate_zero, List.map_cons, List.map_nil, List.take_succ_cons, List.take_zero, List.length_cons, List.length_nil, List.take, List.length_set, pk_d, pk_fr, pk_sl, stab_d, stab_fr, stab_sl, fz_d, fz_fr, fz_sl, toD_l, toD_i, toD_k, re_rf, re_ow, store_d, store_fr, store_sl, outV_d, outV_fr, outV_sl, items_l, items_t, items_s, rng_1, rng_2, dgT_t, setAll_0, setAll_s, putR_rf, madeQ_n, fAdd_i, fAdd_l, fSub_i, fMul_i, fDiv_i, fMod_i, fPow_i, fNeg_i, fCmp_i, fIn_l, fNotIn_l, fIx_l, fIx_t, fIx_s, fLen_l, fLen_t, fLen_s, fInt_i, fInt_b, fList_l, fList_t, fIsN_n, fNotN_n, isN_i, gAppend_1, gPop_c, fFld_i, fRev_l, pl_i, fIsi_i, fIsi_b, fIsi_n, fIsi_l, fIsi_t, List.length_map, anyI, pl_ints, if_false_t, Nat.reduceAdd]
      refine ⟨by decide, trivial, trivial, next_any hd (by omega) (by omega) fun b o4 d4 b1 b2 => ?_⟩
      simp only [shut_eq, dSeq, dSet, dRet, dExpr, dIfS, dNil, dIf, dTst, dBin, dUn, dVar, dC, dAnd, dOr, dNot, dAndV, dOrV, dNotV, dChain, dANil, dACons, dLst, dTup, dFld, dAsg, dgN, dSetIx, dLM, hasL, atL, dSetF, dCall, dCallR, hasO, dMeth, dMake, run_eq, dEnd_nx, dEnd_rt, dEnd_ex, outS, dLc, dLcG, dLcR, dFor, dForG, dForR, wipeD, backD, dYes, fLt, fLe, fGt, fGe, fEq, fNe, fIn, fNotIn, eqv_int, at_0, at_1, at_2, at_3, ix_0, ix_1, ix_2, ix_3, List.getElem?_cons_zero, List.getElem?_cons_succ, List.set_cons_zero, List.set_cons_succ, List.cons_append, List.nil_append, List.replicate_succ, List.replicate_zero, List.map_cons, List.map_nil, List.take_succ_cons, List.take_zero, List.length_cons, List.length_nil, List.take, List.length_set, pk_d, pk_fr, pk_sl, stab_d, stab_fr, stab_sl, fz_d, fz_fr, fz_sl, toD_l, toD_i, toD_k, re_rf, re_ow, store_d, store_fr, store_sl, outV_d, outV_fr, outV_sl, items_l, items_t, items_s, rng_1, rng_2, dgT_t, setAll_0, setAll_s, putR_rf, madeQ_n, fAdd_i, fAdd_l, fSub_i, fMul_i, fDiv_i, fMod_i, fPow_i, fNeg_i, fCmp_i, fIn_l, fNotIn_l, fIx_l, fIx_t, fIx_s, fLen_l, fLen_t, fLen_s, fInt_i, fInt_b, fList_l, fList_t, fIsN_n, fNotN_n, isN_i, gAppend_1, gPop_c, fFld_i, fRev_l, pl_i, fIsi_i, fIsi_b, fIsi_n, fIsi_l, fIsi_t, List.length_map, anyI, pl_ints, if_false_t, Nat.reduceAdd]
      refine ⟨by decide, trivial, trivial, next_any d4 (by omega) (by omega) fun c o5 d5 c1 c2 => ?_⟩
      simp only [shut_eq, dSeq, dSet, dRet, dExpr, dIfS, dNil, dIf, dTst, dBin, dUn, dVar, dC, dAnd, dOr, dNot, dAndV, dOrV, dNotV, dChain, dANil, dACons, dLst, dTup, dFld, dAsg, dgN, dSetIx, dLM, hasL, atL, dSetF, dCall, dCallR, hasO, dMeth, dMake, run_eq, dEnd_nx, dEnd_rt, dEnd_ex, outS, dLc, dLcG, dLcR, dFor, dForG, dForR, wipeD, backD, dYes, fLt, fLe, fGt, fGe, fEq, fNe, fIn, fNotIn, eqv_int, at_0, at_1, at_2, at_3, ix_0, ix_1, ix_2, ix_3, List.getElem?_cons_zero, List.getElem?_cons_succ, List.set_cons_zero, List.set_cons_succ, List.cons_append, List.nil_append, List.replicate_succ, List.replicate_zero, List.map_cons, List.map_nil, List.take_succ_cons, List.take_zero, List.length_cons, List.length_nil, List.take, List.length_set, pk_d, pk_fr, pk_sl, stab_d, stab_fr, stab_sl, fz_d, fz_fr, fz_sl, toD_l, toD_i, toD_k, re_rf, re_ow, store_d, store_fr, store_sl, outV_d, outV_fr, outV_sl, items_l, items_t, items_s, rng_1, rng_2, dgT_t, setAll_0, setAll_s, putR_rf, madeQ_n, fAdd_i, fAdd_l, fSub_i, fMul_i, fDiv_i, fMod_i, fPow_i, fNeg_i, fCmp_i, fIn_l, fNotIn_l, fIx_l, fIx_t, fIx_s, fLen_l, fLen_t, fLen_s, fInt_i, fInt_b, fList_l, fList_t, fIsN_n, fNotN_n, isN_i, gAppend_1, gPop_c, fFld_i, fRev_l, pl_i, fIsi_i, fIsi_b, fIsi_n, fIsi_l, fIsi_t, List.length_map, anyI, pl_ints, if_false_t, Nat.reduceAdd]
      have g1 := fmod_lt (a := b + 1 + c) (b := 1 + v) (by omega)
      refine ⟨by omega, by decide, trivial, trivial, next_any d5 (by omega) (by omega) fun e o6 d6 e1 e2 => ?_⟩
      simp only [shut_eq, dSeq, dSet, dRet, dExpr, dIfS, dNil, dIf, dTst, dBin, dUn, dVar, dC, dAnd, dOr, dNot, dAndV, dOrV, dNotV, dChain, dANil, dACons, dLst, dTup, dFld, dAsg, dgN, dSetIx, dLM, hasL, atL, dSetF, dCall, dCallR, hasO, dMeth, dMake, run_eq, dEnd_nx, dEnd_rt, dEnd_ex, outS, dLc, dLcG, dLcR, dFor, dForG, dForR, wipeD, backD, dYes, fLt, fLe, fGt, fGe, fEq, fNe, fIn, fNotIn, eqv_int, at_0, at_1, at_2, at_3, ix_0, ix_1, ix_2, ix_3, List.getElem?_cons_zero, List.getElem?_cons_succ, List.set_cons_zero, List.set_cons_succ, List.cons_append, List.nil_append, List.replicate_succ, List.replicate_zero, List.map_cons, List.map_nil, List.take_succ_cons, List.take_zero, List.length_cons, List.length_nil, List.take, List.length_set, pk_d, pk_fr, pk_sl, stab_d, stab_fr, stab_sl, fz_d, fz_fr, fz_sl, toD_l, toD_i, toD_k, re_rf, re_ow, store_d, store_fr, store_sl, outV_d, outV_fr, outV_sl, items_l, items_t, items_s, rng_1, rng_2, dgT_t, setAll_0, setAll_s, putR_rf, madeQ_n, fAdd_i, fAdd_l, fSub_i, fMul_i, fDiv_i, fMod_i, fPow_i, fNeg_i, fCmp_i, fIn_l, fNotIn_l, fIx_l, fIx_t, fIx_s, fLen_l, fLen_t, fLen_s, fInt_i, fInt_b, fList_l, fList_t, fIsN_n, fNotN_n, isN_i, gAppend_1, gPop_c, fFld_i, fRev_l, pl_i, fIsi_i, fIsi_b, fIsi_n, fIsi_l, fIsi_t, List.length_map, anyI, pl_ints, if_false_t, Nat.reduceAdd]
      have tail : ∀ (o' : OO) (p q : Int), IsDice ns o' → 0 ≤ p → p < 1 + v → 0 ≤ q → q < 1 + v → r_law_map_1 A { nx := N, rt := (dEnd 3 Q E).rt, ex := (dEnd 3 Q E).ex, bk := fun ρ1 => r_law_map_3 A (dEnd 3 Q E) ρ1, ct := N }
          [.rf o', .d (.int places), .d (.int roads), .d (.int (1 + v)), .d (.int w), .ow (.l (rowsD rs)), .d (.int (0 + a)), .d (.int p), .d (.int q)] := fun o' p q hd' p1 p2 q1 q2 => by
        unfold r_law_map_1
        simp only [shut_eq, dSeq, dSet, dRet, dExpr, dIfS, dNil, dIf, dTst, dBin, dUn, dVar, dC, dAnd, dOr, dNot, dAndV, dOrV, dNotV, dChain, dANil, dACons, dLst, dTup, dFld, dAsg, dgN, dSetIx, dLM, hasL, atL, dSetF, dCall, dCallR, hasO, dMeth, dMake, run_eq, dEnd_nx, dEnd_rt, dEnd_ex, outS, dLc, dLcG, dLcR, dFor, dForG, dForR, wipeD, backD, dYes, fLt, fLe, fGt, fGe, fEq, fNe, fIn, fNotIn, eqv_int, at_0, at_1, at_2, at_3, ix_0, ix_1, ix_2, ix_3, List.getElem?_cons_zero, List.getElem?_cons_succ, List.set_cons_zero, List.set_cons_succ, List.cons_append, List.nil_append, List.replicate_succ, List.replicate_zero, List.map_cons, List.map_nil, List.take_succ_cons, List.take_zero, List.length_cons, List.length_nil, List.take, List.length_set, pk_d, pk_fr, pk_sl, stab_d, stab_fr, stab_sl, fz_d, fz_fr, fz_sl, toD_l, toD_i, toD_k, re_rf, re_ow, store_d, store_fr, store_sl, outV_d, outV_fr, outV_sl, items_l, items_t, items_s, rng_1, rng_2, dgT_t, setAll_0, setAll_s, putR_rf, madeQ_n, fAdd_i, fAdd_l, fSub_i, fMul_i, fDiv_i, fMod_i, fPow_i, fNeg_i, fCmp_i, fIn_l, fNotIn_l, fIx_l, fIx_t, fIx_s, fLen_l, fLen_t, fLen_s, fInt_i, fInt_b, fList_l, fList_t, fIsN_n, fNotN_n, isN_i, gAppend_1, gPop_c, fFld_i, fRev_l, pl_i, fIsi_i, fIsi_b, fIsi_n, fIsi_l, fIsi_t, List.length_map, anyI, pl_ints, if_false_t, Nat.reduceAdd]
        refine ⟨trivial, trivial, ?_⟩
        by_cases e : p = q
        · rw [if_neg (by simpa using e)]
          exact hN _ ⟨o', rs, _, _, _, hd', ha', by omega, hg, rfl⟩
        · rw [if_pos (by simpa using e)]
          refine ⟨trivial, trivial, trivial, cost_any hd' fun z o7 d7 z1 z2 => ?_⟩
          simp only [shut_eq, dSeq, dSet, dRet, dExpr, dIfS, dNil, dIf, dTst, dBin, dUn, dVar, dC, dAnd, dOr, dNot, dAndV, dOrV, dNotV, dChain, dANil, dACons, dLst, dTup, dFld, dAsg, dgN, dSetIx, dLM, hasL, atL, dSetF, dCall, dCallR, hasO, dMeth, dMake, run_eq, dEnd_nx, dEnd_rt, dEnd_ex, outS, dLc, dLcG, dLcR, dFor, dForG, dForR, wipeD, backD, dYes, fLt, fLe, fGt, fGe, fEq, fNe, fIn, fNotIn, eqv_int, at_0, at_1, at_2, at_3, ix_0, ix_1, ix_2, ix_3, List.getElem?_cons_zero, List.getElem?_cons_succ, List.set_cons_zero, List.set_cons_succ, List.cons_append, List.nil_append, List.replicate_succ, List.replicate_zero, List.map_cons, List.map_nil, List.take_succ_cons, List.take_zero, List.length_cons, List.length_nil, List.take, List.length_set, pk_d, pk_fr, pk_sl, stab_d, stab_fr, stab_sl, fz_d, fz_fr, fz_sl, toD_l, toD_i, toD_k, re_rf, re_ow, store_d, store_fr, store_sl, outV_d, outV_fr, outV_sl, items_l, items_t, items_s, rng_1, rng_2, dgT_t, setAll_0, setAll_s, putR_rf, madeQ_n, fAdd_i, fAdd_l, fSub_i, fMul_i, fDiv_i, fMod_i, fPow_i, fNeg_i, fCmp_i, fIn_l, fNotIn_l, fIx_l, fIx_t, fIx_s, fLen_l, fLen_t, fLen_s, fInt_i, fInt_b, fList_l, fList_t, fIsN_n, fNotN_n, isN_i, gAppend_1, gPop_c, fFld_i, fRev_l, pl_i, fIsi_i, fIsi_b, fIsi_n, fIsi_l, fIsi_t, List.length_map, anyI, pl_ints, if_false_t, Nat.reduceAdd]
          refine ⟨by decide, ?_, hN _ ⟨o7, rs ++ [(p, q, z)], .d (.int (0 + a)), .d (.int p), .d (.int q), d7, ha', ?_, ?_, ?_⟩⟩
          · have : (rowsD rs).length = rs.length := List.length_map ..
            rw [this]
            have : (60 : Nat) < sizeLine := by decide
            omega
          · simp
            omega
          · intro r hr
            rcases List.mem_append.mp hr with hr | hr
            · exact hg r hr
            · have e2 := List.mem_singleton.mp hr
              subst e2
              exact ⟨p1, p2, q1, q2, e, z1, z2⟩
          · unfold rowsD
            rw [List.map_append]
            rfl
      have g2 := fmod_lt (a := w + 1 + (0 + a)) (b := 1 + v) (by omega)
      by_cases c3 : 0 < e
      · rw [if_pos (decide_eq_true c3)]
        by_cases c4 : 0 + (a : Int) < 1 + v
        · rw [if_pos (decide_eq_true c4)]
          refine ⟨by omega, by decide, trivial, trivial, next_any d6 (by omega) (by omega) fun f o7 d7 f1 f2 => ?_⟩
          simp only [shut_eq, dSeq, dSet, dRet, dExpr, dIfS, dNil, dIf, dTst, dBin, dUn, dVar, dC, dAnd, dOr, dNot, dAndV, dOrV, dNotV, dChain, dANil, dACons, dLst, dTup, dFld, dAsg, dgN, dSetIx, dLM, hasL, atL, dSetF, dCall, dCallR, hasO, dMeth, dMake, run_eq, dEnd_nx, dEnd_rt, dEnd_ex, outS, dLc, dLcG, dLcR, dFor, dForG, dForR, wipeD, backD, dYes, fLt, fLe, fGt, fGe, fEq, fNe, fIn, fNotIn, eqv_int, at_0, at_1, at_2, at_3, ix_0, ix_1, ix_2, ix_3, List.getElem?_cons_zero, List.getElem?_cons_succ, List.set_cons_zero, List.set_cons_succ, List.cons_append, List.nil_append, List.replicate_succ, List.replicate_zero, List.map_cons, List.map_nil, List.take_succ_cons, List.take_zero, List.length_cons, List.length_nil, List.take, List.length_set, pk_d, pk_fr, pk_sl, stab_d, stab_fr, stab_sl, fz_d, fz_fr, fz_sl, toD_l, toD_i, toD_k, re_rf, re_ow, store_d, store_fr, store_sl, outV_d, outV_fr, outV_sl, items_l, items_t, items_s, rng_1, rng_2, dgT_t, setAll_0, setAll_s, putR_rf, madeQ_n, fAdd_i, fAdd_l, fSub_i, fMul_i, fDiv_i, fMod_i, fPow_i, fNeg_i, fCmp_i, fIn_l, fNotIn_l, fIx_l, fIx_t, fIx_s, fLen_l, fLen_t, fLen_s, fInt_i, fInt_b, fList_l, fList_t, fIsN_n, fNotN_n, isN_i, gAppend_1, gPop_c, fFld_i, fRev_l, pl_i, fIsi_i, fIsi_b, fIsi_n, fIsi_l, fIsi_t, List.length_map, anyI, pl_ints, if_false_t, Nat.reduceAdd]
          have g3 := fmod_lt (a := w + f) (b := 1 + v) (by omega)
          exact ⟨by omega, by decide, tail _ _ _ d7 g3.1 g3.2 g2.1 g2.2⟩
        · rw [if_neg (by simpa using c4)]
          exact tail _ _ _ d6 b1 b2 g1.1 g1.2
      · rw [if_neg (by simpa using c3)]
        exact tail _ _ _ d6 b1 b2 g1.1 g1.2
    · have := List.mem_range.mp hj
      omega
    · simp
      omega
  · rw [if_neg (by simpa using h)]
    exact fin o2 [] _ _ _ h4 (by simpa using hr) fun r hr => nomatch hr
/-! the law's own search -/
theorem leads_any {A : Cs} {many root : Int} {rs : List Road} {Q : DV → List SV → Prop} {E : DExc → List SV → Prop} (hl : rs.length ≤ 1000)
    (k : ∀ fs : List Int, fs.Nodup → (∀ x, x ∈ fs ↔ Rch rs root x) → Q (.fr (.l (fs.map .int))) [.un, .un, .un]) : run_law_leads A [.d (.int many), .d (.int root), .d (.lst (rowsD rs))] Q E := by
  unfold run_law_leads b_law_leads
  simp only [shut_eq, dSeq, dSet, dRet, dExpr, dIfS, dNil, dIf, dTst, dBin, dUn, dVar, dC, dAnd, dOr, dNot, dAndV, dOrV, dNotV, dChain, dANil, dACons, dLst, dTup, dFld, dAsg, dgN, dSetIx, dLM, hasL, atL, dSetF, dCall, dCallR, hasO, dMeth, dMake, run_eq, dEnd_nx, dEnd_rt, dEnd_ex, outS, dLc, dLcG, dLcR, dFor, dForG, dForR, wipeD, backD, dYes, fLt, fLe, fGt, fGe, fEq, fNe, fIn, fNotIn, eqv_int, at_0, at_1, at_2, at_3, ix_0, ix_1, ix_2, ix_3, List.getElem?_cons_zero, List.getElem?_cons_succ, List.set_cons_zero, List.set_cons_succ, List.cons_append, List.nil_append, List.replicate_succ, List.replicate_zero, List.map_cons, List.map_nil, List.take_succ_cons, List.take_zero, List.length_cons, List.length_nil, List.take, List.length_set, pk_d, pk_fr, pk_sl, stab_d, stab_fr, stab_sl, fz_d, fz_fr, fz_sl, toD_l, toD_i, toD_k, re_rf, re_ow, store_d, store_fr, store_sl, outV_d, outV_fr, outV_sl, items_l, items_t, items_s, rng_1, rng_2, dgT_t, setAll_0, setAll_s, putR_rf, madeQ_n, fAdd_i, fAdd_l, fSub_i, fMul_i, fDiv_i, fMod_i, fPow_i, fNeg_i, fCmp_i, fIn_l, fNotIn_l, fIx_l, fIx_t, fIx_s, fLen_l, fLen_t, fLen_s, fInt_i, fInt_b, fList_l, fList_t, fIsN_n, fNotN_n, isN_i, gAppend_1, gPop_c, fFld_i, fRev_l, pl_i, fIsi_i, fIsi_b, fIsi_n, fIsi_l, fIsi_t, List.length_map, anyI, pl_ints, if_false_t, Nat.reduceAdd]
  refine ⟨by decide, by decide, by decide, rs.length + 3, whN_ind (fun n ρ => ∃ (fs : List Int) (k : Nat) (x5 x6 x7 : SV), LeadInv rs root fs k ∧ rs.length + 2 < n + k ∧
    ρ = [.d (.int many), .d (.int root), .d (.lst (rowsD rs)), .ow (.l (fs.map .int)), .d (.int k), x5, x6, x7]) ?_ ?_ _ _ ⟨[root], 0, _, _, _, .start, by omega, rfl⟩⟩
  · rintro ρ ⟨fs, j, x5, x6, x7, I, hn, rfl⟩
    have := LeadInv.bound I.nd I.rch
    have := I.le
    omega
  · rintro n ρ N ⟨fs, j, x5, x6, x7, I, hn, rfl⟩ hN
    have hb := LeadInv.bound I.nd I.rch
    simp only [shut_eq, dSeq, dSet, dRet, dExpr, dIfS, dNil, dIf, dTst, dBin, dUn, dVar, dC, dAnd, dOr, dNot, dAndV, dOrV, dNotV, dChain, dANil, dACons, dLst, dTup, dFld, dAsg, dgN, dSetIx, dLM, hasL, atL, dSetF, dCall, dCallR, hasO, dMeth, dMake, run_eq, dEnd_nx, dEnd_rt, dEnd_ex, outS, dLc, dLcG, dLcR, dFor, dForG, dForR, wipeD, backD, dYes, fLt, fLe, fGt, fGe, fEq, fNe, fIn, fNotIn, eqv_int, at_0, at_1, at_2, at_3, ix_0, ix_1, ix_2, ix_3, List.getElem?_cons_zero, List.getElem?_cons_succ, List.set_cons_zero, List.set_cons_succ, List.cons_append, List.nil_append, List.replicate_succ, List.replicate_zero, List.map_cons, List.map_nil, List.take_succ_cons, List.take_zero, List.length_cons, List.length_nil, List.take, List.length_set, pk_d, pk_fr, pk_sl, stab_d, stab_fr, stab_sl, fz_d, fz_fr, fz_sl, toD_l, toD_i, toD_k, re_rf, re_ow, store_d, store_fr, store_sl, outV_d, outV_fr, outV_sl, items_l, items_t, items_s, rng_1, rng_2, dgT_t, setAll_0, setAll_s, putR_rf, madeQ_n, fAdd_i, fAdd_l, fSub_i, fMul_i, fDiv_i, fMod_i, fPow_i, fNeg_i, fCmp_i, fIn_l, fNotIn_l, fIx_l, fIx_t, fIx_s, fLen_l, fLen_t, fLen_s, fInt_i, fInt_b, fList_l, fList_t, fIsN_n, fNotN_n, isN_i, gAppend_1, gPop_c, fFld_i, fRev_l, pl_i, fIsi_i, fIsi_b, fIsi_n, fIsi_l, fIsi_t, List.length_map, anyI, pl_ints, if_false_t, Nat.reduceAdd]
    by_cases c : j < fs.length
    · rw [if_pos (decide_eq_true (by omega))]
      have hj : fs[j]? = some fs[j] := List.getElem?_eq_getElem c
      have I2 := I.next hj
      have hb2 := LeadInv.bound I2.nd I2.rch
      unfold l_law_leads_3
      simp only [shut_eq, dSeq, dSet, dRet, dExpr, dIfS, dNil, dIf, dTst, dBin, dUn, dVar, dC, dAnd, dOr, dNot, dAndV, dOrV, dNotV, dChain, dANil, dACons, dLst, dTup, dFld, dAsg, dgN, dSetIx, dLM, hasL, atL, dSetF, dCall, dCallR, hasO, dMeth, dMake, run_eq, dEnd_nx, dEnd_rt, dEnd_ex, outS, dLc, dLcG, dLcR, dFor, dForG, dForR, wipeD, backD, dYes, fLt, fLe, fGt, fGe, fEq, fNe, fIn, fNotIn, eqv_int, at_0, at_1, at_2, at_3, ix_0, ix_1, ix_2, ix_3, List.getElem?_cons_zero, List.getElem?_cons_succ, List.set_cons_zero, List.set_cons_succ, List.cons_append, List.nil_append, List.replicate_succ, List.replicate_zero, List.map_cons, List.map_nil, List.take_succ_cons, List.take_zero, List.length_cons, List.length_nil, List.take, List.length_set, pk_d, pk_fr, pk_sl, stab_d, stab_fr, stab_sl, fz_d, fz_fr, fz_sl, toD_l, toD_i, toD_k, re_rf, re_ow, store_d, store_fr, store_sl, outV_d, outV_fr, outV_sl, items_l, items_t, items_s, rng_1, rng_2, dgT_t, setAll_0, setAll_s, putR_rf, madeQ_n, fAdd_i, fAdd_l, fSub_i, fMul_i, fDiv_i, fMod_i, fPow_i, fNeg_i, fCmp_i, fIn_l, fNotIn_l, fIx_l, fIx_t, fIx_s, fLen_l, fLen_t, fLen_s, fInt_i, fInt_b, fList_l, fList_t, fIsN_n, fNotN_n, isN_i, gAppend_1, gPop_c, fFld_i, fRev_l, pl_i, fIsi_i, fIsi_b, fIsi_n, fIsi_l, fIsi_t, List.length_map, anyI, pl_ints, if_false_t, Nat.reduceAdd]
      refine forN_ind roadD (fun as ρ => ∃ (gs : List Int) (x5 x6 x7 : SV), gs.Nodup ∧ as.foldl (leadStep fs[j]) gs = rs.foldl (leadStep fs[j]) fs ∧ gs[j]? = some fs[j] ∧
        ρ = [.d (.int many), .d (.int root), .d (.lst (rowsD rs)), .ow (.l (gs.map .int)), .d (.int j), x5, x6, x7]) ?_ ?_ rs _ ⟨fs, _, _, _, I.nd, rfl, hj, rfl⟩
      · rintro ρ ⟨gs, y5, y6, y7, _, e, _, rfl⟩
        have e : gs = _ := e
        unfold r_law_leads_2
        simp only [shut_eq, dSeq, dSet, dRet, dExpr, dIfS, dNil, dIf, dTst, dBin, dUn, dVar, dC, dAnd, dOr, dNot, dAndV, dOrV, dNotV, dChain, dANil, dACons, dLst, dTup, dFld, dAsg, dgN, dSetIx, dLM, hasL, atL, dSetF, dCall, dCallR, hasO, dMeth, dMake, run_eq, dEnd_nx, dEnd_rt, dEnd_ex, outS, dLc, dLcG, dLcR, dFor, dForG, dForR, wipeD, backD, dYes, fLt, fLe, fGt, fGe, fEq, fNe, fIn, fNotIn, eqv_int, at_0, at_1, at_2, at_3, ix_0, ix_1, ix_2, ix_3, List.getElem?_cons_zero, List.getElem?_cons_succ, List.set_cons_zero, List.set_cons_succ, List.cons_append, List.nil_append, List.replicate_succ, List.replicate_zero, List.map_cons, List.map_nil, List.take_succ_cons, List.take_zero, List.length_cons, List.length_nil, List.take, List.length_set, pk_d, pk_fr, pk_sl, stab_d, stab_fr, stab_sl, fz_d, fz_fr, fz_sl, toD_l, toD_i, toD_k, re_rf, re_ow, store_d, store_fr, store_sl, outV_d, outV_fr, outV_sl, items_l, items_t, items_s, rng_1, rng_2, dgT_t, setAll_0, setAll_s, putR_rf, madeQ_n, fAdd_i, fAdd_l, fSub_i, fMul_i, fDiv_i, fMod_i, fPow_i, fNeg_i, fCmp_i, fIn_l, fNotIn_l, fIx_l, fIx_t, fIx_s, fLen_l, fLen_t, fLen_s, fInt_i, fInt_b, fList_l, fList_t, fIsN_n, fNotN_n, isN_i, gAppend_1, gPop_c, fFld_i, fRev_l, pl_i, fIsi_i, fIsi_b, fIsi_n, fIsi_l, fIsi_t, List.length_map, anyI, pl_ints, if_false_t, Nat.reduceAdd]
        refine ⟨by decide, hN _ ⟨gs, j + 1, y5, y6, y7, e ▸ I2, by omega, ?_⟩⟩
        rfl
      · rintro r as ρ N2 ⟨gs, y5, y6, y7, nd, e, hg, rfl⟩ hN2
        obtain ⟨_, ⟨t, e2⟩, _, _⟩ := lead_facts fs[j] (r :: as) gs nd
        have hlen : gs.length ≤ rs.length + 1 := by
          rw [← e, e2, List.length_append] at hb2
          omega
        have hq : L2.atI (gs.map D.int) (j : Int) = some (.int fs[j]) := by
          rw [at_nat, List.getElem?_map, hg]
          rfl
        unfold l_law_leads_1
        simp only [roadD, shut_eq, dSeq, dSet, dRet, dExpr, dIfS, dNil, dIf, dTst, dBin, dUn, dVar, dC, dAnd, dOr, dNot, dAndV, dOrV, dNotV, dChain, dANil, dACons, dLst, dTup, dFld, dAsg, dgN, dSetIx, dLM, hasL, atL, dSetF, dCall, dCallR, hasO, dMeth, dMake, run_eq, dEnd_nx, dEnd_rt, dEnd_ex, outS, dLc, dLcG, dLcR, dFor, dForG, dForR, wipeD, backD, dYes, fLt, fLe, fGt, fGe, fEq, fNe, fIn, fNotIn, eqv_int, at_0, at_1, at_2, at_3, ix_0, ix_1, ix_2, ix_3, List.getElem?_cons_zero, List.getElem?_cons_succ, List.set_cons_zero, List.set_cons_succ, List.cons_append, List.nil_append, List.replicate_succ, List.replicate_zero, List.map_cons, List.map_nil, List.take_succ_cons, List.take_zero, List.length_cons, List.length_nil, List.take, List.length_set, pk_d, pk_fr, pk_sl, stab_d, stab_fr, stab_sl, fz_d, fz_fr, fz_sl, toD_l, toD_i, toD_k, re_rf, re_ow, store_d, store_fr, store_sl, outV_d, outV_fr, outV_sl, items_l, items_t, items_s, rng_1, rng_2, dgT_t, setAll_0, setAll_s, putR_rf, madeQ_n, fAdd_i, fAdd_l, fSub_i, fMul_i, fDiv_i, fMod_i, fPow_i, fNeg_i, fCmp_i, fIn_l, fNotIn_l, fIx_l, fIx_t, fIx_s, fLen_l, fLen_t, fLen_s, fInt_i, fInt_b, fList_l, fList_t, fIsN_n, fNotN_n, isN_i, gAppend_1, gPop_c, fFld_i, fRev_l, pl_i, fIsi_i, fIsi_b, fIsi_n, fIsi_l, fIsi_t, List.length_map, anyI, pl_ints, if_false_t, Nat.reduceAdd, hq]
        refine ⟨by decide, by decide, by decide, trivial, trivial, ?_⟩
        by_cases c1 : r.1 = fs[j]
        · rw [if_pos (decide_eq_true c1)]
          refine ⟨trivial, trivial, ?_⟩
          by_cases c2 : r.2.1 ∈ gs
          · rw [if_neg (by simpa using c2)]
            refine hN2 _ ⟨gs, _, _, _, nd, ?_, hg, rfl⟩
            rw [← e, List.foldl_cons, show leadStep fs[j] gs r = gs from if_neg fun z => z.2 c2]
          · rw [if_pos (by simpa using c2)]
            have e3 : leadStep fs[j] gs r = gs ++ [r.2.1] := if_pos ⟨c1, c2⟩
            refine ⟨trivial, ?_, hN2 _ ⟨gs ++ [r.2.1], .d (.int r.1), .d (.int r.2.1), .d (.int r.2.2), ?_, ?_, ?_, ?_⟩⟩
            · have : (1001 : Nat) < sizeLine := by decide
              omega
            · obtain ⟨h1, _⟩ := lead_facts fs[j] [r] gs nd
              rw [List.foldl_cons, List.foldl_nil, e3] at h1
              exact h1
            · rw [← e, List.foldl_cons, e3]
            · rw [List.getElem?_append_left (List.getElem?_eq_some_iff.mp hg).1]
              exact hg
            · rw [List.map_append]
              rfl
        · rw [if_neg (by simpa using c1)]
          refine hN2 _ ⟨gs, _, _, _, nd, ?_, hg, rfl⟩
          rw [← e, List.foldl_cons, show leadStep fs[j] gs r = gs from if_neg fun z => c1 z.1]
    · rw [if_neg (by simp; omega)]
      have e : j = fs.length := by
        have := I.le
        omega
      subst e
      unfold r_law_leads_4
      simp only [shut_eq, dSeq, dSet, dRet, dExpr, dIfS, dNil, dIf, dTst, dBin, dUn, dVar, dC, dAnd, dOr, dNot, dAndV, dOrV, dNotV, dChain, dANil, dACons, dLst, dTup, dFld, dAsg, dgN, dSetIx, dLM, hasL, atL, dSetF, dCall, dCallR, hasO, dMeth, dMake, run_eq, dEnd_nx, dEnd_rt, dEnd_ex, outS, dLc, dLcG, dLcR, dFor, dForG, dForR, wipeD, backD, dYes, fLt, fLe, fGt, fGe, fEq, fNe, fIn, fNotIn, eqv_int, at_0, at_1, at_2, at_3, ix_0, ix_1, ix_2, ix_3, List.getElem?_cons_zero, List.getElem?_cons_succ, List.set_cons_zero, List.set_cons_succ, List.cons_append, List.nil_append, List.replicate_succ, List.replicate_zero, List.map_cons, List.map_nil, List.take_succ_cons, List.take_zero, List.length_cons, List.length_nil, List.take, List.length_set, pk_d, pk_fr, pk_sl, stab_d, stab_fr, stab_sl, fz_d, fz_fr, fz_sl, toD_l, toD_i, toD_k, re_rf, re_ow, store_d, store_fr, store_sl, outV_d, outV_fr, outV_sl, items_l, items_t, items_s, rng_1, rng_2, dgT_t, setAll_0, setAll_s, putR_rf, madeQ_n, fAdd_i, fAdd_l, fSub_i, fMul_i, fDiv_i, fMod_i, fPow_i, fNeg_i, fCmp_i, fIn_l, fNotIn_l, fIx_l, fIx_t, fIx_s, fLen_l, fLen_t, fLen_s, fInt_i, fInt_b, fList_l, fList_t, fIsN_n, fNotN_n, isN_i, gAppend_1, gPop_c, fFld_i, fRev_l, pl_i, fIsi_i, fIsi_b, fIsi_n, fIsi_l, fIsi_t, List.length_map, anyI, pl_ints, if_false_t, Nat.reduceAdd]
      exact k fs I.nd I.done
end Lk02
namespace Lk02
open PySem L2 DW
/-! the program's search -/
theorem come_any {A : Cs} {many root : Int} {rs : List Road} {Q : DV → List SV → Prop} {E : DExc → List SV → Prop} (hl : rs.length ≤ 1000)
    (k : ∀ fs : List Int, fs.Nodup → (∀ x, x ∈ fs ↔ Rch rs root x) → Q (.fr (.l ((sortI fs).map .int))) [.un, .un, .un]) : run_come_to A [.d (.int many), .d (.int root), .d (.lst (rowsD rs))] Q E := by
  unfold run_come_to b_come_to
  simp only [shut_eq, dSeq, dSet, dRet, dExpr, dIfS, dNil, dIf, dTst, dBin, dUn, dVar, dC, dAnd, dOr, dNot, dAndV, dOrV, dNotV, dChain, dANil, dACons, dLst, dTup, dFld, dAsg, dgN, dSetIx, dLM, hasL, atL, dSetF, dCall, dCallR, hasO, dMeth, dMake, run_eq, dEnd_nx, dEnd_rt, dEnd_ex, outS, dLc, dLcG, dLcR, dFor, dForG, dForR, wipeD, backD, dYes, fLt, fLe, fGt, fGe, fEq, fNe, fIn, fNotIn, eqv_int, at_0, at_1, at_2, at_3, ix_0, ix_1, ix_2, ix_3, List.getElem?_cons_zero, List.getElem?_cons_succ, List.set_cons_zero, List.set_cons_succ, List.cons_append, List.nil_append, List.replicate_succ, List.replicate_zero, List.map_cons, List.map_nil, List.take_succ_cons, List.take_zero, List.length_cons, List.length_nil, List.take, List.length_set, pk_d, pk_fr, pk_sl, stab_d, stab_fr, stab_sl, fz_d, fz_fr, fz_sl, toD_l, toD_i, toD_k, re_rf, re_ow, store_d, store_fr, store_sl, outV_d, outV_fr, outV_sl, items_l, items_t, items_s, rng_1, rng_2, dgT_t, setAll_0, setAll_s, putR_rf, madeQ_n, fAdd_i, fAdd_l, fSub_i, fMul_i, fDiv_i, fMod_i, fPow_i, fNeg_i, fCmp_i, fIn_l, fNotIn_l, fIx_l, fIx_t, fIx_s, fLen_l, fLen_t, fLen_s, fInt_i, fInt_b, fList_l, fList_t, fIsN_n, fNotN_n, isN_i, gAppend_1, gPop_c, fFld_i, fRev_l, pl_i, fIsi_i, fIsi_b, fIsi_n, fIsi_l, fIsi_t, List.length_map, anyI, pl_ints, if_false_t, Nat.reduceAdd]
  refine ⟨by decide, by decide, by decide, by decide, 2 * (rs.length + 2), whN_ind (fun n ρ => ∃ (fs ws : List Int) (x5 x6 : SV), ComeInv rs root fs ws ∧ ws.length ≤ fs.length ∧ 2 * (rs.length + 1 - fs.length) + ws.length < n ∧
    ρ = [.d (.int many), .d (.int root), .d (.lst (rowsD rs)), .ow (.l (fs.map .int)), .ow (.l (ws.map .int)), x5, x6]) ?_ ?_ _ _ ⟨[root], [root], _, _, .start, Nat.le_refl _, by simp; omega, rfl⟩⟩
  · rintro ρ ⟨fs, ws, x5, x6, I, _, hn, rfl⟩
    omega
  · rintro n ρ N ⟨fs, ws, x5, x6, I, hwl, hn, rfl⟩ hN
    have hb := LeadInv.bound I.nd I.rch
    have hz : (2000 : Nat) < sizeLine := by decide
    simp only [shut_eq, dSeq, dSet, dRet, dExpr, dIfS, dNil, dIf, dTst, dBin, dUn, dVar, dC, dAnd, dOr, dNot, dAndV, dOrV, dNotV, dChain, dANil, dACons, dLst, dTup, dFld, dAsg, dgN, dSetIx, dLM, hasL, atL, dSetF, dCall, dCallR, hasO, dMeth, dMake, run_eq, dEnd_nx, dEnd_rt, dEnd_ex, outS, dLc, dLcG, dLcR, dFor, dForG, dForR, wipeD, backD, dYes, fLt, fLe, fGt, fGe, fEq, fNe, fIn, fNotIn, eqv_int, at_0, at_1, at_2, at_3, ix_0, ix_1, ix_2, ix_3, List.getElem?_cons_zero, List.getElem?_cons_succ, List.set_cons_zero, List.set_cons_succ, List.cons_append, List.nil_append, List.replicate_succ, List.replicate_zero, List.map_cons, List.map_nil, List.take_succ_cons, List.take_zero, List.length_cons, List.length_nil, List.take, List.length_set, pk_d, pk_fr, pk_sl, stab_d, stab_fr, stab_sl, fz_d, fz_fr, fz_sl, toD_l, toD_i, toD_k, re_rf, re_ow, store_d, store_fr, store_sl, outV_d, outV_fr, outV_sl, items_l, items_t, items_s, rng_1, rng_2, dgT_t, setAll_0, setAll_s, putR_rf, madeQ_n, fAdd_i, fAdd_l, fSub_i, fMul_i, fDiv_i, fMod_i, fPow_i, fNeg_i, fCmp_i, fIn_l, fNotIn_l, fIx_l, fIx_t, fIx_s, fLen_l, fLen_t, fLen_s, fInt_i, fInt_b, fList_l, fList_t, fIsN_n, fNotN_n, isN_i, gAppend_1, gPop_c, fFld_i, fRev_l, pl_i, fIsi_i, fIsi_b, fIsi_n, fIsi_l, fIsi_t, List.length_map, anyI, pl_ints, if_false_t, Nat.reduceAdd, eqv_nilD]
    refine ⟨by decide, trivial, rfl, ?_⟩
    rcases List.eq_nil_or_concat ws with rfl | ⟨ws', c, e0⟩
    · rw [if_neg (by decide)]
      unfold r_come_to_3
      simp only [shut_eq, dSeq, dSet, dRet, dExpr, dIfS, dNil, dIf, dTst, dBin, dUn, dVar, dC, dAnd, dOr, dNot, dAndV, dOrV, dNotV, dChain, dANil, dACons, dLst, dTup, dFld, dAsg, dgN, dSetIx, dLM, hasL, atL, dSetF, dCall, dCallR, hasO, dMeth, dMake, run_eq, dEnd_nx, dEnd_rt, dEnd_ex, outS, dLc, dLcG, dLcR, dFor, dForG, dForR, wipeD, backD, dYes, fLt, fLe, fGt, fGe, fEq, fNe, fIn, fNotIn, eqv_int, at_0, at_1, at_2, at_3, ix_0, ix_1, ix_2, ix_3, List.getElem?_cons_zero, List.getElem?_cons_succ, List.set_cons_zero, List.set_cons_succ, List.cons_append, List.nil_append, List.replicate_succ, List.replicate_zero, List.map_cons, List.map_nil, List.take_succ_cons, List.take_zero, List.length_cons, List.length_nil, List.take, List.length_set, pk_d, pk_fr, pk_sl, stab_d, stab_fr, stab_sl, fz_d, fz_fr, fz_sl, toD_l, toD_i, toD_k, re_rf, re_ow, store_d, store_fr, store_sl, outV_d, outV_fr, outV_sl, items_l, items_t, items_s, rng_1, rng_2, dgT_t, setAll_0, setAll_s, putR_rf, madeQ_n, fAdd_i, fAdd_l, fSub_i, fMul_i, fDiv_i, fMod_i, fPow_i, fNeg_i, fCmp_i, fIn_l, fNotIn_l, fIx_l, fIx_t, fIx_s, fLen_l, fLen_t, fLen_s, fInt_i, fInt_b, fList_l, fList_t, fIsN_n, fNotN_n, isN_i, gAppend_1, gPop_c, fFld_i, fRev_l, pl_i, fIsi_i, fIsi_b, fIsi_n, fIsi_l, fIsi_t, List.length_map, anyI, pl_ints, if_false_t, Nat.reduceAdd]
      refine fSorted_ints (by omega) ?_
      simp only [shut_eq, dSeq, dSet, dRet, dExpr, dIfS, dNil, dIf, dTst, dBin, dUn, dVar, dC, dAnd, dOr, dNot, dAndV, dOrV, dNotV, dChain, dANil, dACons, dLst, dTup, dFld, dAsg, dgN, dSetIx, dLM, hasL, atL, dSetF, dCall, dCallR, hasO, dMeth, dMake, run_eq, dEnd_nx, dEnd_rt, dEnd_ex, outS, dLc, dLcG, dLcR, dFor, dForG, dForR, wipeD, backD, dYes, fLt, fLe, fGt, fGe, fEq, fNe, fIn, fNotIn, eqv_int, at_0, at_1, at_2, at_3, ix_0, ix_1, ix_2, ix_3, List.getElem?_cons_zero, List.getElem?_cons_succ, List.set_cons_zero, List.set_cons_succ, List.cons_append, List.nil_append, List.replicate_succ, List.replicate_zero, List.map_cons, List.map_nil, List.take_succ_cons, List.take_zero, List.length_cons, List.length_nil, List.take, List.length_set, pk_d, pk_fr, pk_sl, stab_d, stab_fr, stab_sl, fz_d, fz_fr, fz_sl, toD_l, toD_i, toD_k, re_rf, re_ow, store_d, store_fr, store_sl, outV_d, outV_fr, outV_sl, items_l, items_t, items_s, rng_1, rng_2, dgT_t, setAll_0, setAll_s, putR_rf, madeQ_n, fAdd_i, fAdd_l, fSub_i, fMul_i, fDiv_i, fMod_i, fPow_i, fNeg_i, fCmp_i, fIn_l, fNotIn_l, fIx_l, fIx_t, fIx_s, fLen_l, fLen_t, fLen_s, fInt_i, fInt_b, fList_l, fList_t, fIsN_n, fNotN_n, isN_i, gAppend_1, gPop_c, fFld_i, fRev_l, pl_i, fIsi_i, fIsi_b, fIsi_n, fIsi_l, fIsi_t, List.length_map, anyI, pl_ints, if_false_t, Nat.reduceAdd]
      exact k fs I.nd I.done
    · rw [List.concat_eq_append] at e0
      subst e0
      rw [if_pos (by simp)]
      obtain ⟨T, eT, I2⟩ := I.next
      have hb2 := LeadInv.bound I2.nd I2.rch
      simp only [List.length_append, List.length_singleton] at hwl hn hb2
      unfold l_come_to_2
      simp only [List.map_append, shut_eq, dSeq, dSet, dRet, dExpr, dIfS, dNil, dIf, dTst, dBin, dUn, dVar, dC, dAnd, dOr, dNot, dAndV, dOrV, dNotV, dChain, dANil, dACons, dLst, dTup, dFld, dAsg, dgN, dSetIx, dLM, hasL, atL, dSetF, dCall, dCallR, hasO, dMeth, dMake, run_eq, dEnd_nx, dEnd_rt, dEnd_ex, outS, dLc, dLcG, dLcR, dFor, dForG, dForR, wipeD, backD, dYes, fLt, fLe, fGt, fGe, fEq, fNe, fIn, fNotIn, eqv_int, at_0, at_1, at_2, at_3, ix_0, ix_1, ix_2, ix_3, List.getElem?_cons_zero, List.getElem?_cons_succ, List.set_cons_zero, List.set_cons_succ, List.cons_append, List.nil_append, List.replicate_succ, List.replicate_zero, List.map_cons, List.map_nil, List.take_succ_cons, List.take_zero, List.length_cons, List.length_nil, List.take, List.length_set, pk_d, pk_fr, pk_sl, stab_d, stab_fr, stab_sl, fz_d, fz_fr, fz_sl, toD_l, toD_i, toD_k, re_rf, re_ow, store_d, store_fr, store_sl, outV_d, outV_fr, outV_sl, items_l, items_t, items_s, rng_1, rng_2, dgT_t, setAll_0, setAll_s, putR_rf, madeQ_n, fAdd_i, fAdd_l, fSub_i, fMul_i, fDiv_i, fMod_i, fPow_i, fNeg_i, fCmp_i, fIn_l, fNotIn_l, fIx_l, fIx_t, fIx_s, fLen_l, fLen_t, fLen_s, fInt_i, fInt_b, fList_l, fList_t, fIsN_n, fNotN_n, isN_i, gAppend_1, gPop_c, fFld_i, fRev_l, pl_i, fIsi_i, fIsi_b, fIsi_n, fIsi_l, fIsi_t, List.length_map, anyI, pl_ints, if_false_t, Nat.reduceAdd]
      refine ⟨trivial, by decide, ?_⟩
      refine forN_ind roadD (fun as ρ => ∃ (gs vs : List Int) (x6 : SV), as.foldl (comeStep c) (gs, vs) = rs.foldl (comeStep c) (fs, ws') ∧
        ρ = [.d (.int many), .d (.int root), .d (.lst (rowsD rs)), .ow (.l (gs.map .int)), .ow (.l (vs.map .int)), .d (.int c), x6]) ?_ ?_ rs _ ⟨fs, ws', _, rfl, rfl⟩
      · rintro ρ ⟨gs, vs, y6, e, rfl⟩
        have e : (gs, vs) = _ := e
        rw [eT] at e
        cases e
        exact hN _ ⟨_, _, _, _, I2, by simp; omega, by simp; omega, rfl⟩
      · rintro r as ρ N2 ⟨gs, vs, y6, e, rfl⟩ hN2
        obtain ⟨t, e1, _⟩ := come_lead c (r :: as) gs vs
        have e2 := e1.symm.trans (e.trans eT)
        have l1 := congrArg (fun p => p.1.length) e2
        have l2 := congrArg (fun p => p.2.length) e2
        simp only [List.length_append] at l1 l2
        have l3 : gs.length < sizeLine := by omega
        have l4 : vs.length < sizeLine := by omega
        unfold l_come_to_1
        simp only [roadD, shut_eq, dSeq, dSet, dRet, dExpr, dIfS, dNil, dIf, dTst, dBin, dUn, dVar, dC, dAnd, dOr, dNot, dAndV, dOrV, dNotV, dChain, dANil, dACons, dLst, dTup, dFld, dAsg, dgN, dSetIx, dLM, hasL, atL, dSetF, dCall, dCallR, hasO, dMeth, dMake, run_eq, dEnd_nx, dEnd_rt, dEnd_ex, outS, dLc, dLcG, dLcR, dFor, dForG, dForR, wipeD, backD, dYes, fLt, fLe, fGt, fGe, fEq, fNe, fIn, fNotIn, eqv_int, at_0, at_1, at_2, at_3, ix_0, ix_1, ix_2, ix_3, List.getElem?_cons_zero, List.getElem?_cons_succ, List.set_cons_zero, List.set_cons_succ, List.cons_append, List.nil_append, List.replicate_succ, List.replicate_zero, List.map_cons, List.map_nil, List.take_succ_cons, List.take_zero, List.length_cons, List.length_nil, List.take, List.length_set, pk_d, pk_fr, pk_sl, stab_d, stab_fr, stab_sl, fz_d, fz_fr, fz_sl, toD_l, toD_i, toD_k, re_rf, re_ow, store_d, store_fr, store_sl, outV_d, outV_fr, outV_sl, items_l, items_t, items_s, rng_1, rng_2, dgT_t, setAll_0, setAll_s, putR_rf, madeQ_n, fAdd_i, fAdd_l, fSub_i, fMul_i, fDiv_i, fMod_i, fPow_i, fNeg_i, fCmp_i, fIn_l, fNotIn_l, fIx_l, fIx_t, fIx_s, fLen_l, fLen_t, fLen_s, fInt_i, fInt_b, fList_l, fList_t, fIsN_n, fNotN_n, isN_i, gAppend_1, gPop_c, fFld_i, fRev_l, pl_i, fIsi_i, fIsi_b, fIsi_n, fIsi_l, fIsi_t, List.length_map, anyI, pl_ints, if_false_t, Nat.reduceAdd]
        refine ⟨by decide, trivial, trivial, ?_⟩
        by_cases c1 : r.1 = c
        · rw [if_pos (decide_eq_true c1)]
          refine ⟨trivial, trivial, ?_⟩
          by_cases c2 : r.2.1 ∈ gs
          · rw [if_neg (by simpa using c2)]
            refine hN2 _ ⟨gs, vs, _, ?_, rfl⟩
            rw [← e, List.foldl_cons, show comeStep c (gs, vs) r = (gs, vs) from if_neg fun z => z.2 c2]
          · rw [if_pos (by simpa using c2)]
            have e3 : comeStep c (gs, vs) r = (gs ++ [r.2.1], vs ++ [r.2.1]) := if_pos ⟨c1, c2⟩
            refine ⟨trivial, l3, trivial, l4, hN2 _ ⟨gs ++ [r.2.1], vs ++ [r.2.1], .d (roadD r), ?_, ?_⟩⟩
            · rw [← e, List.foldl_cons, e3]
            · rw [List.map_append, List.map_append]
              rfl
        · rw [if_neg (by simpa using c1)]
          refine hN2 _ ⟨gs, vs, _, ?_, rfl⟩
          rw [← e, List.foldl_cons, show comeStep c (gs, vs) r = (gs, vs) from if_neg fun z => c1 z.1]
end Lk02
namespace Lk02
open PySem L2 DW
/-- a map's fields -/
def mapF (many root : Int) (rs : List Road) : List (Str × D) := putFD "rows" (.lst (rowsD rs)) (putFD "root" (.int root) (putFD "many" (.int many) []))
theorem sne1 : ¬ (("many" : Str) = "root") := by decide +kernel
theorem sne2 : ¬ (("many" : Str) = "rows") := by decide +kernel
theorem sne3 : ¬ (("root" : Str) = "rows") := by decide +kernel
theorem map_eq {many root : Int} {rs : List Road} : mapF many root rs = [(("many" : Str), D.int many), (("root" : Str), D.int root), (("rows" : Str), D.lst (rowsD rs))] := by
  unfold mapF
  simp only [putFD, sne1, sne2, sne3, if_false]
theorem map_rows {many root : Int} {rs : List Road} : (mapF many root rs).lookup ("rows" : Str) = some (.lst (rowsD rs)) := by
  rw [map_eq]
  rfl
theorem map_root {many root : Int} {rs : List Road} : (mapF many root rs).lookup ("root" : Str) = some (.int root) := by
  rw [map_eq]
  rfl
theorem map_many {many root : Int} {rs : List Road} : (mapF many root rs).lookup ("many" : Str) = some (.int many) := by
  rw [map_eq]
  rfl
theorem map_size {many root : Int} {rs : List Road} : (mapF many root rs).lookup ("size" : Str) = none := by
  rw [map_eq]
  rfl
theorem map_begin {many root : Int} {rs : List Road} : (mapF many root rs).lookup ("begin" : Str) = none := by
  rw [map_eq]
  rfl
theorem init_any {A : Cs} {many root : Int} {rs : List Road} {Q : DV → List SV → Prop} {E : DExc → List SV → Prop} (hl : rs.length ≤ 60) (h0 : 0 ≤ root) (h1 : root < many) (h2 : many ≤ 20) (hg : ∀ r, r ∈ rs → GoodRoad many r)
    (k : Q (.d .non) [.rf (.i A.Map (mapF many root rs)), .un, .un, .un]) : run_Map_init A [.rf (.i A.Map []), .d (.int many), .d (.int root), .d (.lst (rowsD rs))] Q E := by
  unfold run_Map_init b_Map_init r_Map_init_6 r_Map_init_5 r_Map_init_4
  have e1 : decide (1 ≤ many) = true := decide_eq_true (by omega)
  have e2 : decide (many ≤ 20) = true := decide_eq_true h2
  have e3 : decide (0 ≤ root) = true := decide_eq_true h0
  have e4 : decide (root < many) = true := decide_eq_true h1
  have e5 : decide (60 < ((rowsD rs).length : Int)) = false := decide_eq_false (by rw [show (rowsD rs).length = rs.length from List.length_map ..]; omega)
  simp only [shut_eq, dSeq, dSet, dRet, dExpr, dIfS, dNil, dIf, dTst, dBin, dUn, dVar, dC, dAnd, dOr, dNot, dAndV, dOrV, dNotV, dChain, dANil, dACons, dLst, dTup, dFld, dAsg, dgN, dSetIx, dLM, hasL, atL, dSetF, dCall, dCallR, hasO, dMeth, dMake, run_eq, dEnd_nx, dEnd_rt, dEnd_ex, outS, dLc, dLcG, dLcR, dFor, dForG, dForR, wipeD, backD, dYes, fLt, fLe, fGt, fGe, fEq, fNe, fIn, fNotIn, eqv_int, at_0, at_1, at_2, at_3, ix_0, ix_1, ix_2, ix_3, List.getElem?_cons_zero, List.getElem?_cons_succ, List.set_cons_zero, List.set_cons_succ, List.cons_append, List.nil_append, List.replicate_succ, List.replicate_zero, List.map_cons, List.map_nil, List.take_succ_cons, List.take_zero, List.length_cons, List.length_nil, List.take, List.length_set, pk_d, pk_fr, pk_sl, stab_d, stab_fr, stab_sl, fz_d, fz_fr, fz_sl, toD_l, toD_i, toD_k, re_rf, re_ow, store_d, store_fr, store_sl, outV_d, outV_fr, outV_sl, items_l, items_t, items_s, rng_1, rng_2, dgT_t, setAll_0, setAll_s, putR_rf, madeQ_n, fAdd_i, fAdd_l, fSub_i, fMul_i, fDiv_i, fMod_i, fPow_i, fNeg_i, fCmp_i, fIn_l, fNotIn_l, fIx_l, fIx_t, fIx_s, fLen_l, fLen_t, fLen_s, fInt_i, fInt_b, fList_l, fList_t, fIsN_n, fNotN_n, isN_i, gAppend_1, gPop_c, fFld_i, fRev_l, pl_i, fIsi_i, fIsi_b, fIsi_n, fIsi_l, fIsi_t, List.length_map, anyI, pl_ints, if_false_t, Nat.reduceAdd, e1, e2, e3, e4, e5, if_true, Bool.not_true]
  have er : (rowsD rs).length = rs.length := List.length_map ..
  refine ⟨trivial, by omega, by omega, ?_⟩
  refine forN_ind (fun i : Nat => D.int (0 + (i : Int))) (fun as ρ => (∀ j, j ∈ as → j < rs.length) ∧ ∃ x4 x5 x6 x7 : SV, ρ = [.rf (.i A.Map []), .d (.int many), .d (.int root), .d (.lst (rowsD rs)), x4, x5, x6, x7]) ?_ ?_ _ _ ⟨fun j hj => ?_, _, _, _, _, rfl⟩
  · rintro ρ ⟨_, x4, x5, x6, x7, rfl⟩
    unfold r_Map_init_3
    simp only [dSetF, DW.atI, shut_eq, dSeq, dSet, dRet, dExpr, dIfS, dNil, dIf, dTst, dBin, dUn, dVar, dC, dAnd, dOr, dNot, dAndV, dOrV, dNotV, dChain, dANil, dACons, dLst, dTup, dFld, dAsg, dgN, dSetIx, dLM, hasL, atL, dSetF, dCall, dCallR, hasO, dMeth, dMake, run_eq, dEnd_nx, dEnd_rt, dEnd_ex, outS, dLc, dLcG, dLcR, dFor, dForG, dForR, wipeD, backD, dYes, fLt, fLe, fGt, fGe, fEq, fNe, fIn, fNotIn, eqv_int, at_0, at_1, at_2, at_3, ix_0, ix_1, ix_2, ix_3, List.getElem?_cons_zero, List.getElem?_cons_succ, List.set_cons_zero, List.set_cons_succ, List.cons_append, List.nil_append, List.replicate_succ, List.replicate_zero, List.map_cons, List.map_nil, List.take_succ_cons, List.take_zero, List.length_cons, List.length_nil, List.take, List.length_set, pk_d, pk_fr, pk_sl, stab_d, stab_fr, stab_sl, fz_d, fz_fr, fz_sl, toD_l, toD_i, toD_k, re_rf, re_ow, store_d, store_fr, store_sl, outV_d, outV_fr, outV_sl, items_l, items_t, items_s, rng_1, rng_2, dgT_t, setAll_0, setAll_s, putR_rf, madeQ_n, fAdd_i, fAdd_l, fSub_i, fMul_i, fDiv_i, fMod_i, fPow_i, fNeg_i, fCmp_i, fIn_l, fNotIn_l, fIx_l, fIx_t, fIx_s, fLen_l, fLen_t, fLen_s, fInt_i, fInt_b, fList_l, fList_t, fIsN_n, fNotN_n, isN_i, gAppend_1, gPop_c, fFld_i, fRev_l, pl_i, fIsi_i, fIsi_b, fIsi_n, fIsi_l, fIsi_t, List.length_map, anyI, pl_ints, if_false_t, Nat.reduceAdd]
    exact ⟨trivial, by decide, trivial, by show 1 < 1000; decide, trivial, by simp only [putFD, sne1, if_false]; show 2 < 1000; decide, k⟩
  · rintro a as ρ N ⟨ha, x4, x5, x6, x7, rfl⟩ hN
    have hlt := ha a List.mem_cons_self
    have hr := hg rs[a] (List.getElem_mem hlt)
    have hq : L2.atI (rowsD rs) (0 + (a : Int)) = some (roadD rs[a]) := by
      unfold rowsD
      rw [Int.zero_add, at_nat, List.getElem?_map, List.getElem?_eq_getElem hlt]
      rfl
    obtain ⟨g1, g2, g3, g4, g5, g6, g7⟩ := hr
    have e1 : decide (0 ≤ rs[a].1) = true := decide_eq_true g1
    have e2 : decide (rs[a].1 < many) = true := decide_eq_true g2
    have e3 : decide (0 ≤ rs[a].2.1) = true := decide_eq_true g3
    have e4 : decide (rs[a].2.1 < many) = true := decide_eq_true g4
    have e5 : decide (rs[a].1 = rs[a].2.1) = false := decide_eq_false g5
    have e6 : decide (0 ≤ rs[a].2.2) = true := decide_eq_true g6
    have e7 : decide (rs[a].2.2 ≤ 1000000000) = true := decide_eq_true g7
    unfold l_Map_init_2 r_Map_init_1
    simp only [roadD, shut_eq, dSeq, dSet, dRet, dExpr, dIfS, dNil, dIf, dTst, dBin, dUn, dVar, dC, dAnd, dOr, dNot, dAndV, dOrV, dNotV, dChain, dANil, dACons, dLst, dTup, dFld, dAsg, dgN, dSetIx, dLM, hasL, atL, dSetF, dCall, dCallR, hasO, dMeth, dMake, run_eq, dEnd_nx, dEnd_rt, dEnd_ex, outS, dLc, dLcG, dLcR, dFor, dForG, dForR, wipeD, backD, dYes, fLt, fLe, fGt, fGe, fEq, fNe, fIn, fNotIn, eqv_int, at_0, at_1, at_2, at_3, ix_0, ix_1, ix_2, ix_3, List.getElem?_cons_zero, List.getElem?_cons_succ, List.set_cons_zero, List.set_cons_succ, List.cons_append, List.nil_append, List.replicate_succ, List.replicate_zero, List.map_cons, List.map_nil, List.take_succ_cons, List.take_zero, List.length_cons, List.length_nil, List.take, List.length_set, pk_d, pk_fr, pk_sl, stab_d, stab_fr, stab_sl, fz_d, fz_fr, fz_sl, toD_l, toD_i, toD_k, re_rf, re_ow, store_d, store_fr, store_sl, outV_d, outV_fr, outV_sl, items_l, items_t, items_s, rng_1, rng_2, dgT_t, setAll_0, setAll_s, putR_rf, madeQ_n, fAdd_i, fAdd_l, fSub_i, fMul_i, fDiv_i, fMod_i, fPow_i, fNeg_i, fCmp_i, fIn_l, fNotIn_l, fIx_l, fIx_t, fIx_s, fLen_l, fLen_t, fLen_s, fInt_i, fInt_b, fList_l, fList_t, fIsN_n, fNotN_n, isN_i, gAppend_1, gPop_c, fFld_i, fRev_l, pl_i, fIsi_i, fIsi_b, fIsi_n, fIsi_l, fIsi_t, List.length_map, anyI, pl_ints, if_false_t, Nat.reduceAdd, hq, e1, e2, e3, e4, e5, e6, e7, if_true, Bool.not_true]
    exact ⟨by decide, by decide, by decide, by decide, trivial, trivial, hN _ ⟨fun j hj => ha j (List.mem_cons_of_mem _ hj), _, _, _, _, rfl⟩⟩
  · have := List.mem_range.mp hj
    omega
theorem size_any {A : Cs} {many root : Int} {rs : List Road} {Q : DV → List SV → Prop} {E : DExc → List SV → Prop} (k : Q (.d (.int many)) [.un]) : run_Map_size A [.d (.ins A.Map (mapF many root rs))] Q E := by
  unfold run_Map_size b_Map_size
  simp only [shut_eq, dSeq, dSet, dRet, dExpr, dIfS, dNil, dIf, dTst, dBin, dUn, dVar, dC, dAnd, dOr, dNot, dAndV, dOrV, dNotV, dChain, dANil, dACons, dLst, dTup, dFld, dAsg, dgN, dSetIx, dLM, hasL, atL, dSetF, dCall, dCallR, hasO, dMeth, dMake, run_eq, dEnd_nx, dEnd_rt, dEnd_ex, outS, dLc, dLcG, dLcR, dFor, dForG, dForR, wipeD, backD, dYes, fLt, fLe, fGt, fGe, fEq, fNe, fIn, fNotIn, eqv_int, at_0, at_1, at_2, at_3, ix_0, ix_1, ix_2, ix_3, List.getElem?_cons_zero, List.getElem?_cons_succ, List.set_cons_zero, List.set_cons_succ, List.cons_append, List.nil_append, List.replicate_succ, List.replicate_zero, List.map_cons, List.map_nil, List.take_succ_cons, List.take_zero, List.length_cons, List.length_nil, List.take, List.length_set, pk_d, pk_fr, pk_sl, stab_d, stab_fr, stab_sl, fz_d, fz_fr, fz_sl, toD_l, toD_i, toD_k, re_rf, re_ow, store_d, store_fr, store_sl, outV_d, outV_fr, outV_sl, items_l, items_t, items_s, rng_1, rng_2, dgT_t, setAll_0, setAll_s, putR_rf, madeQ_n, fAdd_i, fAdd_l, fSub_i, fMul_i, fDiv_i, fMod_i, fPow_i, fNeg_i, fCmp_i, fIn_l, fNotIn_l, fIx_l, fIx_t, fIx_s, fLen_l, fLen_t, fLen_s, fInt_i, fInt_b, fList_l, fList_t, fIsN_n, fNotN_n, isN_i, gAppend_1, gPop_c, fFld_i, fRev_l, pl_i, fIsi_i, fIsi_b, fIsi_n, fIsi_l, fIsi_t, List.length_map, anyI, pl_ints, if_false_t, Nat.reduceAdd, map_many]
  exact ⟨trivial, k⟩
theorem begin_any {A : Cs} {many root : Int} {rs : List Road} {Q : DV → List SV → Prop} {E : DExc → List SV → Prop} (k : Q (.d (.int root)) [.un]) : run_Map_begin A [.d (.ins A.Map (mapF many root rs))] Q E := by
  unfold run_Map_begin b_Map_begin
  simp only [shut_eq, dSeq, dSet, dRet, dExpr, dIfS, dNil, dIf, dTst, dBin, dUn, dVar, dC, dAnd, dOr, dNot, dAndV, dOrV, dNotV, dChain, dANil, dACons, dLst, dTup, dFld, dAsg, dgN, dSetIx, dLM, hasL, atL, dSetF, dCall, dCallR, hasO, dMeth, dMake, run_eq, dEnd_nx, dEnd_rt, dEnd_ex, outS, dLc, dLcG, dLcR, dFor, dForG, dForR, wipeD, backD, dYes, fLt, fLe, fGt, fGe, fEq, fNe, fIn, fNotIn, eqv_int, at_0, at_1, at_2, at_3, ix_0, ix_1, ix_2, ix_3, List.getElem?_cons_zero, List.getElem?_cons_succ, List.set_cons_zero, List.set_cons_succ, List.cons_append, List.nil_append, List.replicate_succ, List.replicate_zero, List.map_cons, List.map_nil, List.take_succ_cons, List.take_zero, List.length_cons, List.length_nil, List.take, List.length_set, pk_d, pk_fr, pk_sl, stab_d, stab_fr, stab_sl, fz_d, fz_fr, fz_sl, toD_l, toD_i, toD_k, re_rf, re_ow, store_d, store_fr, store_sl, outV_d, outV_fr, outV_sl, items_l, items_t, items_s, rng_1, rng_2, dgT_t, setAll_0, setAll_s, putR_rf, madeQ_n, fAdd_i, fAdd_l, fSub_i, fMul_i, fDiv_i, fMod_i, fPow_i, fNeg_i, fCmp_i, fIn_l, fNotIn_l, fIx_l, fIx_t, fIx_s, fLen_l, fLen_t, fLen_s, fInt_i, fInt_b, fList_l, fList_t, fIsN_n, fNotN_n, isN_i, gAppend_1, gPop_c, fFld_i, fRev_l, pl_i, fIsi_i, fIsi_b, fIsi_n, fIsi_l, fIsi_t, List.length_map, anyI, pl_ints, if_false_t, Nat.reduceAdd, map_root]
  exact ⟨trivial, k⟩
/-- the roads of numbers -/
def pick (rs : List Road) (ns : List Int) : List Road := ns.map fun i => rs[i.toNat]?.getD (0, 0, 0)
theorem pick_at {rs : List Road} {i : Int} (h : 0 ≤ i ∧ i < rs.length) : L2.atI (rowsD rs) i = some (roadD (rs[i.toNat]?.getD (0, 0, 0))) := by
  obtain ⟨n, rfl⟩ := Int.eq_ofNat_of_zero_le h.1
  have hn : n < rs.length := by omega
  unfold rowsD
  rw [at_nat, List.getElem?_map, Int.toNat_natCast, List.getElem?_eq_getElem hn]
  rfl
theorem cost_of_any {A : Cs} {many root : Int} {rs : List Road} {ns : List Int} {Q : DV → List SV → Prop} {E : DExc → List SV → Prop} (hl : ns.length ≤ 1000) (hn : ∀ i, i ∈ ns → 0 ≤ i ∧ i < rs.length)
    (k : Q (.d (.int ((pick rs ns).map (·.2.2)).sum)) [.un, .un]) : run_cost_of A [.d (.ins A.Map (mapF many root rs)), .d (.lst (ns.map .int))] Q E := by
  unfold run_cost_of b_cost_of
  simp only [shut_eq, dSeq, dSet, dRet, dExpr, dIfS, dNil, dIf, dTst, dBin, dUn, dVar, dC, dAnd, dOr, dNot, dAndV, dOrV, dNotV, dChain, dANil, dACons, dLst, dTup, dFld, dAsg, dgN, dSetIx, dLM, hasL, atL, dSetF, dCall, dCallR, hasO, dMeth, dMake, run_eq, dEnd_nx, dEnd_rt, dEnd_ex, outS, dLc, dLcG, dLcR, dFor, dForG, dForR, wipeD, backD, dYes, fLt, fLe, fGt, fGe, fEq, fNe, fIn, fNotIn, eqv_int, at_0, at_1, at_2, at_3, ix_0, ix_1, ix_2, ix_3, List.getElem?_cons_zero, List.getElem?_cons_succ, List.set_cons_zero, List.set_cons_succ, List.cons_append, List.nil_append, List.replicate_succ, List.replicate_zero, List.map_cons, List.map_nil, List.take_succ_cons, List.take_zero, List.length_cons, List.length_nil, List.take, List.length_set, pk_d, pk_fr, pk_sl, stab_d, stab_fr, stab_sl, fz_d, fz_fr, fz_sl, toD_l, toD_i, toD_k, re_rf, re_ow, store_d, store_fr, store_sl, outV_d, outV_fr, outV_sl, items_l, items_t, items_s, rng_1, rng_2, dgT_t, setAll_0, setAll_s, putR_rf, madeQ_n, fAdd_i, fAdd_l, fSub_i, fMul_i, fDiv_i, fMod_i, fPow_i, fNeg_i, fCmp_i, fIn_l, fNotIn_l, fIx_l, fIx_t, fIx_s, fLen_l, fLen_t, fLen_s, fInt_i, fInt_b, fList_l, fList_t, fIsN_n, fNotN_n, isN_i, gAppend_1, gPop_c, fFld_i, fRev_l, pl_i, fIsi_i, fIsi_b, fIsi_n, fIsi_l, fIsi_t, List.length_map, anyI, pl_ints, if_false_t, Nat.reduceAdd]
  refine lcN_fm D.int (fun _ => true) (fun i => .int (rs[i.toNat]?.getD (0, 0, 0)).2.2) ns [] (fun a ha N M hN _ => ?_) (by simp; exact Nat.le_trans hl (by decide)) ?_
  · simp only [shut_eq, dSeq, dSet, dRet, dExpr, dIfS, dNil, dIf, dTst, dBin, dUn, dVar, dC, dAnd, dOr, dNot, dAndV, dOrV, dNotV, dChain, dANil, dACons, dLst, dTup, dFld, dAsg, dgN, dSetIx, dLM, hasL, atL, dSetF, dCall, dCallR, hasO, dMeth, dMake, run_eq, dEnd_nx, dEnd_rt, dEnd_ex, outS, dLc, dLcG, dLcR, dFor, dForG, dForR, wipeD, backD, dYes, fLt, fLe, fGt, fGe, fEq, fNe, fIn, fNotIn, eqv_int, at_0, at_1, at_2, at_3, ix_0, ix_1, ix_2, ix_3, List.getElem?_cons_zero, List.getElem?_cons_succ, List.set_cons_zero, List.set_cons_succ, List.cons_append, List.nil_append, List.replicate_succ, List.replicate_zero, List.map_cons, List.map_nil, List.take_succ_cons, List.take_zero, List.length_cons, List.length_nil, List.take, List.length_set, pk_d, pk_fr, pk_sl, stab_d, stab_fr, stab_sl, fz_d, fz_fr, fz_sl, toD_l, toD_i, toD_k, re_rf, re_ow, store_d, store_fr, store_sl, outV_d, outV_fr, outV_sl, items_l, items_t, items_s, rng_1, rng_2, dgT_t, setAll_0, setAll_s, putR_rf, madeQ_n, fAdd_i, fAdd_l, fSub_i, fMul_i, fDiv_i, fMod_i, fPow_i, fNeg_i, fCmp_i, fIn_l, fNotIn_l, fIx_l, fIx_t, fIx_s, fLen_l, fLen_t, fLen_s, fInt_i, fInt_b, fList_l, fList_t, fIsN_n, fNotN_n, isN_i, gAppend_1, gPop_c, fFld_i, fRev_l, pl_i, fIsi_i, fIsi_b, fIsi_n, fIsi_l, fIsi_t, List.length_map, anyI, pl_ints, if_false_t, Nat.reduceAdd, map_rows, pick_at (hn a ha), if_true, roadD]
    exact ⟨by decide, trivial, hN rfl⟩
  · have e : ([] : List D) ++ List.map (fun i => D.int (rs[i.toNat]?.getD (0, 0, 0)).2.2) (List.filter (fun _ => true) ns) = (((pick rs ns).map (·.2.2)).map D.int) := by
      rw [List.filter_eq_self.mpr fun _ _ => rfl]
      unfold pick
      simp
    rw [e, fSum_ints]
    simp only [shut_eq, dSeq, dSet, dRet, dExpr, dIfS, dNil, dIf, dTst, dBin, dUn, dVar, dC, dAnd, dOr, dNot, dAndV, dOrV, dNotV, dChain, dANil, dACons, dLst, dTup, dFld, dAsg, dgN, dSetIx, dLM, hasL, atL, dSetF, dCall, dCallR, hasO, dMeth, dMake, run_eq, dEnd_nx, dEnd_rt, dEnd_ex, outS, dLc, dLcG, dLcR, dFor, dForG, dForR, wipeD, backD, dYes, fLt, fLe, fGt, fGe, fEq, fNe, fIn, fNotIn, eqv_int, at_0, at_1, at_2, at_3, ix_0, ix_1, ix_2, ix_3, List.getElem?_cons_zero, List.getElem?_cons_succ, List.set_cons_zero, List.set_cons_succ, List.cons_append, List.nil_append, List.replicate_succ, List.replicate_zero, List.map_cons, List.map_nil, List.take_succ_cons, List.take_zero, List.length_cons, List.length_nil, List.take, List.length_set, pk_d, pk_fr, pk_sl, stab_d, stab_fr, stab_sl, fz_d, fz_fr, fz_sl, toD_l, toD_i, toD_k, re_rf, re_ow, store_d, store_fr, store_sl, outV_d, outV_fr, outV_sl, items_l, items_t, items_s, rng_1, rng_2, dgT_t, setAll_0, setAll_s, putR_rf, madeQ_n, fAdd_i, fAdd_l, fSub_i, fMul_i, fDiv_i, fMod_i, fPow_i, fNeg_i, fCmp_i, fIn_l, fNotIn_l, fIx_l, fIx_t, fIx_s, fLen_l, fLen_t, fLen_s, fInt_i, fInt_b, fList_l, fList_t, fIsN_n, fNotN_n, isN_i, gAppend_1, gPop_c, fFld_i, fRev_l, pl_i, fIsi_i, fIsi_b, fIsi_n, fIsi_l, fIsi_t, List.length_map, anyI, pl_ints, if_false_t]
    exact k
theorem rows_pick {A : Cs} {rs : List Road} {ns : List Int} : (pick rs ns).map roadD = ns.map fun i => roadD (rs[i.toNat]?.getD (0, 0, 0)) := by
  unfold pick
  simp
/-- whether numbers are a tree of a map -/
def IsTree (many root : Int) (rs : List Road) (ns : List Int) : Prop := ns.Nodup ∧ (ns.length : Int) = many - 1 ∧ (∀ i, i ∈ ns → 0 ≤ i ∧ i < rs.length) ∧ ∃ fs : List Int, fs.Nodup ∧ (∀ x, x ∈ fs ↔ Rch (pick rs ns) root x) ∧ (fs.length : Int) = many
theorem is_tree_any {A : Cs} {many root : Int} {rs : List Road} {ns : List Int} {Q : DV → List SV → Prop} {E : DExc → List SV → Prop} (hl : ns.length ≤ 1000)
    (k : ∀ b : Bool, (b = true ↔ IsTree many root rs ns) → Q (.d (.bl b)) [.un, .un]) : run_is_tree A [.d (.ins A.Map (mapF many root rs)), .d (.lst (ns.map .int))] Q E := by
  unfold run_is_tree b_is_tree
  simp only [fLenSet, intsD_map, shut_eq, dSeq, dSet, dRet, dExpr, dIfS, dNil, dIf, dTst, dBin, dUn, dVar, dC, dAnd, dOr, dNot, dAndV, dOrV, dNotV, dChain, dANil, dACons, dLst, dTup, dFld, dAsg, dgN, dSetIx, dLM, hasL, atL, dSetF, dCall, dCallR, hasO, dMeth, dMake, run_eq, dEnd_nx, dEnd_rt, dEnd_ex, outS, dLc, dLcG, dLcR, dFor, dForG, dForR, wipeD, backD, dYes, fLt, fLe, fGt, fGe, fEq, fNe, fIn, fNotIn, eqv_int, at_0, at_1, at_2, at_3, ix_0, ix_1, ix_2, ix_3, List.getElem?_cons_zero, List.getElem?_cons_succ, List.set_cons_zero, List.set_cons_succ, List.cons_append, List.nil_append, List.replicate_succ, List.replicate_zero, List.map_cons, List.map_nil, List.take_succ_cons, List.take_zero, List.length_cons, List.length_nil, List.take, List.length_set, pk_d, pk_fr, pk_sl, stab_d, stab_fr, stab_sl, fz_d, fz_fr, fz_sl, toD_l, toD_i, toD_k, re_rf, re_ow, store_d, store_fr, store_sl, outV_d, outV_fr, outV_sl, items_l, items_t, items_s, rng_1, rng_2, dgT_t, setAll_0, setAll_s, putR_rf, madeQ_n, fAdd_i, fAdd_l, fSub_i, fMul_i, fDiv_i, fMod_i, fPow_i, fNeg_i, fCmp_i, fIn_l, fNotIn_l, fIx_l, fIx_t, fIx_s, fLen_l, fLen_t, fLen_s, fInt_i, fInt_b, fList_l, fList_t, fIsN_n, fNotN_n, isN_i, gAppend_1, gPop_c, fFld_i, fRev_l, pl_i, fIsi_i, fIsi_b, fIsi_n, fIsi_l, fIsi_t, List.length_map, anyI, pl_ints, if_false_t, Nat.reduceAdd]
  have no : ¬ IsTree many root rs ns → Q (.d (.bl false)) [.un, .un] := fun h => k false ⟨(fun z => nomatch z), fun z => absurd z h⟩
  refine ⟨by omega, trivial, trivial, ?_⟩
  by_cases c1 : ns.Nodup
  · rw [if_neg (by simp [dist_iff.mpr c1])]
    refine ⟨trivial, map_size, trivial, size_any ?_⟩
    simp only [shut_eq, dSeq, dSet, dRet, dExpr, dIfS, dNil, dIf, dTst, dBin, dUn, dVar, dC, dAnd, dOr, dNot, dAndV, dOrV, dNotV, dChain, dANil, dACons, dLst, dTup, dFld, dAsg, dgN, dSetIx, dLM, hasL, atL, dSetF, dCall, dCallR, hasO, dMeth, dMake, run_eq, dEnd_nx, dEnd_rt, dEnd_ex, outS, dLc, dLcG, dLcR, dFor, dForG, dForR, wipeD, backD, dYes, fLt, fLe, fGt, fGe, fEq, fNe, fIn, fNotIn, eqv_int, at_0, at_1, at_2, at_3, ix_0, ix_1, ix_2, ix_3, List.getElem?_cons_zero, List.getElem?_cons_succ, List.set_cons_zero, List.set_cons_succ, List.cons_append, List.nil_append, List.replicate_succ, List.replicate_zero, List.map_cons, List.map_nil, List.take_succ_cons, List.take_zero, List.length_cons, List.length_nil, List.take, List.length_set, pk_d, pk_fr, pk_sl, stab_d, stab_fr, stab_sl, fz_d, fz_fr, fz_sl, toD_l, toD_i, toD_k, re_rf, re_ow, store_d, store_fr, store_sl, outV_d, outV_fr, outV_sl, items_l, items_t, items_s, rng_1, rng_2, dgT_t, setAll_0, setAll_s, putR_rf, madeQ_n, fAdd_i, fAdd_l, fSub_i, fMul_i, fDiv_i, fMod_i, fPow_i, fNeg_i, fCmp_i, fIn_l, fNotIn_l, fIx_l, fIx_t, fIx_s, fLen_l, fLen_t, fLen_s, fInt_i, fInt_b, fList_l, fList_t, fIsN_n, fNotN_n, isN_i, gAppend_1, gPop_c, fFld_i, fRev_l, pl_i, fIsi_i, fIsi_b, fIsi_n, fIsi_l, fIsi_t, List.length_map, anyI, pl_ints, if_false_t, Nat.reduceAdd]
    refine ⟨trivial, trivial, ?_⟩
    by_cases c2 : (ns.length : Int) = many - 1
    · rw [if_neg (by simpa using c2)]
      unfold r_is_tree_2
      simp only [shut_eq, dSeq, dSet, dRet, dExpr, dIfS, dNil, dIf, dTst, dBin, dUn, dVar, dC, dAnd, dOr, dNot, dAndV, dOrV, dNotV, dChain, dANil, dACons, dLst, dTup, dFld, dAsg, dgN, dSetIx, dLM, hasL, atL, dSetF, dCall, dCallR, hasO, dMeth, dMake, run_eq, dEnd_nx, dEnd_rt, dEnd_ex, outS, dLc, dLcG, dLcR, dFor, dForG, dForR, wipeD, backD, dYes, fLt, fLe, fGt, fGe, fEq, fNe, fIn, fNotIn, eqv_int, at_0, at_1, at_2, at_3, ix_0, ix_1, ix_2, ix_3, List.getElem?_cons_zero, List.getElem?_cons_succ, List.set_cons_zero, List.set_cons_succ, List.cons_append, List.nil_append, List.replicate_succ, List.replicate_zero, List.map_cons, List.map_nil, List.take_succ_cons, List.take_zero, List.length_cons, List.length_nil, List.take, List.length_set, pk_d, pk_fr, pk_sl, stab_d, stab_fr, stab_sl, fz_d, fz_fr, fz_sl, toD_l, toD_i, toD_k, re_rf, re_ow, store_d, store_fr, store_sl, outV_d, outV_fr, outV_sl, items_l, items_t, items_s, rng_1, rng_2, dgT_t, setAll_0, setAll_s, putR_rf, madeQ_n, fAdd_i, fAdd_l, fSub_i, fMul_i, fDiv_i, fMod_i, fPow_i, fNeg_i, fCmp_i, fIn_l, fNotIn_l, fIx_l, fIx_t, fIx_s, fLen_l, fLen_t, fLen_s, fInt_i, fInt_b, fList_l, fList_t, fIsN_n, fNotN_n, isN_i, gAppend_1, gPop_c, fFld_i, fRev_l, pl_i, fIsi_i, fIsi_b, fIsi_n, fIsi_l, fIsi_t, List.length_map, anyI, pl_ints, if_false_t, Nat.reduceAdd]
      refine lcN_fm D.int (fun i => !(decide (0 ≤ i) && decide (i < rs.length))) D.int ns [] (fun a ha N M hN hM => ?_) (by simp; exact Nat.le_trans hl (by decide)) ?_
      · simp only [shut_eq, dSeq, dSet, dRet, dExpr, dIfS, dNil, dIf, dTst, dBin, dUn, dVar, dC, dAnd, dOr, dNot, dAndV, dOrV, dNotV, dChain, dANil, dACons, dLst, dTup, dFld, dAsg, dgN, dSetIx, dLM, hasL, atL, dSetF, dCall, dCallR, hasO, dMeth, dMake, run_eq, dEnd_nx, dEnd_rt, dEnd_ex, outS, dLc, dLcG, dLcR, dFor, dForG, dForR, wipeD, backD, dYes, fLt, fLe, fGt, fGe, fEq, fNe, fIn, fNotIn, eqv_int, at_0, at_1, at_2, at_3, ix_0, ix_1, ix_2, ix_3, List.getElem?_cons_zero, List.getElem?_cons_succ, List.set_cons_zero, List.set_cons_succ, List.cons_append, List.nil_append, List.replicate_succ, List.replicate_zero, List.map_cons, List.map_nil, List.take_succ_cons, List.take_zero, List.length_cons, List.length_nil, List.take, List.length_set, pk_d, pk_fr, pk_sl, stab_d, stab_fr, stab_sl, fz_d, fz_fr, fz_sl, toD_l, toD_i, toD_k, re_rf, re_ow, store_d, store_fr, store_sl, outV_d, outV_fr, outV_sl, items_l, items_t, items_s, rng_1, rng_2, dgT_t, setAll_0, setAll_s, putR_rf, madeQ_n, fAdd_i, fAdd_l, fSub_i, fMul_i, fDiv_i, fMod_i, fPow_i, fNeg_i, fCmp_i, fIn_l, fNotIn_l, fIx_l, fIx_t, fIx_s, fLen_l, fLen_t, fLen_s, fInt_i, fInt_b, fList_l, fList_t, fIsN_n, fNotN_n, isN_i, gAppend_1, gPop_c, fFld_i, fRev_l, pl_i, fIsi_i, fIsi_b, fIsi_n, fIsi_l, fIsi_t, List.length_map, anyI, pl_ints, if_false_t, Nat.reduceAdd, map_rows]
        have er : (rowsD rs).length = rs.length := List.length_map ..
        refine ⟨by decide, ?_⟩
        by_cases d1 : 0 ≤ a
        · rw [if_pos (decide_eq_true d1)]
          refine ⟨trivial, ?_⟩
          by_cases d2 : a < rs.length
          · rw [if_neg (by rw [er]; simp [d2])]
            exact hM (by simp [d1, d2])
          · rw [if_pos (by rw [er]; simpa using d2)]
            exact hN (by simp [d2])
        · rw [if_neg (by simpa using d1), if_pos (by decide)]
          exact hN (by simp [d1])
      · simp only [shut_eq, dSeq, dSet, dRet, dExpr, dIfS, dNil, dIf, dTst, dBin, dUn, dVar, dC, dAnd, dOr, dNot, dAndV, dOrV, dNotV, dChain, dANil, dACons, dLst, dTup, dFld, dAsg, dgN, dSetIx, dLM, hasL, atL, dSetF, dCall, dCallR, hasO, dMeth, dMake, run_eq, dEnd_nx, dEnd_rt, dEnd_ex, outS, dLc, dLcG, dLcR, dFor, dForG, dForR, wipeD, backD, dYes, fLt, fLe, fGt, fGe, fEq, fNe, fIn, fNotIn, eqv_int, at_0, at_1, at_2, at_3, ix_0, ix_1, ix_2, ix_3, List.getElem?_cons_zero, List.getElem?_cons_succ, List.set_cons_zero, List.set_cons_succ, List.cons_append, List.nil_append, List.replicate_succ, List.replicate_zero, List.map_cons, List.map_nil, List.take_succ_cons, List.take_zero, List.length_cons, List.length_nil, List.take, List.length_set, pk_d, pk_fr, pk_sl, stab_d, stab_fr, stab_sl, fz_d, fz_fr, fz_sl, toD_l, toD_i, toD_k, re_rf, re_ow, store_d, store_fr, store_sl, outV_d, outV_fr, outV_sl, items_l, items_t, items_s, rng_1, rng_2, dgT_t, setAll_0, setAll_s, putR_rf, madeQ_n, fAdd_i, fAdd_l, fSub_i, fMul_i, fDiv_i, fMod_i, fPow_i, fNeg_i, fCmp_i, fIn_l, fNotIn_l, fIx_l, fIx_t, fIx_s, fLen_l, fLen_t, fLen_s, fInt_i, fInt_b, fList_l, fList_t, fIsN_n, fNotN_n, isN_i, gAppend_1, gPop_c, fFld_i, fRev_l, pl_i, fIsi_i, fIsi_b, fIsi_n, fIsi_l, fIsi_t, List.length_map, anyI, pl_ints, if_false_t, Nat.reduceAdd, eqv_nilD]
        refine ⟨by decide, trivial, rfl, ?_⟩
        by_cases c3 : ∀ i, i ∈ ns → 0 ≤ i ∧ i < rs.length
        · have e0 : List.filter (fun i => !(decide (0 ≤ i) && decide (i < (rs.length : Int)))) ns = [] := List.filter_eq_nil_iff.mpr fun i hi => by simp [c3 i hi]
          rw [e0, if_neg (by decide)]
          unfold r_is_tree_1
          simp only [shut_eq, dSeq, dSet, dRet, dExpr, dIfS, dNil, dIf, dTst, dBin, dUn, dVar, dC, dAnd, dOr, dNot, dAndV, dOrV, dNotV, dChain, dANil, dACons, dLst, dTup, dFld, dAsg, dgN, dSetIx, dLM, hasL, atL, dSetF, dCall, dCallR, hasO, dMeth, dMake, run_eq, dEnd_nx, dEnd_rt, dEnd_ex, outS, dLc, dLcG, dLcR, dFor, dForG, dForR, wipeD, backD, dYes, fLt, fLe, fGt, fGe, fEq, fNe, fIn, fNotIn, eqv_int, at_0, at_1, at_2, at_3, ix_0, ix_1, ix_2, ix_3, List.getElem?_cons_zero, List.getElem?_cons_succ, List.set_cons_zero, List.set_cons_succ, List.cons_append, List.nil_append, List.replicate_succ, List.replicate_zero, List.map_cons, List.map_nil, List.take_succ_cons, List.take_zero, List.length_cons, List.length_nil, List.take, List.length_set, pk_d, pk_fr, pk_sl, stab_d, stab_fr, stab_sl, fz_d, fz_fr, fz_sl, toD_l, toD_i, toD_k, re_rf, re_ow, store_d, store_fr, store_sl, outV_d, outV_fr, outV_sl, items_l, items_t, items_s, rng_1, rng_2, dgT_t, setAll_0, setAll_s, putR_rf, madeQ_n, fAdd_i, fAdd_l, fSub_i, fMul_i, fDiv_i, fMod_i, fPow_i, fNeg_i, fCmp_i, fIn_l, fNotIn_l, fIx_l, fIx_t, fIx_s, fLen_l, fLen_t, fLen_s, fInt_i, fInt_b, fList_l, fList_t, fIsN_n, fNotN_n, isN_i, gAppend_1, gPop_c, fFld_i, fRev_l, pl_i, fIsi_i, fIsi_b, fIsi_n, fIsi_l, fIsi_t, List.length_map, anyI, pl_ints, if_false_t, Nat.reduceAdd]
          refine lcN_fm D.int (fun _ => true) (fun i => roadD (rs[i.toNat]?.getD (0, 0, 0))) ns [] (fun a ha N M hN _ => ?_) (by simp; exact Nat.le_trans hl (by decide)) ?_
          · simp only [shut_eq, dSeq, dSet, dRet, dExpr, dIfS, dNil, dIf, dTst, dBin, dUn, dVar, dC, dAnd, dOr, dNot, dAndV, dOrV, dNotV, dChain, dANil, dACons, dLst, dTup, dFld, dAsg, dgN, dSetIx, dLM, hasL, atL, dSetF, dCall, dCallR, hasO, dMeth, dMake, run_eq, dEnd_nx, dEnd_rt, dEnd_ex, outS, dLc, dLcG, dLcR, dFor, dForG, dForR, wipeD, backD, dYes, fLt, fLe, fGt, fGe, fEq, fNe, fIn, fNotIn, eqv_int, at_0, at_1, at_2, at_3, ix_0, ix_1, ix_2, ix_3, List.getElem?_cons_zero, List.getElem?_cons_succ, List.set_cons_zero, List.set_cons_succ, List.cons_append, List.nil_append, List.replicate_succ, List.replicate_zero, List.map_cons, List.map_nil, List.take_succ_cons, List.take_zero, List.length_cons, List.length_nil, List.take, List.length_set, pk_d, pk_fr, pk_sl, stab_d, stab_fr, stab_sl, fz_d, fz_fr, fz_sl, toD_l, toD_i, toD_k, re_rf, re_ow, store_d, store_fr, store_sl, outV_d, outV_fr, outV_sl, items_l, items_t, items_s, rng_1, rng_2, dgT_t, setAll_0, setAll_s, putR_rf, madeQ_n, fAdd_i, fAdd_l, fSub_i, fMul_i, fDiv_i, fMod_i, fPow_i, fNeg_i, fCmp_i, fIn_l, fNotIn_l, fIx_l, fIx_t, fIx_s, fLen_l, fLen_t, fLen_s, fInt_i, fInt_b, fList_l, fList_t, fIsN_n, fNotN_n, isN_i, gAppend_1, gPop_c, fFld_i, fRev_l, pl_i, fIsi_i, fIsi_b, fIsi_n, fIsi_l, fIsi_t, List.length_map, anyI, pl_ints, if_false_t, Nat.reduceAdd, map_rows, pick_at (c3 a ha), if_true]
            exact ⟨by decide, trivial, hN rfl⟩
          · have e1 : ([] : List D) ++ List.map (fun i => roadD (rs[i.toNat]?.getD (0, 0, 0))) (List.filter (fun _ => true) ns) = rowsD (pick rs ns) := by
              rw [List.filter_eq_self.mpr fun _ _ => rfl]
              unfold rowsD pick
              simp
            rw [e1]
            simp only [shut_eq, dSeq, dSet, dRet, dExpr, dIfS, dNil, dIf, dTst, dBin, dUn, dVar, dC, dAnd, dOr, dNot, dAndV, dOrV, dNotV, dChain, dANil, dACons, dLst, dTup, dFld, dAsg, dgN, dSetIx, dLM, hasL, atL, dSetF, dCall, dCallR, hasO, dMeth, dMake, run_eq, dEnd_nx, dEnd_rt, dEnd_ex, outS, dLc, dLcG, dLcR, dFor, dForG, dForR, wipeD, backD, dYes, fLt, fLe, fGt, fGe, fEq, fNe, fIn, fNotIn, eqv_int, at_0, at_1, at_2, at_3, ix_0, ix_1, ix_2, ix_3, List.getElem?_cons_zero, List.getElem?_cons_succ, List.set_cons_zero, List.set_cons_succ, List.cons_append, List.nil_append, List.replicate_succ, List.replicate_zero, List.map_cons, List.map_nil, List.take_succ_cons, List.take_zero, List.length_cons, List.length_nil, List.take, List.length_set, pk_d, pk_fr, pk_sl, stab_d, stab_fr, stab_sl, fz_d, fz_fr, fz_sl, toD_l, toD_i, toD_k, re_rf, re_ow, store_d, store_fr, store_sl, outV_d, outV_fr, outV_sl, items_l, items_t, items_s, rng_1, rng_2, dgT_t, setAll_0, setAll_s, putR_rf, madeQ_n, fAdd_i, fAdd_l, fSub_i, fMul_i, fDiv_i, fMod_i, fPow_i, fNeg_i, fCmp_i, fIn_l, fNotIn_l, fIx_l, fIx_t, fIx_s, fLen_l, fLen_t, fLen_s, fInt_i, fInt_b, fList_l, fList_t, fIsN_n, fNotN_n, isN_i, gAppend_1, gPop_c, fFld_i, fRev_l, pl_i, fIsi_i, fIsi_b, fIsi_n, fIsi_l, fIsi_t, List.length_map, anyI, pl_ints, if_false_t, Nat.reduceAdd]
            refine ⟨by decide, trivial, map_size, trivial, size_any ?_⟩
            simp only [shut_eq, dSeq, dSet, dRet, dExpr, dIfS, dNil, dIf, dTst, dBin, dUn, dVar, dC, dAnd, dOr, dNot, dAndV, dOrV, dNotV, dChain, dANil, dACons, dLst, dTup, dFld, dAsg, dgN, dSetIx, dLM, hasL, atL, dSetF, dCall, dCallR, hasO, dMeth, dMake, run_eq, dEnd_nx, dEnd_rt, dEnd_ex, outS, dLc, dLcG, dLcR, dFor, dForG, dForR, wipeD, backD, dYes, fLt, fLe, fGt, fGe, fEq, fNe, fIn, fNotIn, eqv_int, at_0, at_1, at_2, at_3, ix_0, ix_1, ix_2, ix_3, List.getElem?_cons_zero, List.getElem?_cons_succ, List.set_cons_zero, List.set_cons_succ, List.cons_append, List.nil_append, List.replicate_succ, List.replicate_zero, List.map_cons, List.map_nil, List.take_succ_cons, List.take_zero, List.length_cons, List.length_nil, List.take, List.length_set, pk_d, pk_fr, pk_sl, stab_d, stab_fr, stab_sl, fz_d, fz_fr, fz_sl, toD_l, toD_i, toD_k, re_rf, re_ow, store_d, store_fr, store_sl, outV_d, outV_fr, outV_sl, items_l, items_t, items_s, rng_1, rng_2, dgT_t, setAll_0, setAll_s, putR_rf, madeQ_n, fAdd_i, fAdd_l, fSub_i, fMul_i, fDiv_i, fMod_i, fPow_i, fNeg_i, fCmp_i, fIn_l, fNotIn_l, fIx_l, fIx_t, fIx_s, fLen_l, fLen_t, fLen_s, fInt_i, fInt_b, fList_l, fList_t, fIsN_n, fNotN_n, isN_i, gAppend_1, gPop_c, fFld_i, fRev_l, pl_i, fIsi_i, fIsi_b, fIsi_n, fIsi_l, fIsi_t, List.length_map, anyI, pl_ints, if_false_t, Nat.reduceAdd]
            refine ⟨trivial, map_begin, trivial, begin_any ?_⟩
            simp only [shut_eq, dSeq, dSet, dRet, dExpr, dIfS, dNil, dIf, dTst, dBin, dUn, dVar, dC, dAnd, dOr, dNot, dAndV, dOrV, dNotV, dChain, dANil, dACons, dLst, dTup, dFld, dAsg, dgN, dSetIx, dLM, hasL, atL, dSetF, dCall, dCallR, hasO, dMeth, dMake, run_eq, dEnd_nx, dEnd_rt, dEnd_ex, outS, dLc, dLcG, dLcR, dFor, dForG, dForR, wipeD, backD, dYes, fLt, fLe, fGt, fGe, fEq, fNe, fIn, fNotIn, eqv_int, at_0, at_1, at_2, at_3, ix_0, ix_1, ix_2, ix_3, List.getElem?_cons_zero, List.getElem?_cons_succ, List.set_cons_zero, List.set_cons_succ, List.cons_append, List.nil_append, List.replicate_succ, List.replicate_zero, List.map_cons, List.map_nil, List.take_succ_cons, List.take_zero, List.length_cons, List.length_nil, List.take, List.length_set, pk_d, pk_fr, pk_sl, stab_d, stab_fr, stab_sl, fz_d, fz_fr, fz_sl, toD_l, toD_i, toD_k, re_rf, re_ow, store_d, store_fr, store_sl, outV_d, outV_fr, outV_sl, items_l, items_t, items_s, rng_1, rng_2, dgT_t, setAll_0, setAll_s, putR_rf, madeQ_n, fAdd_i, fAdd_l, fSub_i, fMul_i, fDiv_i, fMod_i, fPow_i, fNeg_i, fCmp_i, fIn_l, fNotIn_l, fIx_l, fIx_t, fIx_s, fLen_l, fLen_t, fLen_s, fInt_i, fInt_b, fList_l, fList_t, fIsN_n, fNotN_n, isN_i, gAppend_1, gPop_c, fFld_i, fRev_l, pl_i, fIsi_i, fIsi_b, fIsi_n, fIsi_l, fIsi_t, List.length_map, anyI, pl_ints, if_false_t, Nat.reduceAdd]
            refine ⟨trivial, come_any (by unfold pick; simpa using hl) fun fs hnd hfs => ?_⟩
            simp only [shut_eq, dSeq, dSet, dRet, dExpr, dIfS, dNil, dIf, dTst, dBin, dUn, dVar, dC, dAnd, dOr, dNot, dAndV, dOrV, dNotV, dChain, dANil, dACons, dLst, dTup, dFld, dAsg, dgN, dSetIx, dLM, hasL, atL, dSetF, dCall, dCallR, hasO, dMeth, dMake, run_eq, dEnd_nx, dEnd_rt, dEnd_ex, outS, dLc, dLcG, dLcR, dFor, dForG, dForR, wipeD, backD, dYes, fLt, fLe, fGt, fGe, fEq, fNe, fIn, fNotIn, eqv_int, at_0, at_1, at_2, at_3, ix_0, ix_1, ix_2, ix_3, List.getElem?_cons_zero, List.getElem?_cons_succ, List.set_cons_zero, List.set_cons_succ, List.cons_append, List.nil_append, List.replicate_succ, List.replicate_zero, List.map_cons, List.map_nil, List.take_succ_cons, List.take_zero, List.length_cons, List.length_nil, List.take, List.length_set, pk_d, pk_fr, pk_sl, stab_d, stab_fr, stab_sl, fz_d, fz_fr, fz_sl, toD_l, toD_i, toD_k, re_rf, re_ow, store_d, store_fr, store_sl, outV_d, outV_fr, outV_sl, items_l, items_t, items_s, rng_1, rng_2, dgT_t, setAll_0, setAll_s, putR_rf, madeQ_n, fAdd_i, fAdd_l, fSub_i, fMul_i, fDiv_i, fMod_i, fPow_i, fNeg_i, fCmp_i, fIn_l, fNotIn_l, fIx_l, fIx_t, fIx_s, fLen_l, fLen_t, fLen_s, fInt_i, fInt_b, fList_l, fList_t, fIsN_n, fNotN_n, isN_i, gAppend_1, gPop_c, fFld_i, fRev_l, pl_i, fIsi_i, fIsi_b, fIsi_n, fIsi_l, fIsi_t, List.length_map, anyI, pl_ints, if_false_t, Nat.reduceAdd]
            refine ⟨trivial, map_size, trivial, size_any ?_⟩
            simp only [shut_eq, dSeq, dSet, dRet, dExpr, dIfS, dNil, dIf, dTst, dBin, dUn, dVar, dC, dAnd, dOr, dNot, dAndV, dOrV, dNotV, dChain, dANil, dACons, dLst, dTup, dFld, dAsg, dgN, dSetIx, dLM, hasL, atL, dSetF, dCall, dCallR, hasO, dMeth, dMake, run_eq, dEnd_nx, dEnd_rt, dEnd_ex, outS, dLc, dLcG, dLcR, dFor, dForG, dForR, wipeD, backD, dYes, fLt, fLe, fGt, fGe, fEq, fNe, fIn, fNotIn, eqv_int, at_0, at_1, at_2, at_3, ix_0, ix_1, ix_2, ix_3, List.getElem?_cons_zero, List.getElem?_cons_succ, List.set_cons_zero, List.set_cons_succ, List.cons_append, List.nil_append, List.replicate_succ, List.replicate_zero, List.map_cons, List.map_nil, List.take_succ_cons, List.take_zero, List.length_cons, List.length_nil, List.take, List.length_set, pk_d, pk_fr, pk_sl, stab_d, stab_fr, stab_sl, fz_d, fz_fr, fz_sl, toD_l, toD_i, toD_k, re_rf, re_ow, store_d, store_fr, store_sl, outV_d, outV_fr, outV_sl, items_l, items_t, items_s, rng_1, rng_2, dgT_t, setAll_0, setAll_s, putR_rf, madeQ_n, fAdd_i, fAdd_l, fSub_i, fMul_i, fDiv_i, fMod_i, fPow_i, fNeg_i, fCmp_i, fIn_l, fNotIn_l, fIx_l, fIx_t, fIx_s, fLen_l, fLen_t, fLen_s, fInt_i, fInt_b, fList_l, fList_t, fIsN_n, fNotN_n, isN_i, gAppend_1, gPop_c, fFld_i, fRev_l, pl_i, fIsi_i, fIsi_b, fIsi_n, fIsi_l, fIsi_t, List.length_map, anyI, pl_ints, if_false_t, Nat.reduceAdd, sortI_len]
            refine ⟨trivial, trivial, k _ ⟨fun z => ⟨c1, c2, c3, fs, hnd, hfs, of_decide_eq_true z⟩, fun ⟨_, _, _, gs, gnd, hgs, gl⟩ => decide_eq_true ?_⟩⟩
            have l1 := len_le_of_subset hnd fun x hx => (hgs x).mpr ((hfs x).mp hx)
            have l2 := len_le_of_subset gnd fun x hx => (hfs x).mpr ((hgs x).mp hx)
            omega
        · have e0 : List.filter (fun i => !(decide (0 ≤ i) && decide (i < (rs.length : Int)))) ns ≠ [] := fun z => c3 fun i hi => by
            have := List.filter_eq_nil_iff.mp z i hi
            simpa using this
          rw [if_pos (by simpa using e0)]
          exact no fun z => c3 z.2.2.1
    · rw [if_pos (by simpa using c2)]
      exact no fun z => c2 z.2.1
  · have : ¬ ((dist ns : Nat) : Int) = ns.length := fun z => c1 (dist_iff.mp (by omega))
    rw [if_pos (by simpa using this), if_pos trivial]
    exact no fun z => c1 z.1
end Lk02
namespace Lk02
open PySem L2 DW
theorem dice_any {A : Cs} {ns : List Int} {Q : DV → List SV → Prop} {E : DExc → List SV → Prop} (k : ∀ o, IsDice ns o → Q (.fr o) [.un]) : run_law_dice A [.d (.scr ns)] Q E := by
  unfold run_law_dice b_law_dice
  simp only [shut_eq, dSeq, dSet, dRet, dExpr, dIfS, dNil, dIf, dTst, dBin, dUn, dVar, dC, dAnd, dOr, dNot, dAndV, dOrV, dNotV, dChain, dANil, dACons, dLst, dTup, dFld, dAsg, dgN, dSetIx, dLM, hasL, atL, dSetF, dCall, dCallR, hasO, dMeth, dMake, run_eq, dEnd_nx, dEnd_rt, dEnd_ex, outS, dLc, dLcG, dLcR, dFor, dForG, dForR, wipeD, backD, dYes, fLt, fLe, fGt, fGe, fEq, fNe, fIn, fNotIn, eqv_int, at_0, at_1, at_2, at_3, ix_0, ix_1, ix_2, ix_3, List.getElem?_cons_zero, List.getElem?_cons_succ, List.set_cons_zero, List.set_cons_succ, List.cons_append, List.nil_append, List.replicate_succ, List.replicate_zero, List.map_cons, List.map_nil, List.take_succ_cons, List.take_zero, List.length_cons, List.length_nil, List.take, List.length_set, pk_d, pk_fr, pk_sl, stab_d, stab_fr, stab_sl, fz_d, fz_fr, fz_sl, toD_l, toD_i, toD_k, re_rf, re_ow, store_d, store_fr, store_sl, outV_d, outV_fr, outV_sl, items_l, items_t, items_s, rng_1, rng_2, dgT_t, setAll_0, setAll_s, putR_rf, madeQ_n, fAdd_i, fAdd_l, fSub_i, fMul_i, fDiv_i, fMod_i, fPow_i, fNeg_i, fCmp_i, fIn_l, fNotIn_l, fIx_l, fIx_t, fIx_s, fLen_l, fLen_t, fLen_s, fInt_i, fInt_b, fList_l, fList_t, fIsN_n, fNotN_n, isN_i, gAppend_1, gPop_c, fFld_i, fRev_l, pl_i, fIsi_i, fIsi_b, fIsi_n, fIsi_l, fIsi_t, List.length_map, anyI, pl_ints, if_false_t, Nat.reduceAdd]
  refine ⟨by decide, ?_⟩
  refine forN_ind D.int (fun as ρ => ∃ (m : Int) (x : SV), m.natAbs < 2 ^ 64 ∧ ρ = [.d (.scr ns), .d (.int m), x]) ?_ ?_ ns _ ⟨0, _, by decide, rfl⟩
  · rintro ρ ⟨m, x, hm, rfl⟩
    unfold r_law_dice_2
    simp only [shut_eq, dSeq, dSet, dRet, dExpr, dIfS, dNil, dIf, dTst, dBin, dUn, dVar, dC, dAnd, dOr, dNot, dAndV, dOrV, dNotV, dChain, dANil, dACons, dLst, dTup, dFld, dAsg, dgN, dSetIx, dLM, hasL, atL, dSetF, dCall, dCallR, hasO, dMeth, dMake, run_eq, dEnd_nx, dEnd_rt, dEnd_ex, outS, dLc, dLcG, dLcR, dFor, dForG, dForR, wipeD, backD, dYes, fLt, fLe, fGt, fGe, fEq, fNe, fIn, fNotIn, eqv_int, at_0, at_1, at_2, at_3, ix_0, ix_1, ix_2, ix_3, List.getElem?_cons_zero, List.getElem?_cons_succ, List.set_cons_zero, List.set_cons_succ, List.cons_append, List.nil_append, List.replicate_succ, List.replicate_zero, List.map_cons, List.map_nil, List.take_succ_cons, List.take_zero, List.length_cons, List.length_nil, List.take, List.length_set, pk_d, pk_fr, pk_sl, stab_d, stab_fr, stab_sl, fz_d, fz_fr, fz_sl, toD_l, toD_i, toD_k, re_rf, re_ow, store_d, store_fr, store_sl, outV_d, outV_fr, outV_sl, items_l, items_t, items_s, rng_1, rng_2, dgT_t, setAll_0, setAll_s, putR_rf, madeQ_n, fAdd_i, fAdd_l, fSub_i, fMul_i, fDiv_i, fMod_i, fPow_i, fNeg_i, fCmp_i, fIn_l, fNotIn_l, fIx_l, fIx_t, fIx_s, fLen_l, fLen_t, fLen_s, fInt_i, fInt_b, fList_l, fList_t, fIsN_n, fNotN_n, isN_i, gAppend_1, gPop_c, fFld_i, fRev_l, pl_i, fIsi_i, fIsi_b, fIsi_n, fIsi_l, fIsi_t, List.length_map, anyI, pl_ints, if_false_t, Nat.reduceAdd]
    exact ⟨.inl hm, by decide, k _ ⟨0, _, 0, Int.le_refl 0, rfl⟩⟩
  · rintro a as ρ N ⟨m, x, hm, rfl⟩ hN
    unfold l_law_dice_1
    simp only [shut_eq, dSeq, dSet, dRet, dExpr, dIfS, dNil, dIf, dTst, dBin, dUn, dVar, dC, dAnd, dOr, dNot, dAndV, dOrV, dNotV, dChain, dANil, dACons, dLst, dTup, dFld, dAsg, dgN, dSetIx, dLM, hasL, atL, dSetF, dCall, dCallR, hasO, dMeth, dMake, run_eq, dEnd_nx, dEnd_rt, dEnd_ex, outS, dLc, dLcG, dLcR, dFor, dForG, dForR, wipeD, backD, dYes, fLt, fLe, fGt, fGe, fEq, fNe, fIn, fNotIn, eqv_int, at_0, at_1, at_2, at_3, ix_0, ix_1, ix_2, ix_3, List.getElem?_cons_zero, List.getElem?_cons_succ, List.set_cons_zero, List.set_cons_succ, List.cons_append, List.nil_append, List.replicate_succ, List.replicate_zero, List.map_cons, List.map_nil, List.take_succ_cons, List.take_zero, List.length_cons, List.length_nil, List.take, List.length_set, pk_d, pk_fr, pk_sl, stab_d, stab_fr, stab_sl, fz_d, fz_fr, fz_sl, toD_l, toD_i, toD_k, re_rf, re_ow, store_d, store_fr, store_sl, outV_d, outV_fr, outV_sl, items_l, items_t, items_s, rng_1, rng_2, dgT_t, setAll_0, setAll_s, putR_rf, madeQ_n, fAdd_i, fAdd_l, fSub_i, fMul_i, fDiv_i, fMod_i, fPow_i, fNeg_i, fCmp_i, fIn_l, fNotIn_l, fIx_l, fIx_t, fIx_s, fLen_l, fLen_t, fLen_s, fInt_i, fInt_b, fList_l, fList_t, fIsN_n, fNotN_n, isN_i, gAppend_1, gPop_c, fFld_i, fRev_l, pl_i, fIsi_i, fIsi_b, fIsi_n, fIsi_l, fIsi_t, List.length_map, anyI, pl_ints, if_false_t, Nat.reduceAdd]
    have := fmod_lt (a := m * 48271 + a.fmod 2147483647 * 69621 + 11) (b := 2147483647) (by decide)
    exact ⟨by decide, .inl hm, by decide, .inr (.inl (by decide)), by decide, by decide, hN _ ⟨_, _, by omega, rfl⟩⟩
theorem like_int {A : Cs} {n : Nat} {a : Int} {Q : DV → List SV → Prop} {E : DExc → List SV → Prop} (k : Q (.d (.bl true)) [.un, .un]) : run_law_like A (n + 1) [.d (.int a), .d (.int a)] Q E := by
  show dRun 2 1 (b_law_like A (run_law_like A n)) _ _ _
  unfold b_law_like r_law_like_7 r_law_like_6
  simp only [shut_eq, dSeq, dSet, dRet, dExpr, dIfS, dNil, dIf, dTst, dBin, dUn, dVar, dC, dAnd, dOr, dNot, dAndV, dOrV, dNotV, dChain, dANil, dACons, dLst, dTup, dFld, dAsg, dgN, dSetIx, dLM, hasL, atL, dSetF, dCall, dCallR, hasO, dMeth, dMake, run_eq, dEnd_nx, dEnd_rt, dEnd_ex, outS, dLc, dLcG, dLcR, dFor, dForG, dForR, wipeD, backD, dYes, fLt, fLe, fGt, fGe, fEq, fNe, fIn, fNotIn, eqv_int, at_0, at_1, at_2, at_3, ix_0, ix_1, ix_2, ix_3, List.getElem?_cons_zero, List.getElem?_cons_succ, List.set_cons_zero, List.set_cons_succ, List.cons_append, List.nil_append, List.replicate_succ, List.replicate_zero, List.map_cons, List.map_nil, List.take_succ_cons, List.take_zero, List.length_cons, List.length_nil, List.take, List.length_set, pk_d, pk_fr, pk_sl, stab_d, stab_fr, stab_sl, fz_d, fz_fr, fz_sl, toD_l, toD_i, toD_k, re_rf, re_ow, store_d, store_fr, store_sl, outV_d, outV_fr, outV_sl, items_l, items_t, items_s, rng_1, rng_2, dgT_t, setAll_0, setAll_s, putR_rf, madeQ_n, fAdd_i, fAdd_l, fSub_i, fMul_i, fDiv_i, fMod_i, fPow_i, fNeg_i, fCmp_i, fIn_l, fNotIn_l, fIx_l, fIx_t, fIx_s, fLen_l, fLen_t, fLen_s, fInt_i, fInt_b, fList_l, fList_t, fIsN_n, fNotN_n, isN_i, gAppend_1, gPop_c, fFld_i, fRev_l, pl_i, fIsi_i, fIsi_b, fIsi_n, fIsi_l, fIsi_t, List.length_map, anyI, pl_ints, if_false_t, Nat.reduceAdd]
  rw [if_neg (by decide), if_pos (by decide), if_pos (by decide), if_pos (by decide)]
  exact ⟨trivial, trivial, by rw [decide_true]; exact k⟩
theorem like_intT {A : Cs} {a : Int} {Q : DV → List SV → Prop} {E : DExc → List SV → Prop} (k : Q (.d (.bl true)) [.un, .un]) : runT_law_like A [.d (.int a), .d (.int a)] Q E := by
  unfold runT_law_like
  rw [shut_eq]
  exact like_int k
def goalOf (rs : List Road) (i : Int) : Int := (rs[i.toNat]?.getD (0, 0, 0)).2.1
/-- the roads into a place -/
def intoOf (rs : List Road) (p : Int) : List Int := ((List.range rs.length).filter fun i => decide ((rs[i]?.getD (0, 0, 0)).2.1 = p)).map fun i => (0 : Int) + (i : Nat)
def ext (into : List Int) (sm : List (List Int)) : List (List Int) := sm.flatMap fun row => into.map fun r => row ++ [r]
def GoodRow (rs : List Road) (row : List Int) : Prop := ∀ i, i ∈ row → 0 ≤ i ∧ i < rs.length
theorem into_mem {rs : List Road} {p i : Int} : i ∈ intoOf rs p ↔ (0 ≤ i ∧ i < rs.length) ∧ goalOf rs i = p := by
  unfold intoOf goalOf
  simp only [List.mem_map, List.mem_filter, List.mem_range, decide_eq_true_eq]
  constructor
  · rintro ⟨n, ⟨h1, h2⟩, rfl⟩
    refine ⟨by omega, ?_⟩
    rw [Int.zero_add, Int.toNat_natCast]
    exact h2
  · rintro ⟨⟨h1, h2⟩, h3⟩
    obtain ⟨n, rfl⟩ := Int.eq_ofNat_of_zero_le h1
    rw [Int.toNat_natCast] at h3
    exact ⟨n, ⟨by omega, h3⟩, by omega⟩
theorem combos_mem {rs : List Road} : ∀ (ps : List Int) (sm : List (List Int)) (row : List Int), row ∈ ps.foldl (fun s p => ext (intoOf rs p) s) sm ↔ ∃ r0 r1, r0 ∈ sm ∧ row = r0 ++ r1 ∧ GoodRow rs r1 ∧ r1.map (goalOf rs) = ps
  | [], sm, row => by
    rw [List.foldl_nil]
    constructor
    · intro h
      exact ⟨row, [], h, by simp, fun i hi => (nomatch hi), rfl⟩
    · rintro ⟨r0, r1, h, rfl, _, e⟩
      rw [List.map_eq_nil_iff.mp e, List.append_nil]
      exact h
  | p :: ps, sm, row => by
    rw [List.foldl_cons, combos_mem ps]
    constructor
    · rintro ⟨r0, r1, h, rfl, g, e⟩
      unfold ext at h
      obtain ⟨q, hq, h⟩ := List.mem_flatMap.mp h
      obtain ⟨i, hi, rfl⟩ := List.mem_map.mp h
      obtain ⟨h1, h2⟩ := into_mem.mp hi
      refine ⟨q, i :: r1, hq, by simp, fun j hj => ?_, by rw [List.map_cons, h2, e]⟩
      rcases List.mem_cons.mp hj with rfl | hj
      · exact h1
      · exact g j hj
    · rintro ⟨r0, r1, h, rfl, g, e⟩
      cases r1 with
      | nil => cases e
      | cons i r1 =>
        rw [List.map_cons] at e
        injection e with e1 e2
        refine ⟨r0 ++ [i], r1, List.mem_flatMap.mpr ⟨r0, h, List.mem_map.mpr ⟨i, into_mem.mpr ⟨g i List.mem_cons_self, e1⟩, rfl⟩⟩, by simp, fun j hj => g j (List.mem_cons_of_mem _ hj), e2⟩
theorem ext_len {into : List Int} {m : Nat} (h : into.length ≤ m) : ∀ sm : List (List Int), (ext into sm).length ≤ sm.length * m
  | [] => Nat.zero_le _
  | r :: sm => by
    have ih := ext_len h sm
    unfold ext at ih ⊢
    rw [List.flatMap_cons, List.length_append, List.length_map, List.length_cons, Nat.succ_mul]
    omega
def rowI (t : List Int) : D := .lst (t.map .int)
def Full (many root : Int) (rs : List Road) : Prop := ∃ fs : List Int, fs.Nodup ∧ (∀ x, x ∈ fs ↔ Rch rs root x) ∧ (fs.length : Int) = many
/-- the places but the root -/
def others (many root : Int) : List Int := ((List.range many.toNat).map fun i => (0 : Int) + (i : Nat)).filter fun p => decide (p ≠ root)
theorem trees_any {A : Cs} {many root : Int} {rs : List Road} {Q : DV → List SV → Prop} {E : DExc → List SV → Prop} (hm0 : 0 < many) (hm : many ≤ 5) (hl : rs.length ≤ 9)
    (k : ∀ ts : List (Int × List Int), ts.length ≤ 100000 → (∀ t, t ∈ ts ↔ ∃ row, GoodRow rs row ∧ row.map (goalOf rs) = others many root ∧ Full many root (pick rs row) ∧ t = (((pick rs row).map (·.2.2)).sum, sortI row)) → Q (.fr (.l (ts.map treeD))) [.un]) :
    run_law_trees A [.d (.tup [.int many, .int root, .lst (rowsD rs)])] Q E := by
  unfold run_law_trees b_law_trees
  simp only [shut_eq, dSeq, dSet, dRet, dExpr, dIfS, dNil, dIf, dTst, dBin, dUn, dVar, dC, dAnd, dOr, dNot, dAndV, dOrV, dNotV, dChain, dANil, dACons, dLst, dTup, dFld, dAsg, dgN, dSetIx, dLM, hasL, atL, dSetF, dCall, dCallR, hasO, dMeth, dMake, run_eq, dEnd_nx, dEnd_rt, dEnd_ex, outS, dLc, dLcG, dLcR, dFor, dForG, dForR, wipeD, backD, dYes, fLt, fLe, fGt, fGe, fEq, fNe, fIn, fNotIn, eqv_int, at_0, at_1, at_2, at_3, ix_0, ix_1, ix_2, ix_3, List.getElem?_cons_zero, List.getElem?_cons_succ, List.set_cons_zero, List.set_cons_succ, List.cons_append, List.nil_append, List.replicate_succ, List.replicate_zero, List.map_cons, List.map_nil, List.take_succ_cons, List.take_zero, List.length_cons, List.length_nil, List.take, List.length_set, pk_d, pk_fr, pk_sl, stab_d, stab_fr, stab_sl, fz_d, fz_fr, fz_sl, toD_l, toD_i, toD_k, re_rf, re_ow, store_d, store_fr, store_sl, outV_d, outV_fr, outV_sl, items_l, items_t, items_s, rng_1, rng_2, dgT_t, setAll_0, setAll_s, putR_rf, madeQ_n, fAdd_i, fAdd_l, fSub_i, fMul_i, fDiv_i, fMod_i, fPow_i, fNeg_i, fCmp_i, fIn_l, fNotIn_l, fIx_l, fIx_t, fIx_s, fLen_l, fLen_t, fLen_s, fInt_i, fInt_b, fList_l, fList_t, fIsN_n, fNotN_n, isN_i, gAppend_1, gPop_c, fFld_i, fRev_l, pl_i, fIsi_i, fIsi_b, fIsi_n, fIsi_l, fIsi_t, List.length_map, anyI, pl_ints, if_false_t, Nat.reduceAdd]
  refine ⟨by decide, by decide, by decide, by decide, by decide, by decide, trivial, by omega, by omega, ?_⟩
  refine forN_ind (fun i : Nat => D.int (0 + (i : Int))) (fun as ρ => ∃ (sm : List (List Int)) (x4 x5 x6 x7 x8 x9 : SV), (x4 = .ow (.l (sm.map rowI)) ∨ x4 = .d (.lst (sm.map rowI))) ∧ (((as.map fun i => (0 : Int) + (i : Nat)).filter fun p => decide (p ≠ root)).foldl (fun s p => ext (intoOf rs p) s) sm = (others many root).foldl (fun s p => ext (intoOf rs p) s) [[]]) ∧
    sm.length * 9 ^ as.length ≤ 59049 ∧ (∀ r, r ∈ sm → r.length + as.length ≤ 5) ∧ ρ = [.d (.tup [.int many, .int root, .lst (rowsD rs)]), .d (.int many), .d (.int root), .d (.lst (rowsD rs)), x4, x5, x6, x7, x8, x9, .un]) ?_ ?_ _ _ ⟨[[]], _, _, _, _, _, _, .inl rfl, rfl, ?_, ?_, rfl⟩
  · rintro ρ ⟨sm, x4, x5, x6, x7, x8, x9, e4, e, hb, hrl, rfl⟩
    have e : sm = (others many root).foldl (fun s p => ext (intoOf rs p) s) [[]] := e
    have hsm : ∀ row, row ∈ sm ↔ GoodRow rs row ∧ row.map (goalOf rs) = others many root := fun row => by
      rw [e, combos_mem]
      constructor
      · rintro ⟨r0, r1, h, rfl, g, q⟩
        rw [List.mem_singleton.mp h, List.nil_append]
        exact ⟨g, q⟩
      · rintro ⟨g, q⟩
        exact ⟨[], row, List.mem_singleton.mpr rfl, rfl, g, q⟩
    have hz : sizeLine = 16777216 := by decide
    have hb : sm.length ≤ 59049 := by simpa using hb
    have hrl : ∀ r, r ∈ sm → r.length ≤ 5 := fun r hr => by
      have := hrl r hr
      rw [List.length_nil] at this
      omega
    unfold r_law_trees_6
    rcases e4 with rfl | rfl
    all_goals
      simp only [shut_eq, dSeq, dSet, dRet, dExpr, dIfS, dNil, dIf, dTst, dBin, dUn, dVar, dC, dAnd, dOr, dNot, dAndV, dOrV, dNotV, dChain, dANil, dACons, dLst, dTup, dFld, dAsg, dgN, dSetIx, dLM, hasL, atL, dSetF, dCall, dCallR, hasO, dMeth, dMake, run_eq, dEnd_nx, dEnd_rt, dEnd_ex, outS, dLc, dLcG, dLcR, dFor, dForG, dForR, wipeD, backD, dYes, fLt, fLe, fGt, fGe, fEq, fNe, fIn, fNotIn, eqv_int, at_0, at_1, at_2, at_3, ix_0, ix_1, ix_2, ix_3, List.getElem?_cons_zero, List.getElem?_cons_succ, List.set_cons_zero, List.set_cons_succ, List.cons_append, List.nil_append, List.replicate_succ, List.replicate_zero, List.map_cons, List.map_nil, List.take_succ_cons, List.take_zero, List.length_cons, List.length_nil, List.take, List.length_set, pk_d, pk_fr, pk_sl, stab_d, stab_fr, stab_sl, fz_d, fz_fr, fz_sl, toD_l, toD_i, toD_k, re_rf, re_ow, store_d, store_fr, store_sl, outV_d, outV_fr, outV_sl, items_l, items_t, items_s, rng_1, rng_2, dgT_t, setAll_0, setAll_s, putR_rf, madeQ_n, fAdd_i, fAdd_l, fSub_i, fMul_i, fDiv_i, fMod_i, fPow_i, fNeg_i, fCmp_i, fIn_l, fNotIn_l, fIx_l, fIx_t, fIx_s, fLen_l, fLen_t, fLen_s, fInt_i, fInt_b, fList_l, fList_t, fIsN_n, fNotN_n, isN_i, gAppend_1, gPop_c, fFld_i, fRev_l, pl_i, fIsi_i, fIsi_b, fIsi_n, fIsi_l, fIsi_t, List.length_map, anyI, pl_ints, if_false_t, Nat.reduceAdd]
      refine ⟨by decide, by decide, ?_⟩
      refine forN_ind rowI (fun bs ρ => ∃ (ts : List (Int × List Int)) (y8 : SV), ts.length + bs.length ≤ 59049 ∧ (∀ r, r ∈ bs → r ∈ sm) ∧
        (∀ t, (t ∈ ts ∨ ∃ row, row ∈ bs ∧ Full many root (pick rs row) ∧ t = (((pick rs row).map (·.2.2)).sum, sortI row)) ↔ ∃ row, row ∈ sm ∧ Full many root (pick rs row) ∧ t = (((pick rs row).map (·.2.2)).sum, sortI row)) ∧
        ρ = [.d (.tup [.int many, .int root, .lst (rowsD rs)]), .d (.int many), .d (.int root), .d (.lst (rowsD rs)), .d (.lst (sm.map rowI)), x5, x6, x7, y8, .ow (.l (ts.map treeD)), .un]) ?_ ?_ sm _ ⟨[], _, by simpa using hb, fun r hr => hr, fun t => ⟨fun z => z.elim (fun z => nomatch z) id, .inr⟩, rfl⟩
      · rintro ρ ⟨ts, y8, hl2, _, hts, rfl⟩
        unfold r_law_trees_5
        simp only [shut_eq, dSeq, dSet, dRet, dExpr, dIfS, dNil, dIf, dTst, dBin, dUn, dVar, dC, dAnd, dOr, dNot, dAndV, dOrV, dNotV, dChain, dANil, dACons, dLst, dTup, dFld, dAsg, dgN, dSetIx, dLM, hasL, atL, dSetF, dCall, dCallR, hasO, dMeth, dMake, run_eq, dEnd_nx, dEnd_rt, dEnd_ex, outS, dLc, dLcG, dLcR, dFor, dForG, dForR, wipeD, backD, dYes, fLt, fLe, fGt, fGe, fEq, fNe, fIn, fNotIn, eqv_int, at_0, at_1, at_2, at_3, ix_0, ix_1, ix_2, ix_3, List.getElem?_cons_zero, List.getElem?_cons_succ, List.set_cons_zero, List.set_cons_succ, List.cons_append, List.nil_append, List.replicate_succ, List.replicate_zero, List.map_cons, List.map_nil, List.take_succ_cons, List.take_zero, List.length_cons, List.length_nil, List.take, List.length_set, pk_d, pk_fr, pk_sl, stab_d, stab_fr, stab_sl, fz_d, fz_fr, fz_sl, toD_l, toD_i, toD_k, re_rf, re_ow, store_d, store_fr, store_sl, outV_d, outV_fr, outV_sl, items_l, items_t, items_s, rng_1, rng_2, dgT_t, setAll_0, setAll_s, putR_rf, madeQ_n, fAdd_i, fAdd_l, fSub_i, fMul_i, fDiv_i, fMod_i, fPow_i, fNeg_i, fCmp_i, fIn_l, fNotIn_l, fIx_l, fIx_t, fIx_s, fLen_l, fLen_t, fLen_s, fInt_i, fInt_b, fList_l, fList_t, fIsN_n, fNotN_n, isN_i, gAppend_1, gPop_c, fFld_i, fRev_l, pl_i, fIsi_i, fIsi_b, fIsi_n, fIsi_l, fIsi_t, List.length_map, anyI, pl_ints, if_false_t, Nat.reduceAdd]
        refine fSorted_trees (by rw [List.length_nil] at hl2; omega) ?_
        simp only [shut_eq, dSeq, dSet, dRet, dExpr, dIfS, dNil, dIf, dTst, dBin, dUn, dVar, dC, dAnd, dOr, dNot, dAndV, dOrV, dNotV, dChain, dANil, dACons, dLst, dTup, dFld, dAsg, dgN, dSetIx, dLM, hasL, atL, dSetF, dCall, dCallR, hasO, dMeth, dMake, run_eq, dEnd_nx, dEnd_rt, dEnd_ex, outS, dLc, dLcG, dLcR, dFor, dForG, dForR, wipeD, backD, dYes, fLt, fLe, fGt, fGe, fEq, fNe, fIn, fNotIn, eqv_int, at_0, at_1, at_2, at_3, ix_0, ix_1, ix_2, ix_3, List.getElem?_cons_zero, List.getElem?_cons_succ, List.set_cons_zero, List.set_cons_succ, List.cons_append, List.nil_append, List.replicate_succ, List.replicate_zero, List.map_cons, List.map_nil, List.take_succ_cons, List.take_zero, List.length_cons, List.length_nil, List.take, List.length_set, pk_d, pk_fr, pk_sl, stab_d, stab_fr, stab_sl, fz_d, fz_fr, fz_sl, toD_l, toD_i, toD_k, re_rf, re_ow, store_d, store_fr, store_sl, outV_d, outV_fr, outV_sl, items_l, items_t, items_s, rng_1, rng_2, dgT_t, setAll_0, setAll_s, putR_rf, madeQ_n, fAdd_i, fAdd_l, fSub_i, fMul_i, fDiv_i, fMod_i, fPow_i, fNeg_i, fCmp_i, fIn_l, fNotIn_l, fIx_l, fIx_t, fIx_s, fLen_l, fLen_t, fLen_s, fInt_i, fInt_b, fList_l, fList_t, fIsN_n, fNotN_n, isN_i, gAppend_1, gPop_c, fFld_i, fRev_l, pl_i, fIsi_i, fIsi_b, fIsi_n, fIsi_l, fIsi_t, List.length_map, anyI, pl_ints, if_false_t, Nat.reduceAdd]
        refine k _ ?_ fun t => ?_
        · rw [(sortT_perm ts).length_eq]
          rw [List.length_nil] at hl2
          omega
        · rw [(sortT_perm ts).mem_iff]
          constructor
          · intro h
            obtain ⟨row, h1, h2, h3⟩ := (hts t).mp (.inl h)
            exact ⟨row, ((hsm row).mp h1).1, ((hsm row).mp h1).2, h2, h3⟩
          · rintro ⟨row, h1, h2, h3, h4⟩
            rcases (hts t).mpr ⟨row, (hsm row).mpr ⟨h1, h2⟩, h3, h4⟩ with h | ⟨_, h, _⟩
            · exact h
            · exact nomatch h
      · rintro row bs ρ N ⟨ts, y8, hl2, hbs, hts, rfl⟩ hN
        unfold l_law_trees_4
        have hrow := hsm row |>.mp (hbs row List.mem_cons_self)
        simp only [rowI, shut_eq, dSeq, dSet, dRet, dExpr, dIfS, dNil, dIf, dTst, dBin, dUn, dVar, dC, dAnd, dOr, dNot, dAndV, dOrV, dNotV, dChain, dANil, dACons, dLst, dTup, dFld, dAsg, dgN, dSetIx, dLM, hasL, atL, dSetF, dCall, dCallR, hasO, dMeth, dMake, run_eq, dEnd_nx, dEnd_rt, dEnd_ex, outS, dLc, dLcG, dLcR, dFor, dForG, dForR, wipeD, backD, dYes, fLt, fLe, fGt, fGe, fEq, fNe, fIn, fNotIn, eqv_int, at_0, at_1, at_2, at_3, ix_0, ix_1, ix_2, ix_3, List.getElem?_cons_zero, List.getElem?_cons_succ, List.set_cons_zero, List.set_cons_succ, List.cons_append, List.nil_append, List.replicate_succ, List.replicate_zero, List.map_cons, List.map_nil, List.take_succ_cons, List.take_zero, List.length_cons, List.length_nil, List.take, List.length_set, pk_d, pk_fr, pk_sl, stab_d, stab_fr, stab_sl, fz_d, fz_fr, fz_sl, toD_l, toD_i, toD_k, re_rf, re_ow, store_d, store_fr, store_sl, outV_d, outV_fr, outV_sl, items_l, items_t, items_s, rng_1, rng_2, dgT_t, setAll_0, setAll_s, putR_rf, madeQ_n, fAdd_i, fAdd_l, fSub_i, fMul_i, fDiv_i, fMod_i, fPow_i, fNeg_i, fCmp_i, fIn_l, fNotIn_l, fIx_l, fIx_t, fIx_s, fLen_l, fLen_t, fLen_s, fInt_i, fInt_b, fList_l, fList_t, fIsN_n, fNotN_n, isN_i, gAppend_1, gPop_c, fFld_i, fRev_l, pl_i, fIsi_i, fIsi_b, fIsi_n, fIsi_l, fIsi_t, List.length_map, anyI, pl_ints, if_false_t, Nat.reduceAdd]
        have hr5 := hrl row (hbs row List.mem_cons_self)
        rw [List.length_cons] at hl2
        have hq : ∀ i, i ∈ row → L2.atI (rowsD rs) i = some (roadD (rs[i.toNat]?.getD (0, 0, 0))) := fun i hi => pick_at (hrow.1 i hi)
        refine ⟨by decide, ?_⟩
        refine lcN_fm D.int (fun _ => true) (fun i => roadD (rs[i.toNat]?.getD (0, 0, 0))) row [] (fun i hi M M2 hM hM2 => ?_) (by rw [List.length_nil]; omega) ?_
        · simp only [shut_eq, dSeq, dSet, dRet, dExpr, dIfS, dNil, dIf, dTst, dBin, dUn, dVar, dC, dAnd, dOr, dNot, dAndV, dOrV, dNotV, dChain, dANil, dACons, dLst, dTup, dFld, dAsg, dgN, dSetIx, dLM, hasL, atL, dSetF, dCall, dCallR, hasO, dMeth, dMake, run_eq, dEnd_nx, dEnd_rt, dEnd_ex, outS, dLc, dLcG, dLcR, dFor, dForG, dForR, wipeD, backD, dYes, fLt, fLe, fGt, fGe, fEq, fNe, fIn, fNotIn, eqv_int, at_0, at_1, at_2, at_3, ix_0, ix_1, ix_2, ix_3, List.getElem?_cons_zero, List.getElem?_cons_succ, List.set_cons_zero, List.set_cons_succ, List.cons_append, List.nil_append, List.replicate_succ, List.replicate_zero, List.map_cons, List.map_nil, List.take_succ_cons, List.take_zero, List.length_cons, List.length_nil, List.take, List.length_set, pk_d, pk_fr, pk_sl, stab_d, stab_fr, stab_sl, fz_d, fz_fr, fz_sl, toD_l, toD_i, toD_k, re_rf, re_ow, store_d, store_fr, store_sl, outV_d, outV_fr, outV_sl, items_l, items_t, items_s, rng_1, rng_2, dgT_t, setAll_0, setAll_s, putR_rf, madeQ_n, fAdd_i, fAdd_l, fSub_i, fMul_i, fDiv_i, fMod_i, fPow_i, fNeg_i, fCmp_i, fIn_l, fNotIn_l, fIx_l, fIx_t, fIx_s, fLen_l, fLen_t, fLen_s, fInt_i, fInt_b, fList_l, fList_t, fIsN_n, fNotN_n, isN_i, gAppend_1, gPop_c, fFld_i, fRev_l, pl_i, fIsi_i, fIsi_b, fIsi_n, fIsi_l, fIsi_t, List.length_map, anyI, pl_ints, if_false_t, Nat.reduceAdd, hq i hi, if_true]
          exact ⟨by decide, hM rfl⟩
        · have e1 : ([] : List D) ++ List.map (fun i : Int => roadD (rs[i.toNat]?.getD (0, 0, 0))) (List.filter (fun _ => true) row) = rowsD (pick rs row) := by
            rw [List.filter_eq_self.mpr fun _ _ => rfl]
            unfold rowsD pick
            simp
          rw [e1]
          simp only [shut_eq, dSeq, dSet, dRet, dExpr, dIfS, dNil, dIf, dTst, dBin, dUn, dVar, dC, dAnd, dOr, dNot, dAndV, dOrV, dNotV, dChain, dANil, dACons, dLst, dTup, dFld, dAsg, dgN, dSetIx, dLM, hasL, atL, dSetF, dCall, dCallR, hasO, dMeth, dMake, run_eq, dEnd_nx, dEnd_rt, dEnd_ex, outS, dLc, dLcG, dLcR, dFor, dForG, dForR, wipeD, backD, dYes, fLt, fLe, fGt, fGe, fEq, fNe, fIn, fNotIn, eqv_int, at_0, at_1, at_2, at_3, ix_0, ix_1, ix_2, ix_3, List.getElem?_cons_zero, List.getElem?_cons_succ, List.set_cons_zero, List.set_cons_succ, List.cons_append, List.nil_append, List.replicate_succ, List.replicate_zero, List.map_cons, List.map_nil, List.take_succ_cons, List.take_zero, List.length_cons, List.length_nil, List.take, List.length_set, pk_d, pk_fr, pk_sl, stab_d, stab_fr, stab_sl, fz_d, fz_fr, fz_sl, toD_l, toD_i, toD_k, re_rf, re_ow, store_d, store_fr, store_sl, outV_d, outV_fr, outV_sl, items_l, items_t, items_s, rng_1, rng_2, dgT_t, setAll_0, setAll_s, putR_rf, madeQ_n, fAdd_i, fAdd_l, fSub_i, fMul_i, fDiv_i, fMod_i, fPow_i, fNeg_i, fCmp_i, fIn_l, fNotIn_l, fIx_l, fIx_t, fIx_s, fLen_l, fLen_t, fLen_s, fInt_i, fInt_b, fList_l, fList_t, fIsN_n, fNotN_n, isN_i, gAppend_1, gPop_c, fFld_i, fRev_l, pl_i, fIsi_i, fIsi_b, fIsi_n, fIsi_l, fIsi_t, List.length_map, anyI, pl_ints, if_false_t, Nat.reduceAdd]
          refine ⟨trivial, leads_any (by unfold pick; rw [List.length_map]; omega) fun fs hnd hfs => ?_⟩
          simp only [shut_eq, dSeq, dSet, dRet, dExpr, dIfS, dNil, dIf, dTst, dBin, dUn, dVar, dC, dAnd, dOr, dNot, dAndV, dOrV, dNotV, dChain, dANil, dACons, dLst, dTup, dFld, dAsg, dgN, dSetIx, dLM, hasL, atL, dSetF, dCall, dCallR, hasO, dMeth, dMake, run_eq, dEnd_nx, dEnd_rt, dEnd_ex, outS, dLc, dLcG, dLcR, dFor, dForG, dForR, wipeD, backD, dYes, fLt, fLe, fGt, fGe, fEq, fNe, fIn, fNotIn, eqv_int, at_0, at_1, at_2, at_3, ix_0, ix_1, ix_2, ix_3, List.getElem?_cons_zero, List.getElem?_cons_succ, List.set_cons_zero, List.set_cons_succ, List.cons_append, List.nil_append, List.replicate_succ, List.replicate_zero, List.map_cons, List.map_nil, List.take_succ_cons, List.take_zero, List.length_cons, List.length_nil, List.take, List.length_set, pk_d, pk_fr, pk_sl, stab_d, stab_fr, stab_sl, fz_d, fz_fr, fz_sl, toD_l, toD_i, toD_k, re_rf, re_ow, store_d, store_fr, store_sl, outV_d, outV_fr, outV_sl, items_l, items_t, items_s, rng_1, rng_2, dgT_t, setAll_0, setAll_s, putR_rf, madeQ_n, fAdd_i, fAdd_l, fSub_i, fMul_i, fDiv_i, fMod_i, fPow_i, fNeg_i, fCmp_i, fIn_l, fNotIn_l, fIx_l, fIx_t, fIx_s, fLen_l, fLen_t, fLen_s, fInt_i, fInt_b, fList_l, fList_t, fIsN_n, fNotN_n, isN_i, gAppend_1, gPop_c, fFld_i, fRev_l, pl_i, fIsi_i, fIsi_b, fIsi_n, fIsi_l, fIsi_t, List.length_map, anyI, pl_ints, if_false_t, Nat.reduceAdd]
          refine ⟨trivial, trivial, ?_⟩
          have hful : Full many root (pick rs row) ↔ (fs.length : Int) = many := by
            constructor
            · rintro ⟨gs, gnd, hgs, gl⟩
              have l1 := len_le_of_subset hnd fun x hx => (hgs x).mpr ((hfs x).mp hx)
              have l2 := len_le_of_subset gnd fun x hx => (hfs x).mpr ((hgs x).mp hx)
              omega
            · intro h
              exact ⟨fs, hnd, hfs, h⟩
          by_cases c : (fs.length : Int) = many
          · rw [if_pos (decide_eq_true c)]
            refine ⟨trivial, ?_⟩
            refine lcN_fm D.int (fun _ => true) (fun i => .int (rs[i.toNat]?.getD (0, 0, 0)).2.2) row [] (fun i hi M M2 hM hM2 => ?_) (by rw [List.length_nil]; omega) ?_
            · simp only [shut_eq, dSeq, dSet, dRet, dExpr, dIfS, dNil, dIf, dTst, dBin, dUn, dVar, dC, dAnd, dOr, dNot, dAndV, dOrV, dNotV, dChain, dANil, dACons, dLst, dTup, dFld, dAsg, dgN, dSetIx, dLM, hasL, atL, dSetF, dCall, dCallR, hasO, dMeth, dMake, run_eq, dEnd_nx, dEnd_rt, dEnd_ex, outS, dLc, dLcG, dLcR, dFor, dForG, dForR, wipeD, backD, dYes, fLt, fLe, fGt, fGe, fEq, fNe, fIn, fNotIn, eqv_int, at_0, at_1, at_2, at_3, ix_0, ix_1, ix_2, ix_3, List.getElem?_cons_zero, List.getElem?_cons_succ, List.set_cons_zero, List.set_cons_succ, List.cons_append, List.nil_append, List.replicate_succ, List.replicate_zero, List.map_cons, List.map_nil, List.take_succ_cons, List.take_zero, List.length_cons, List.length_nil, List.take, List.length_set, pk_d, pk_fr, pk_sl, stab_d, stab_fr, stab_sl, fz_d, fz_fr, fz_sl, toD_l, toD_i, toD_k, re_rf, re_ow, store_d, store_fr, store_sl, outV_d, outV_fr, outV_sl, items_l, items_t, items_s, rng_1, rng_2, dgT_t, setAll_0, setAll_s, putR_rf, madeQ_n, fAdd_i, fAdd_l, fSub_i, fMul_i, fDiv_i, fMod_i, fPow_i, fNeg_i, fCmp_i, fIn_l, fNotIn_l, fIx_l, fIx_t, fIx_s, fLen_l, fLen_t, fLen_s, fInt_i, fInt_b, fList_l, fList_t, fIsN_n, fNotN_n, isN_i, gAppend_1, gPop_c, fFld_i, fRev_l, pl_i, fIsi_i, fIsi_b, fIsi_n, fIsi_l, fIsi_t, List.length_map, anyI, pl_ints, if_false_t, Nat.reduceAdd, hq i hi, roadD, if_true]
              exact ⟨by decide, hM rfl⟩
            · have e2 : ([] : List D) ++ List.map (fun i : Int => D.int (rs[i.toNat]?.getD (0, 0, 0)).2.2) (List.filter (fun _ => true) row) = (((pick rs row).map (·.2.2)).map D.int) := by
                rw [List.filter_eq_self.mpr fun _ _ => rfl]
                unfold pick
                simp
              rw [e2, fSum_ints]
              simp only [shut_eq, dSeq, dSet, dRet, dExpr, dIfS, dNil, dIf, dTst, dBin, dUn, dVar, dC, dAnd, dOr, dNot, dAndV, dOrV, dNotV, dChain, dANil, dACons, dLst, dTup, dFld, dAsg, dgN, dSetIx, dLM, hasL, atL, dSetF, dCall, dCallR, hasO, dMeth, dMake, run_eq, dEnd_nx, dEnd_rt, dEnd_ex, outS, dLc, dLcG, dLcR, dFor, dForG, dForR, wipeD, backD, dYes, fLt, fLe, fGt, fGe, fEq, fNe, fIn, fNotIn, eqv_int, at_0, at_1, at_2, at_3, ix_0, ix_1, ix_2, ix_3, List.getElem?_cons_zero, List.getElem?_cons_succ, List.set_cons_zero, List.set_cons_succ, List.cons_append, List.nil_append, List.replicate_succ, List.replicate_zero, List.map_cons, List.map_nil, List.take_succ_cons, List.take_zero, List.length_cons, List.length_nil, List.take, List.length_set, pk_d, pk_fr, pk_sl, stab_d, stab_fr, stab_sl, fz_d, fz_fr, fz_sl, toD_l, toD_i, toD_k, re_rf, re_ow, store_d, store_fr, store_sl, outV_d, outV_fr, outV_sl, items_l, items_t, items_s, rng_1, rng_2, dgT_t, setAll_0, setAll_s, putR_rf, madeQ_n, fAdd_i, fAdd_l, fSub_i, fMul_i, fDiv_i, fMod_i, fPow_i, fNeg_i, fCmp_i, fIn_l, fNotIn_l, fIx_l, fIx_t, fIx_s, fLen_l, fLen_t, fLen_s, fInt_i, fInt_b, fList_l, fList_t, fIsN_n, fNotN_n, isN_i, gAppend_1, gPop_c, fFld_i, fRev_l, pl_i, fIsi_i, fIsi_b, fIsi_n, fIsi_l, fIsi_t, List.length_map, anyI, pl_ints, if_false_t, Nat.reduceAdd]
              refine fSorted_ints (by omega) ?_
              simp only [shut_eq, dSeq, dSet, dRet, dExpr, dIfS, dNil, dIf, dTst, dBin, dUn, dVar, dC, dAnd, dOr, dNot, dAndV, dOrV, dNotV, dChain, dANil, dACons, dLst, dTup, dFld, dAsg, dgN, dSetIx, dLM, hasL, atL, dSetF, dCall, dCallR, hasO, dMeth, dMake, run_eq, dEnd_nx, dEnd_rt, dEnd_ex, outS, dLc, dLcG, dLcR, dFor, dForG, dForR, wipeD, backD, dYes, fLt, fLe, fGt, fGe, fEq, fNe, fIn, fNotIn, eqv_int, at_0, at_1, at_2, at_3, ix_0, ix_1, ix_2, ix_3, List.getElem?_cons_zero, List.getElem?_cons_succ, List.set_cons_zero, List.set_cons_succ, List.cons_append, List.nil_append, List.replicate_succ, List.replicate_zero, List.map_cons, List.map_nil, List.take_succ_cons, List.take_zero, List.length_cons, List.length_nil, List.take, List.length_set, pk_d, pk_fr, pk_sl, stab_d, stab_fr, stab_sl, fz_d, fz_fr, fz_sl, toD_l, toD_i, toD_k, re_rf, re_ow, store_d, store_fr, store_sl, outV_d, outV_fr, outV_sl, items_l, items_t, items_s, rng_1, rng_2, dgT_t, setAll_0, setAll_s, putR_rf, madeQ_n, fAdd_i, fAdd_l, fSub_i, fMul_i, fDiv_i, fMod_i, fPow_i, fNeg_i, fCmp_i, fIn_l, fNotIn_l, fIx_l, fIx_t, fIx_s, fLen_l, fLen_t, fLen_s, fInt_i, fInt_b, fList_l, fList_t, fIsN_n, fNotN_n, isN_i, gAppend_1, gPop_c, fFld_i, fRev_l, pl_i, fIsi_i, fIsi_b, fIsi_n, fIsi_l, fIsi_t, List.length_map, anyI, pl_ints, if_false_t, Nat.reduceAdd]
              refine ⟨by decide, by omega, hN _ ⟨ts ++ [(((pick rs row).map (·.2.2)).sum, sortI row)], .d (.lst (row.map .int)), ?_, fun r hr => hbs r (List.mem_cons_of_mem _ hr), fun t => ?_, ?_⟩⟩
              · rw [List.length_append, List.length_singleton]
                omega
              · rw [← hts t]
                constructor
                · rintro (h | ⟨q, h1, h2⟩)
                  · rcases List.mem_append.mp h with h | h
                    · exact .inl h
                    · exact .inr ⟨row, List.mem_cons_self, hful.mpr c, List.mem_singleton.mp h⟩
                  · exact .inr ⟨q, List.mem_cons_of_mem _ h1, h2⟩
                · rintro (h | ⟨q, h1, h2, h3⟩)
                  · exact .inl (List.mem_append_left _ h)
                  · rcases List.mem_cons.mp h1 with rfl | h1
                    · exact .inl (List.mem_append_right _ (List.mem_singleton.mpr h3))
                    · exact .inr ⟨q, h1, h2, h3⟩
              · rw [List.map_append]
                rfl
          · rw [if_neg (by simpa using c)]
            refine hN _ ⟨ts, _, by omega, fun r hr => hbs r (List.mem_cons_of_mem _ hr), fun t => ?_, rfl⟩
            rw [← hts t]
            constructor
            · rintro (h | ⟨q, h1, h2⟩)
              · exact .inl h
              · exact .inr ⟨q, List.mem_cons_of_mem _ h1, h2⟩
            · rintro (h | ⟨q, h1, h2, h3⟩)
              · exact .inl h
              · rcases List.mem_cons.mp h1 with rfl | h1
                · exact absurd (hful.mp h2) c
                · exact .inr ⟨q, h1, h2, h3⟩
  · rintro a as ρ N ⟨sm, x4, x5, x6, x7, x8, x9, e4, e, hb, hrl, rfl⟩ hN
    have er : (rowsD rs).length = rs.length := List.length_map ..
    have hz : sizeLine = 16777216 := by decide
    have hp9 : 1 ≤ 9 ^ as.length := Nat.one_le_pow _ _ (by decide)
    rw [List.length_cons, Nat.pow_succ] at hb
    have hb1 : sm.length * 9 * 9 ^ as.length ≤ 59049 := by
      rw [Nat.mul_assoc, Nat.mul_comm 9]
      exact hb
    have hb2 : sm.length * 9 ≤ 59049 := Nat.le_trans (Nat.le_mul_of_pos_right _ hp9) hb1
    unfold l_law_trees_3
    simp only [shut_eq, dSeq, dSet, dRet, dExpr, dIfS, dNil, dIf, dTst, dBin, dUn, dVar, dC, dAnd, dOr, dNot, dAndV, dOrV, dNotV, dChain, dANil, dACons, dLst, dTup, dFld, dAsg, dgN, dSetIx, dLM, hasL, atL, dSetF, dCall, dCallR, hasO, dMeth, dMake, run_eq, dEnd_nx, dEnd_rt, dEnd_ex, outS, dLc, dLcG, dLcR, dFor, dForG, dForR, wipeD, backD, dYes, fLt, fLe, fGt, fGe, fEq, fNe, fIn, fNotIn, eqv_int, at_0, at_1, at_2, at_3, ix_0, ix_1, ix_2, ix_3, List.getElem?_cons_zero, List.getElem?_cons_succ, List.set_cons_zero, List.set_cons_succ, List.cons_append, List.nil_append, List.replicate_succ, List.replicate_zero, List.map_cons, List.map_nil, List.take_succ_cons, List.take_zero, List.length_cons, List.length_nil, List.take, List.length_set, pk_d, pk_fr, pk_sl, stab_d, stab_fr, stab_sl, fz_d, fz_fr, fz_sl, toD_l, toD_i, toD_k, re_rf, re_ow, store_d, store_fr, store_sl, outV_d, outV_fr, outV_sl, items_l, items_t, items_s, rng_1, rng_2, dgT_t, setAll_0, setAll_s, putR_rf, madeQ_n, fAdd_i, fAdd_l, fSub_i, fMul_i, fDiv_i, fMod_i, fPow_i, fNeg_i, fCmp_i, fIn_l, fNotIn_l, fIx_l, fIx_t, fIx_s, fLen_l, fLen_t, fLen_s, fInt_i, fInt_b, fList_l, fList_t, fIsN_n, fNotN_n, isN_i, gAppend_1, gPop_c, fFld_i, fRev_l, pl_i, fIsi_i, fIsi_b, fIsi_n, fIsi_l, fIsi_t, List.length_map, anyI, pl_ints, if_false_t, Nat.reduceAdd]
    refine ⟨by decide, trivial, trivial, ?_⟩
    by_cases c : 0 + (a : Int) = root
    · rw [if_neg (by simp [c])]
      refine hN _ ⟨sm, x4, .d (.int (0 + a)), x6, x7, x8, x9, e4, ?_, ?_, fun r hr => by have := hrl r hr; rw [List.length_cons] at this; omega, rfl⟩
      · rw [← e, List.map_cons, List.filter_cons_of_neg (by simp [c])]
      · exact Nat.le_trans (Nat.mul_le_mul_right _ (by omega : sm.length ≤ sm.length * 9)) hb1
    · rw [if_pos (by simpa using c)]
      refine ⟨trivial, by omega, by omega, ?_⟩
      refine lcN_fm (fun i : Nat => D.int (0 + (i : Int))) (fun i => decide ((rs[i]?.getD (0, 0, 0)).2.1 = 0 + (a : Int))) (fun i => .int (0 + (i : Int))) (List.range ((rowsD rs).length : Int).toNat) [] (fun i hi M M2 hM hM2 => ?_) (by simp; omega) ?_
      · have hi' : i < rs.length := by
          have := List.mem_range.mp hi
          omega
        have hq : L2.atI (rowsD rs) (0 + (i : Int)) = Option.some (roadD (rs[i]?.getD (0, 0, 0))) := by
          unfold rowsD
          rw [Int.zero_add, at_nat, List.getElem?_map, List.getElem?_eq_getElem hi']
          rfl
        simp only [shut_eq, dSeq, dSet, dRet, dExpr, dIfS, dNil, dIf, dTst, dBin, dUn, dVar, dC, dAnd, dOr, dNot, dAndV, dOrV, dNotV, dChain, dANil, dACons, dLst, dTup, dFld, dAsg, dgN, dSetIx, dLM, hasL, atL, dSetF, dCall, dCallR, hasO, dMeth, dMake, run_eq, dEnd_nx, dEnd_rt, dEnd_ex, outS, dLc, dLcG, dLcR, dFor, dForG, dForR, wipeD, backD, dYes, fLt, fLe, fGt, fGe, fEq, fNe, fIn, fNotIn, eqv_int, at_0, at_1, at_2, at_3, ix_0, ix_1, ix_2, ix_3, List.getElem?_cons_zero, List.getElem?_cons_succ, List.set_cons_zero, List.set_cons_succ, List.cons_append, List.nil_append, List.replicate_succ, List.replicate_zero, List.map_cons, List.map_nil, List.take_succ_cons, List.take_zero, List.length_cons, List.length_nil, List.take, List.length_set, pk_d, pk_fr, pk_sl, stab_d, stab_fr, stab_sl, fz_d, fz_fr, fz_sl, toD_l, toD_i, toD_k, re_rf, re_ow, store_d, store_fr, store_sl, outV_d, outV_fr, outV_sl, items_l, items_t, items_s, rng_1, rng_2, dgT_t, setAll_0, setAll_s, putR_rf, madeQ_n, fAdd_i, fAdd_l, fSub_i, fMul_i, fDiv_i, fMod_i, fPow_i, fNeg_i, fCmp_i, fIn_l, fNotIn_l, fIx_l, fIx_t, fIx_s, fLen_l, fLen_t, fLen_s, fInt_i, fInt_b, fList_l, fList_t, fIsN_n, fNotN_n, isN_i, gAppend_1, gPop_c, fFld_i, fRev_l, pl_i, fIsi_i, fIsi_b, fIsi_n, fIsi_l, fIsi_t, List.length_map, anyI, pl_ints, if_false_t, Nat.reduceAdd, hq, roadD]
        refine ⟨by decide, trivial, trivial, ?_⟩
        by_cases d : (rs[i]?.getD (0, 0, 0)).2.1 = 0 + (a : Int)
        · rw [if_pos (decide_eq_true d)]
          exact hM (decide_eq_true d)
        · rw [if_neg (by simpa using d)]
          exact hM2 (decide_eq_false d)
      · have e1 : ([] : List D) ++ List.map (fun i : Nat => D.int (0 + (i : Int))) (List.filter (fun i => decide ((rs[i]?.getD (0, 0, 0)).2.1 = 0 + (a : Int))) (List.range ((rowsD rs).length : Int).toNat)) = (intoOf rs (0 + a)).map .int := by
          unfold intoOf
          rw [er, Int.toNat_natCast]
          simp
        rw [e1]
        have hil : (intoOf rs (0 + (a : Int))).length ≤ 9 := by
          unfold intoOf
          rw [List.length_map]
          exact Nat.le_trans (List.length_filter_le _ _) (by simp; omega)
        rcases e4 with rfl | rfl
        all_goals
          simp only [shut_eq, dSeq, dSet, dRet, dExpr, dIfS, dNil, dIf, dTst, dBin, dUn, dVar, dC, dAnd, dOr, dNot, dAndV, dOrV, dNotV, dChain, dANil, dACons, dLst, dTup, dFld, dAsg, dgN, dSetIx, dLM, hasL, atL, dSetF, dCall, dCallR, hasO, dMeth, dMake, run_eq, dEnd_nx, dEnd_rt, dEnd_ex, outS, dLc, dLcG, dLcR, dFor, dForG, dForR, wipeD, backD, dYes, fLt, fLe, fGt, fGe, fEq, fNe, fIn, fNotIn, eqv_int, at_0, at_1, at_2, at_3, ix_0, ix_1, ix_2, ix_3, List.getElem?_cons_zero, List.getElem?_cons_succ, List.set_cons_zero, List.set_cons_succ, List.cons_append, List.nil_append, List.replicate_succ, List.replicate_zero, List.map_cons, List.map_nil, List.take_succ_cons, List.take_zero, List.length_cons, List.length_nil, List.take, List.length_set, pk_d, pk_fr, pk_sl, stab_d, stab_fr, stab_sl, fz_d, fz_fr, fz_sl, toD_l, toD_i, toD_k, re_rf, re_ow, store_d, store_fr, store_sl, outV_d, outV_fr, outV_sl, items_l, items_t, items_s, rng_1, rng_2, dgT_t, setAll_0, setAll_s, putR_rf, madeQ_n, fAdd_i, fAdd_l, fSub_i, fMul_i, fDiv_i, fMod_i, fPow_i, fNeg_i, fCmp_i, fIn_l, fNotIn_l, fIx_l, fIx_t, fIx_s, fLen_l, fLen_t, fLen_s, fInt_i, fInt_b, fList_l, fList_t, fIsN_n, fNotN_n, isN_i, gAppend_1, gPop_c, fFld_i, fRev_l, pl_i, fIsi_i, fIsi_b, fIsi_n, fIsi_l, fIsi_t, List.length_map, anyI, pl_ints, if_false_t, Nat.reduceAdd]
          refine ⟨by decide, by decide, by decide, ?_⟩
          refine forN_ind rowI (fun bs ρ => ∃ (lg : List (List Int)) (y6 y8 : SV), (y6 = .ow (.l ((intoOf rs (0 + a)).map .int)) ∨ y6 = .d (.lst ((intoOf rs (0 + a)).map .int))) ∧ lg ++ ext (intoOf rs (0 + a)) bs = ext (intoOf rs (0 + a)) sm ∧ (∀ r, r ∈ bs → r.length ≤ 5) ∧
            ρ = [.d (.tup [.int many, .int root, .lst (rowsD rs)]), .d (.int many), .d (.int root), .d (.lst (rowsD rs)), .d (.lst (sm.map rowI)), .d (.int (0 + a)), y6, .ow (.l (lg.map rowI)), y8, x9, .un]) ?_ ?_ sm _ ⟨[], _, _, .inl rfl, rfl, fun r hr => by have := hrl r hr; omega, rfl⟩
          · rintro ρ ⟨lg, y6, y8, e6, e7, hbl, rfl⟩
            have e7 : lg = ext (intoOf rs (0 + a)) sm := by simpa [ext] using e7
            unfold r_law_trees_2
            simp only [shut_eq, dSeq, dSet, dRet, dExpr, dIfS, dNil, dIf, dTst, dBin, dUn, dVar, dC, dAnd, dOr, dNot, dAndV, dOrV, dNotV, dChain, dANil, dACons, dLst, dTup, dFld, dAsg, dgN, dSetIx, dLM, hasL, atL, dSetF, dCall, dCallR, hasO, dMeth, dMake, run_eq, dEnd_nx, dEnd_rt, dEnd_ex, outS, dLc, dLcG, dLcR, dFor, dForG, dForR, wipeD, backD, dYes, fLt, fLe, fGt, fGe, fEq, fNe, fIn, fNotIn, eqv_int, at_0, at_1, at_2, at_3, ix_0, ix_1, ix_2, ix_3, List.getElem?_cons_zero, List.getElem?_cons_succ, List.set_cons_zero, List.set_cons_succ, List.cons_append, List.nil_append, List.replicate_succ, List.replicate_zero, List.map_cons, List.map_nil, List.take_succ_cons, List.take_zero, List.length_cons, List.length_nil, List.take, List.length_set, pk_d, pk_fr, pk_sl, stab_d, stab_fr, stab_sl, fz_d, fz_fr, fz_sl, toD_l, toD_i, toD_k, re_rf, re_ow, store_d, store_fr, store_sl, outV_d, outV_fr, outV_sl, items_l, items_t, items_s, rng_1, rng_2, dgT_t, setAll_0, setAll_s, putR_rf, madeQ_n, fAdd_i, fAdd_l, fSub_i, fMul_i, fDiv_i, fMod_i, fPow_i, fNeg_i, fCmp_i, fIn_l, fNotIn_l, fIx_l, fIx_t, fIx_s, fLen_l, fLen_t, fLen_s, fInt_i, fInt_b, fList_l, fList_t, fIsN_n, fNotN_n, isN_i, gAppend_1, gPop_c, fFld_i, fRev_l, pl_i, fIsi_i, fIsi_b, fIsi_n, fIsi_l, fIsi_t, List.length_map, anyI, pl_ints, if_false_t, Nat.reduceAdd]
            refine ⟨by decide, hN _ ⟨lg, .d (.lst (lg.map rowI)), .d (.int (0 + a)), y6, .d (.lst (lg.map rowI)), y8, x9, .inr rfl, ?_, ?_, ?_, rfl⟩⟩
            · rw [← e, List.map_cons, List.filter_cons_of_pos (by simpa using c), List.foldl_cons, e7]
            · rw [e7]
              exact Nat.le_trans (Nat.mul_le_mul_right _ (ext_len hil sm)) hb1
            · intro r hr
              rw [e7] at hr
              unfold ext at hr
              obtain ⟨q, hq, hr⟩ := List.mem_flatMap.mp hr
              obtain ⟨i, _, rfl⟩ := List.mem_map.mp hr
              have := hrl q hq
              rw [List.length_cons] at this
              rw [List.length_append, List.length_singleton]
              omega
          · rintro row bs ρ N2 ⟨lg, y6, y8, e6, e7, hbl, rfl⟩ hN2
            have hlg : lg.length + (intoOf rs (0 + (a : Int))).length ≤ 59049 := by
              have q := congrArg List.length e7
              have q2 := ext_len hil sm
              unfold ext at q q2
              rw [List.flatMap_cons, List.length_append, List.length_append, List.length_map] at q
              omega
            unfold l_law_trees_1
            rcases e6 with rfl | rfl
            all_goals
              simp only [rowI, shut_eq, dSeq, dSet, dRet, dExpr, dIfS, dNil, dIf, dTst, dBin, dUn, dVar, dC, dAnd, dOr, dNot, dAndV, dOrV, dNotV, dChain, dANil, dACons, dLst, dTup, dFld, dAsg, dgN, dSetIx, dLM, hasL, atL, dSetF, dCall, dCallR, hasO, dMeth, dMake, run_eq, dEnd_nx, dEnd_rt, dEnd_ex, outS, dLc, dLcG, dLcR, dFor, dForG, dForR, wipeD, backD, dYes, fLt, fLe, fGt, fGe, fEq, fNe, fIn, fNotIn, eqv_int, at_0, at_1, at_2, at_3, ix_0, ix_1, ix_2, ix_3, List.getElem?_cons_zero, List.getElem?_cons_succ, List.set_cons_zero, List.set_cons_succ, List.cons_append, List.nil_append, List.replicate_succ, List.replicate_zero, List.map_cons, List.map_nil, List.take_succ_cons, List.take_zero, List.length_cons, List.length_nil, List.take, List.length_set, pk_d, pk_fr, pk_sl, stab_d, stab_fr, stab_sl, fz_d, fz_fr, fz_sl, toD_l, toD_i, toD_k, re_rf, re_ow, store_d, store_fr, store_sl, outV_d, outV_fr, outV_sl, items_l, items_t, items_s, rng_1, rng_2, dgT_t, setAll_0, setAll_s, putR_rf, madeQ_n, fAdd_i, fAdd_l, fSub_i, fMul_i, fDiv_i, fMod_i, fPow_i, fNeg_i, fCmp_i, fIn_l, fNotIn_l, fIx_l, fIx_t, fIx_s, fLen_l, fLen_t, fLen_s, fInt_i, fInt_b, fList_l, fList_t, fIsN_n, fNotN_n, isN_i, gAppend_1, gPop_c, fFld_i, fRev_l, pl_i, fIsi_i, fIsi_b, fIsi_n, fIsi_l, fIsi_t, List.length_map, anyI, pl_ints, if_false_t, Nat.reduceAdd]
              refine ⟨by decide, ?_⟩
              refine lcN_fm D.int (fun _ => true) (fun i => rowI (row ++ [i])) (intoOf rs (0 + a)) [] (fun i hi M M2 hM hM2 => ?_) (by rw [List.length_nil]; omega) ?_
              · have hrow := hbl row List.mem_cons_self
                have hM' := hM rfl
                unfold rowI at hM'
                rw [List.map_append] at hM'
                simp only [rowI, shut_eq, dSeq, dSet, dRet, dExpr, dIfS, dNil, dIf, dTst, dBin, dUn, dVar, dC, dAnd, dOr, dNot, dAndV, dOrV, dNotV, dChain, dANil, dACons, dLst, dTup, dFld, dAsg, dgN, dSetIx, dLM, hasL, atL, dSetF, dCall, dCallR, hasO, dMeth, dMake, run_eq, dEnd_nx, dEnd_rt, dEnd_ex, outS, dLc, dLcG, dLcR, dFor, dForG, dForR, wipeD, backD, dYes, fLt, fLe, fGt, fGe, fEq, fNe, fIn, fNotIn, eqv_int, at_0, at_1, at_2, at_3, ix_0, ix_1, ix_2, ix_3, List.getElem?_cons_zero, List.getElem?_cons_succ, List.set_cons_zero, List.set_cons_succ, List.cons_append, List.nil_append, List.replicate_succ, List.replicate_zero, List.map_cons, List.map_nil, List.take_succ_cons, List.take_zero, List.length_cons, List.length_nil, List.take, List.length_set, pk_d, pk_fr, pk_sl, stab_d, stab_fr, stab_sl, fz_d, fz_fr, fz_sl, toD_l, toD_i, toD_k, re_rf, re_ow, store_d, store_fr, store_sl, outV_d, outV_fr, outV_sl, items_l, items_t, items_s, rng_1, rng_2, dgT_t, setAll_0, setAll_s, putR_rf, madeQ_n, fAdd_i, fAdd_l, fSub_i, fMul_i, fDiv_i, fMod_i, fPow_i, fNeg_i, fCmp_i, fIn_l, fNotIn_l, fIx_l, fIx_t, fIx_s, fLen_l, fLen_t, fLen_s, fInt_i, fInt_b, fList_l, fList_t, fIsN_n, fNotN_n, isN_i, gAppend_1, gPop_c, fFld_i, fRev_l, pl_i, fIsi_i, fIsi_b, fIsi_n, fIsi_l, fIsi_t, List.length_map, anyI, pl_ints, if_false_t, Nat.reduceAdd, if_true]
                exact ⟨by decide, by decide, by omega, hM'⟩
              · have e9 : ([] : List D) ++ List.map (fun i => rowI (row ++ [i])) (List.filter (fun _ => true) (intoOf rs (0 + a))) = ((intoOf rs (0 + a)).map fun i => row ++ [i]).map rowI := by
                  rw [List.filter_eq_self.mpr fun _ _ => rfl]
                  simp
                rw [e9]
                simp only [rowI, shut_eq, dSeq, dSet, dRet, dExpr, dIfS, dNil, dIf, dTst, dBin, dUn, dVar, dC, dAnd, dOr, dNot, dAndV, dOrV, dNotV, dChain, dANil, dACons, dLst, dTup, dFld, dAsg, dgN, dSetIx, dLM, hasL, atL, dSetF, dCall, dCallR, hasO, dMeth, dMake, run_eq, dEnd_nx, dEnd_rt, dEnd_ex, outS, dLc, dLcG, dLcR, dFor, dForG, dForR, wipeD, backD, dYes, fLt, fLe, fGt, fGe, fEq, fNe, fIn, fNotIn, eqv_int, at_0, at_1, at_2, at_3, ix_0, ix_1, ix_2, ix_3, List.getElem?_cons_zero, List.getElem?_cons_succ, List.set_cons_zero, List.set_cons_succ, List.cons_append, List.nil_append, List.replicate_succ, List.replicate_zero, List.map_cons, List.map_nil, List.take_succ_cons, List.take_zero, List.length_cons, List.length_nil, List.take, List.length_set, pk_d, pk_fr, pk_sl, stab_d, stab_fr, stab_sl, fz_d, fz_fr, fz_sl, toD_l, toD_i, toD_k, re_rf, re_ow, store_d, store_fr, store_sl, outV_d, outV_fr, outV_sl, items_l, items_t, items_s, rng_1, rng_2, dgT_t, setAll_0, setAll_s, putR_rf, madeQ_n, fAdd_i, fAdd_l, fSub_i, fMul_i, fDiv_i, fMod_i, fPow_i, fNeg_i, fCmp_i, fIn_l, fNotIn_l, fIx_l, fIx_t, fIx_s, fLen_l, fLen_t, fLen_s, fInt_i, fInt_b, fList_l, fList_t, fIsN_n, fNotN_n, isN_i, gAppend_1, gPop_c, fFld_i, fRev_l, pl_i, fIsi_i, fIsi_b, fIsi_n, fIsi_l, fIsi_t, List.length_map, anyI, pl_ints, if_false_t, Nat.reduceAdd]
                rw [← List.map_append]
                refine ⟨by omega, by decide, hN2 _ ⟨lg ++ (intoOf rs (0 + a)).map fun i => row ++ [i], .d (.lst ((intoOf rs (0 + a)).map .int)), .d (.lst (row.map .int)), .inr rfl, ?_, fun r hr => hbl r (List.mem_cons_of_mem _ hr), rfl⟩⟩
                rw [← e7]
                unfold ext
                rw [List.flatMap_cons, List.append_assoc]
  · rw [List.length_range, List.length_singleton, Nat.one_mul]
    exact Nat.le_trans (Nat.pow_le_pow_right (by decide) (by omega : many.toNat ≤ 5)) (by decide)
  · intro r hr
    rw [List.mem_singleton.mp hr, List.length_range]
    show 0 + many.toNat ≤ 5
    omega
end Lk02
namespace Lk02
open PySem L2 DW
theorem perm_of_subset : ∀ {as bs : List Int}, as.Nodup → (∀ x, x ∈ as → x ∈ bs) → bs.length ≤ as.length → as.Perm bs
  | [], bs, _, _, hl => by
    have : bs = [] := List.length_eq_zero_iff.mp (Nat.le_zero.mp hl)
    rw [this]
  | x :: as, bs, h, hs, hl => by
    have h' := List.nodup_cons.mp h
    have hx := hs x List.mem_cons_self
    have e := List.perm_cons_erase hx
    have l := e.length_eq
    rw [List.length_cons] at l hl
    have ih := perm_of_subset (as := as) (bs := bs.erase x) h'.2 (fun y hy => (List.mem_erase_of_ne (fun q : y = x => h'.1 (q ▸ hy))).mpr (hs y (List.mem_cons_of_mem _ hy))) (by omega)
    exact (ih.cons x).trans e.symm
theorem range_nodup {n : Nat} : ((List.range n).map fun i => (0 : Int) + (i : Nat)).Nodup := List.Pairwise.map (R := (· ≠ ·)) (S := (· ≠ ·)) _ (fun a b h e => h (by omega)) List.nodup_range
theorem others_nodup {many root : Int} : (others many root).Nodup := by
  unfold others
  exact List.Pairwise.filter _ range_nodup
theorem others_mem {many root p : Int} : p ∈ others many root ↔ 0 ≤ p ∧ p < many ∧ p ≠ root := by
  unfold others
  simp only [List.mem_filter, List.mem_map, List.mem_range, decide_eq_true_eq]
  constructor
  · rintro ⟨⟨n, h, rfl⟩, h2⟩
    exact ⟨by omega, by omega, h2⟩
  · rintro ⟨h1, h2, h3⟩
    exact ⟨⟨p.toNat, by omega, by omega⟩, h3⟩
theorem others_len {many root : Int} (h0 : 0 ≤ root) (h1 : root < many) : ((others many root).length : Int) = many - 1 := by
  have hp : (root :: others many root).Perm ((List.range many.toNat).map fun i => (0 : Int) + (i : Nat)) := by
    refine perm_of_subset (List.nodup_cons.mpr ⟨fun h => (others_mem.mp h).2.2 rfl, others_nodup⟩) (fun x hx => ?_) ?_
    · rcases List.mem_cons.mp hx with rfl | hx
      · exact List.mem_map.mpr ⟨x.toNat, List.mem_range.mpr (by omega), by omega⟩
      · exact (List.mem_filter.mp hx).1
    · rw [List.length_map, List.length_range]
      have := len_le_of_subset (fs := (List.range many.toNat).map fun i => (0 : Int) + (i : Nat)) (gs := root :: others many root) range_nodup fun x hx => ?_
      · rw [List.length_map, List.length_range] at this
        exact this
      · by_cases e : x = root
        · rw [e]; exact List.mem_cons_self
        · exact List.mem_cons_of_mem _ (List.mem_filter.mpr ⟨hx, by simpa using e⟩)
  have l := hp.length_eq
  rw [List.length_cons, List.length_map, List.length_range] at l
  omega
theorem pick_mem {rs : List Road} {ns ms : List Int} (h : ∀ i, i ∈ ns → i ∈ ms) : ∀ r, r ∈ pick rs ns → r ∈ pick rs ms := fun r hr => by
  unfold pick at hr ⊢
  obtain ⟨i, hi, e⟩ := List.mem_map.mp hr
  exact List.mem_map.mpr ⟨i, h i hi, e⟩
theorem Full.of {many root : Int} {rs : List Road} {ns ms : List Int} (h : ∀ i, i ∈ ns ↔ i ∈ ms) (f : Full many root (pick rs ns)) : Full many root (pick rs ms) := by
  obtain ⟨fs, a, b, c⟩ := f
  exact ⟨fs, a, fun x => (b x).trans ⟨Rch.mono (pick_mem fun i hi => (h i).mp hi), Rch.mono (pick_mem fun i hi => (h i).mpr hi)⟩, c⟩
theorem tree_iff {many root : Int} {rs : List Road} {ns : List Int} (h0 : 0 ≤ root) (h1 : root < many) (hg : ∀ r, r ∈ rs → GoodRoad many r) : IsTree many root rs ns ↔ ∃ row, GoodRow rs row ∧ row.map (goalOf rs) = others many root ∧ Full many root (pick rs row) ∧ sortI ns = sortI row := by
  constructor
  · rintro ⟨nd, hl, hr, fs, fnd, hfs, fl⟩
    have hin : ∀ x, x ∈ fs → x ∈ (List.range many.toNat).map fun i => (0 : Int) + (i : Nat) := fun x hx => by
      have : 0 ≤ x ∧ x < many := by
        rcases ((hfs x).mp hx).cases' with rfl | ⟨r, hr2, rfl⟩
        · exact ⟨h0, h1⟩
        · unfold pick at hr2
          obtain ⟨i, hi, rfl⟩ := List.mem_map.mp hr2
          obtain ⟨n, rfl⟩ := Int.eq_ofNat_of_zero_le (hr i hi).1
          have hn : n < rs.length := by
            have := (hr _ hi).2
            omega
          rw [Int.toNat_natCast, List.getElem?_eq_getElem hn]
          obtain ⟨_, _, a, b, _⟩ := hg rs[n] (List.getElem_mem hn)
          exact ⟨a, b⟩
      exact List.mem_map.mpr ⟨x.toNat, List.mem_range.mpr (by omega), by omega⟩
    have hall := perm_of_subset fnd hin (by rw [List.length_map, List.length_range]; omega)
    have hcov : ∀ p, p ∈ others many root → ∃ i, i ∈ ns ∧ goalOf rs i = p := fun p hp => by
      have hp1 : p ∈ fs := hall.mem_iff.mpr (List.mem_filter.mp hp).1
      rcases ((hfs p).mp hp1).cases' with q | ⟨r, hr2, q⟩
      · exact absurd q (others_mem.mp hp).2.2
      · unfold pick at hr2
        obtain ⟨i, hi, rfl⟩ := List.mem_map.mp hr2
        exact ⟨i, hi, q⟩
    have hfind : ∀ p, p ∈ others many root → (ns.find? fun i => decide (goalOf rs i = p)).getD 0 ∈ ns ∧ goalOf rs ((ns.find? fun i => decide (goalOf rs i = p)).getD 0) = p := fun p hp => by
      obtain ⟨i, hi, q⟩ := hcov p hp
      cases c : ns.find? fun i => decide (goalOf rs i = p) with
      | none => exact absurd q (by simpa using List.find?_eq_none.mp c i hi)
      | some j => exact ⟨List.mem_of_find?_eq_some c, by simpa using List.find?_some c⟩
    have hmap : ((others many root).map fun p => (ns.find? fun i => decide (goalOf rs i = p)).getD 0).map (goalOf rs) = others many root := by
      rw [List.map_map]
      exact (List.map_congr_left fun p hp => (hfind p hp).2).trans (List.map_id _)
    have hsub : ∀ x, x ∈ ((others many root).map fun p => (ns.find? fun i => decide (goalOf rs i = p)).getD 0) → x ∈ ns := fun x hx => by
      obtain ⟨p, hp, rfl⟩ := List.mem_map.mp hx
      exact (hfind p hp).1
    have hnd : ((others many root).map fun p => (ns.find? fun i => decide (goalOf rs i = p)).getD 0).Nodup := by
      have : (((others many root).map fun p => (ns.find? fun i => decide (goalOf rs i = p)).getD 0).map (goalOf rs)).Nodup := by
        rw [hmap]
        exact others_nodup
      exact List.Pairwise.of_map (R := (· ≠ ·)) (S := (· ≠ ·)) _ (fun a b h q => h (by rw [q])) this
    have hol := others_len h0 h1
    have hp := perm_of_subset hnd hsub (by rw [List.length_map]; omega)
    exact ⟨_, fun i hi => hr i (hsub i hi), hmap, Full.of (fun i => hp.mem_iff.symm) ⟨fs, fnd, hfs, fl⟩, sortI_iff.mpr hp.symm⟩
  · rintro ⟨row, gr, e, f, es⟩
    have hp := sortI_iff.mp es
    have rnd : row.Nodup := by
      have : (row.map (goalOf rs)).Nodup := e ▸ others_nodup
      exact List.Pairwise.of_map (R := (· ≠ ·)) (S := (· ≠ ·)) _ (fun a b h q => h (by rw [q])) this
    refine ⟨hp.nodup_iff.mpr rnd, ?_, fun i hi => gr i (hp.mem_iff.mp hi), Full.of (fun i => hp.mem_iff.symm) f⟩
    rw [hp.length_eq, ← others_len h0 h1, ← e, List.length_map]
end Lk02
namespace DW
open PySem L2
theorem lcN_ind {α : Type} (f : α → D) {dg : DTG} {dt : DTT} {de : DTE} {vs : List Nat} {Q : List D → List SV → Prop} (P : List α → List D → List SV → Prop) (h0 : ∀ acc ρ, P [] acc ρ → Q acc ρ)
    (hs : ∀ a as acc ρ (N : List D → List SV → Prop), P (a :: as) acc ρ → (∀ acc' ρ', P as acc' ρ' → N acc' ρ') → dg (f a) ρ fun ρ1 => dt ρ1 (fun k ρ2 => if k = true then de ρ2 (fun y ρ3 => stab y ρ3 fun c ρ4 => acc.length < sizeLine ∧ N (acc ++ [c]) (wipeD ρ4 vs)) (fun _ _ => False) else N acc (wipeD ρ2 vs)) (fun _ _ => False)) :
    ∀ xs acc ρ, P xs acc ρ → dLcN dg dt de vs Q (xs.map f) acc ρ
  | [], acc, ρ, h => h0 acc ρ h
  | a :: as, acc, ρ, h => hs a as acc ρ _ h fun acc' ρ' h' => lcN_ind f P h0 hs as acc' ρ' h'
end DW
namespace Lk02
open PySem L2 DW
theorem law1 {A : Cs} {ns : List Int} {o : OO} {many root : Int} {rs : List Road} {xs : List Int} {x2 x6 x7 x8 x9 x10 : SV} {Q : DV → List SV → Prop} {E : DExc → List SV → Prop}
    (h0 : 0 ≤ root) (h1 : root < many) (hm : many ≤ 5) (hl : rs.length ≤ 9) (hg : ∀ r, r ∈ rs → GoodRoad many r) (hx : xs.length ≤ 100)
    (h7 : x7 = .ow (.l (xs.map .int)) ∨ x7 = .d (.lst (xs.map .int))) (k : Q (.d (.bl true)) [.un]) :
    r_law_3 A (dEnd 1 Q E) [.d (.scr ns), .ow o, x2, .d (.int many), .d (.int root), .d (.lst (rowsD rs)), x6, x7, x8, x9, x10, .un, .un, .un, .un, .un] := by
  unfold r_law_3 r_law_2
  have hz : sizeLine = 16777216 := by decide
  have er : (rowsD rs).length = rs.length := List.length_map ..
  rcases h7 with rfl | rfl
  all_goals
    simp only [shut_eq, dSeq, dSet, dRet, dExpr, dIfS, dNil, dIf, dTst, dBin, dUn, dVar, dC, dAnd, dOr, dNot, dAndV, dOrV, dNotV, dChain, dANil, dACons, dLst, dTup, dFld, dAsg, dgN, dSetIx, dLM, hasL, atL, dSetF, dCall, dCallR, hasO, dMeth, dMake, run_eq, dEnd_nx, dEnd_rt, dEnd_ex, outS, dLc, dLcG, dLcR, dFor, dForG, dForR, wipeD, backD, dYes, fLt, fLe, fGt, fGe, fEq, fNe, fIn, fNotIn, eqv_int, at_0, at_1, at_2, at_3, ix_0, ix_1, ix_2, ix_3, List.getElem?_cons_zero, List.getElem?_cons_succ, List.set_cons_zero, List.set_cons_succ, List.cons_append, List.nil_append, List.replicate_succ, List.replicate_zero, List.map_cons, List.map_nil, List.take_succ_cons, List.take_zero, List.length_cons, List.length_nil, List.take, List.length_set, pk_d, pk_fr, pk_sl, stab_d, stab_fr, stab_sl, fz_d, fz_fr, fz_sl, toD_l, toD_i, toD_k, re_rf, re_ow, store_d, store_fr, store_sl, outV_d, outV_fr, outV_sl, items_l, items_t, items_s, rng_1, rng_2, dgT_t, setAll_0, setAll_s, putR_rf, madeQ_n, fAdd_i, fAdd_l, fSub_i, fMul_i, fDiv_i, fMod_i, fPow_i, fNeg_i, fCmp_i, fIn_l, fNotIn_l, fIx_l, fIx_t, fIx_s, fLen_l, fLen_t, fLen_s, fInt_i, fInt_b, fList_l, fList_t, fIsN_n, fNotN_n, isN_i, gAppend_1, gPop_c, fFld_i, fRev_l, pl_i, fIsi_i, fIsi_b, fIsi_n, fIsi_l, fIsi_t, List.length_map, anyI, pl_ints, if_false_t, Nat.reduceAdd]
    refine lcN_fm D.int (fun i => decide (0 ≤ i) && decide (i < rs.length)) D.int xs [] (fun i hi M M2 hM hM2 => ?_) (by rw [List.length_nil]; omega) ?_
    · simp only [shut_eq, dSeq, dSet, dRet, dExpr, dIfS, dNil, dIf, dTst, dBin, dUn, dVar, dC, dAnd, dOr, dNot, dAndV, dOrV, dNotV, dChain, dANil, dACons, dLst, dTup, dFld, dAsg, dgN, dSetIx, dLM, hasL, atL, dSetF, dCall, dCallR, hasO, dMeth, dMake, run_eq, dEnd_nx, dEnd_rt, dEnd_ex, outS, dLc, dLcG, dLcR, dFor, dForG, dForR, wipeD, backD, dYes, fLt, fLe, fGt, fGe, fEq, fNe, fIn, fNotIn, eqv_int, at_0, at_1, at_2, at_3, ix_0, ix_1, ix_2, ix_3, List.getElem?_cons_zero, List.getElem?_cons_succ, List.set_cons_zero, List.set_cons_succ, List.cons_append, List.nil_append, List.replicate_succ, List.replicate_zero, List.map_cons, List.map_nil, List.take_succ_cons, List.take_zero, List.length_cons, List.length_nil, List.take, List.length_set, pk_d, pk_fr, pk_sl, stab_d, stab_fr, stab_sl, fz_d, fz_fr, fz_sl, toD_l, toD_i, toD_k, re_rf, re_ow, store_d, store_fr, store_sl, outV_d, outV_fr, outV_sl, items_l, items_t, items_s, rng_1, rng_2, dgT_t, setAll_0, setAll_s, putR_rf, madeQ_n, fAdd_i, fAdd_l, fSub_i, fMul_i, fDiv_i, fMod_i, fPow_i, fNeg_i, fCmp_i, fIn_l, fNotIn_l, fIx_l, fIx_t, fIx_s, fLen_l, fLen_t, fLen_s, fInt_i, fInt_b, fList_l, fList_t, fIsN_n, fNotN_n, isN_i, gAppend_1, gPop_c, fFld_i, fRev_l, pl_i, fIsi_i, fIsi_b, fIsi_n, fIsi_l, fIsi_t, List.length_map, anyI, pl_ints, if_false_t, Nat.reduceAdd]
      refine ⟨by decide, ?_⟩
      by_cases d1 : 0 ≤ i
      · rw [if_pos (decide_eq_true d1)]
        by_cases d2 : i < rs.length
        · rw [if_pos (by rw [er]; simp [d2])]
          exact hM (by simp [d1, d2])
        · rw [if_neg (by rw [er]; simpa using d2)]
          exact hM2 (by simp [d2])
      · rw [if_neg (by simpa using d1)]
        exact hM2 (by simp [d1])
    · rw [List.nil_append]
      have hr : ∀ i, i ∈ List.filter (fun i => decide (0 ≤ i) && decide (i < (rs.length : Int))) xs → 0 ≤ i ∧ i < rs.length := fun i hi => by simpa using (List.mem_filter.mp hi).2
      have hfl : (List.filter (fun i => decide (0 ≤ i) && decide (i < (rs.length : Int))) xs).length ≤ 100 := Nat.le_trans (List.length_filter_le _ _) hx
      generalize List.filter (fun i => decide (0 ≤ i) && decide (i < (rs.length : Int))) xs = zs at hr hfl
      simp only [shut_eq, dSeq, dSet, dRet, dExpr, dIfS, dNil, dIf, dTst, dBin, dUn, dVar, dC, dAnd, dOr, dNot, dAndV, dOrV, dNotV, dChain, dANil, dACons, dLst, dTup, dFld, dAsg, dgN, dSetIx, dLM, hasL, atL, dSetF, dCall, dCallR, hasO, dMeth, dMake, run_eq, dEnd_nx, dEnd_rt, dEnd_ex, outS, dLc, dLcG, dLcR, dFor, dForG, dForR, wipeD, backD, dYes, fLt, fLe, fGt, fGe, fEq, fNe, fIn, fNotIn, eqv_int, at_0, at_1, at_2, at_3, ix_0, ix_1, ix_2, ix_3, List.getElem?_cons_zero, List.getElem?_cons_succ, List.set_cons_zero, List.set_cons_succ, List.cons_append, List.nil_append, List.replicate_succ, List.replicate_zero, List.map_cons, List.map_nil, List.take_succ_cons, List.take_zero, List.length_cons, List.length_nil, List.take, List.length_set, pk_d, pk_fr, pk_sl, stab_d, stab_fr, stab_sl, fz_d, fz_fr, fz_sl, toD_l, toD_i, toD_k, re_rf, re_ow, store_d, store_fr, store_sl, outV_d, outV_fr, outV_sl, items_l, items_t, items_s, rng_1, rng_2, dgT_t, setAll_0, setAll_s, putR_rf, madeQ_n, fAdd_i, fAdd_l, fSub_i, fMul_i, fDiv_i, fMod_i, fPow_i, fNeg_i, fCmp_i, fIn_l, fNotIn_l, fIx_l, fIx_t, fIx_s, fLen_l, fLen_t, fLen_s, fInt_i, fInt_b, fList_l, fList_t, fIsN_n, fNotN_n, isN_i, gAppend_1, gPop_c, fFld_i, fRev_l, pl_i, fIsi_i, fIsi_b, fIsi_n, fIsi_l, fIsi_t, List.length_map, anyI, pl_ints, if_false_t, Nat.reduceAdd]
      refine ⟨by decide, trivial, init_any (by omega) h0 h1 (by omega) hg ?_⟩
      simp only [shut_eq, dSeq, dSet, dRet, dExpr, dIfS, dNil, dIf, dTst, dBin, dUn, dVar, dC, dAnd, dOr, dNot, dAndV, dOrV, dNotV, dChain, dANil, dACons, dLst, dTup, dFld, dAsg, dgN, dSetIx, dLM, hasL, atL, dSetF, dCall, dCallR, hasO, dMeth, dMake, run_eq, dEnd_nx, dEnd_rt, dEnd_ex, outS, dLc, dLcG, dLcR, dFor, dForG, dForR, wipeD, backD, dYes, fLt, fLe, fGt, fGe, fEq, fNe, fIn, fNotIn, eqv_int, at_0, at_1, at_2, at_3, ix_0, ix_1, ix_2, ix_3, List.getElem?_cons_zero, List.getElem?_cons_succ, List.set_cons_zero, List.set_cons_succ, List.cons_append, List.nil_append, List.replicate_succ, List.replicate_zero, List.map_cons, List.map_nil, List.take_succ_cons, List.take_zero, List.length_cons, List.length_nil, List.take, List.length_set, pk_d, pk_fr, pk_sl, stab_d, stab_fr, stab_sl, fz_d, fz_fr, fz_sl, toD_l, toD_i, toD_k, re_rf, re_ow, store_d, store_fr, store_sl, outV_d, outV_fr, outV_sl, items_l, items_t, items_s, rng_1, rng_2, dgT_t, setAll_0, setAll_s, putR_rf, madeQ_n, fAdd_i, fAdd_l, fSub_i, fMul_i, fDiv_i, fMod_i, fPow_i, fNeg_i, fCmp_i, fIn_l, fNotIn_l, fIx_l, fIx_t, fIx_s, fLen_l, fLen_t, fLen_s, fInt_i, fInt_b, fList_l, fList_t, fIsN_n, fNotN_n, isN_i, gAppend_1, gPop_c, fFld_i, fRev_l, pl_i, fIsi_i, fIsi_b, fIsi_n, fIsi_l, fIsi_t, List.length_map, anyI, pl_ints, if_false_t, Nat.reduceAdd]
      refine ⟨trivial, cost_of_any (by omega) hr ?_⟩
      simp only [shut_eq, dSeq, dSet, dRet, dExpr, dIfS, dNil, dIf, dTst, dBin, dUn, dVar, dC, dAnd, dOr, dNot, dAndV, dOrV, dNotV, dChain, dANil, dACons, dLst, dTup, dFld, dAsg, dgN, dSetIx, dLM, hasL, atL, dSetF, dCall, dCallR, hasO, dMeth, dMake, run_eq, dEnd_nx, dEnd_rt, dEnd_ex, outS, dLc, dLcG, dLcR, dFor, dForG, dForR, wipeD, backD, dYes, fLt, fLe, fGt, fGe, fEq, fNe, fIn, fNotIn, eqv_int, at_0, at_1, at_2, at_3, ix_0, ix_1, ix_2, ix_3, List.getElem?_cons_zero, List.getElem?_cons_succ, List.set_cons_zero, List.set_cons_succ, List.cons_append, List.nil_append, List.replicate_succ, List.replicate_zero, List.map_cons, List.map_nil, List.take_succ_cons, List.take_zero, List.length_cons, List.length_nil, List.take, List.length_set, pk_d, pk_fr, pk_sl, stab_d, stab_fr, stab_sl, fz_d, fz_fr, fz_sl, toD_l, toD_i, toD_k, re_rf, re_ow, store_d, store_fr, store_sl, outV_d, outV_fr, outV_sl, items_l, items_t, items_s, rng_1, rng_2, dgT_t, setAll_0, setAll_s, putR_rf, madeQ_n, fAdd_i, fAdd_l, fSub_i, fMul_i, fDiv_i, fMod_i, fPow_i, fNeg_i, fCmp_i, fIn_l, fNotIn_l, fIx_l, fIx_t, fIx_s, fLen_l, fLen_t, fLen_s, fInt_i, fInt_b, fList_l, fList_t, fIsN_n, fNotN_n, isN_i, gAppend_1, gPop_c, fFld_i, fRev_l, pl_i, fIsi_i, fIsi_b, fIsi_n, fIsi_l, fIsi_t, List.length_map, anyI, pl_ints, if_false_t, Nat.reduceAdd]
      refine lcN_fm D.int (fun _ => true) (fun i => .int (rs[i.toNat]?.getD (0, 0, 0)).2.2) zs [] (fun i hi M M2 hM hM2 => ?_) (by rw [List.length_nil]; omega) ?_
      · simp only [shut_eq, dSeq, dSet, dRet, dExpr, dIfS, dNil, dIf, dTst, dBin, dUn, dVar, dC, dAnd, dOr, dNot, dAndV, dOrV, dNotV, dChain, dANil, dACons, dLst, dTup, dFld, dAsg, dgN, dSetIx, dLM, hasL, atL, dSetF, dCall, dCallR, hasO, dMeth, dMake, run_eq, dEnd_nx, dEnd_rt, dEnd_ex, outS, dLc, dLcG, dLcR, dFor, dForG, dForR, wipeD, backD, dYes, fLt, fLe, fGt, fGe, fEq, fNe, fIn, fNotIn, eqv_int, at_0, at_1, at_2, at_3, ix_0, ix_1, ix_2, ix_3, List.getElem?_cons_zero, List.getElem?_cons_succ, List.set_cons_zero, List.set_cons_succ, List.cons_append, List.nil_append, List.replicate_succ, List.replicate_zero, List.map_cons, List.map_nil, List.take_succ_cons, List.take_zero, List.length_cons, List.length_nil, List.take, List.length_set, pk_d, pk_fr, pk_sl, stab_d, stab_fr, stab_sl, fz_d, fz_fr, fz_sl, toD_l, toD_i, toD_k, re_rf, re_ow, store_d, store_fr, store_sl, outV_d, outV_fr, outV_sl, items_l, items_t, items_s, rng_1, rng_2, dgT_t, setAll_0, setAll_s, putR_rf, madeQ_n, fAdd_i, fAdd_l, fSub_i, fMul_i, fDiv_i, fMod_i, fPow_i, fNeg_i, fCmp_i, fIn_l, fNotIn_l, fIx_l, fIx_t, fIx_s, fLen_l, fLen_t, fLen_s, fInt_i, fInt_b, fList_l, fList_t, fIsN_n, fNotN_n, isN_i, gAppend_1, gPop_c, fFld_i, fRev_l, pl_i, fIsi_i, fIsi_b, fIsi_n, fIsi_l, fIsi_t, List.length_map, anyI, pl_ints, if_false_t, Nat.reduceAdd, pick_at (hr i hi), roadD, if_true]
        exact ⟨by decide, hM rfl⟩
      · have e2 : ([] : List D) ++ List.map (fun i : Int => D.int (rs[i.toNat]?.getD (0, 0, 0)).2.2) (List.filter (fun _ => true) zs) = (((pick rs zs).map (·.2.2)).map D.int) := by
          rw [List.filter_eq_self.mpr fun _ _ => rfl]
          unfold pick
          simp
        rw [e2, fSum_ints]
        simp only [shut_eq, dSeq, dSet, dRet, dExpr, dIfS, dNil, dIf, dTst, dBin, dUn, dVar, dC, dAnd, dOr, dNot, dAndV, dOrV, dNotV, dChain, dANil, dACons, dLst, dTup, dFld, dAsg, dgN, dSetIx, dLM, hasL, atL, dSetF, dCall, dCallR, hasO, dMeth, dMake, run_eq, dEnd_nx, dEnd_rt, dEnd_ex, outS, dLc, dLcG, dLcR, dFor, dForG, dForR, wipeD, backD, dYes, fLt, fLe, fGt, fGe, fEq, fNe, fIn, fNotIn, eqv_int, at_0, at_1, at_2, at_3, ix_0, ix_1, ix_2, ix_3, List.getElem?_cons_zero, List.getElem?_cons_succ, List.set_cons_zero, List.set_cons_succ, List.cons_append, List.nil_append, List.replicate_succ, List.replicate_zero, List.map_cons, List.map_nil, List.take_succ_cons, List.take_zero, List.length_cons, List.length_nil, List.take, List.length_set, pk_d, pk_fr, pk_sl, stab_d, stab_fr, stab_sl, fz_d, fz_fr, fz_sl, toD_l, toD_i, toD_k, re_rf, re_ow, store_d, store_fr, store_sl, outV_d, outV_fr, outV_sl, items_l, items_t, items_s, rng_1, rng_2, dgT_t, setAll_0, setAll_s, putR_rf, madeQ_n, fAdd_i, fAdd_l, fSub_i, fMul_i, fDiv_i, fMod_i, fPow_i, fNeg_i, fCmp_i, fIn_l, fNotIn_l, fIx_l, fIx_t, fIx_s, fLen_l, fLen_t, fLen_s, fInt_i, fInt_b, fList_l, fList_t, fIsN_n, fNotN_n, isN_i, gAppend_1, gPop_c, fFld_i, fRev_l, pl_i, fIsi_i, fIsi_b, fIsi_n, fIsi_l, fIsi_t, List.length_map, anyI, pl_ints, if_false_t, Nat.reduceAdd]
        exact ⟨trivial, like_intT k⟩
theorem law2 {A : Cs} {ns : List Int} {o : OO} {many root : Int} {rs : List Road} {ts : List (Int × List Int)} {xs : List Int} {x6 x7 : SV} {Q : DV → List SV → Prop} {E : DExc → List SV → Prop}
    (h0 : 0 ≤ root) (h1 : root < many) (hm : many ≤ 5) (hl : rs.length ≤ 9) (hg : ∀ r, r ∈ rs → GoodRoad many r) (htl : ts.length ≤ 100000)
    (hts : ∀ t, t ∈ ts ↔ ∃ row, GoodRow rs row ∧ row.map (goalOf rs) = others many root ∧ Full many root (pick rs row) ∧ t = (((pick rs row).map (·.2.2)).sum, sortI row))
    (hx : xs.length ≤ 100) (h6 : x6 = .ow (.l (ts.map treeD)) ∨ x6 = .d (.lst (ts.map treeD))) (h7 : x7 = .ow (.l (xs.map .int)) ∨ x7 = .d (.lst (xs.map .int)))
    (k : Q (.d (.bl true)) [.un]) :
    r_law_6 A (dEnd 1 Q E) [.d (.scr ns), .ow o, .d (.tup [.int many, .int root, .lst (rowsD rs)]), .d (.int many), .d (.int root), .d (.lst (rowsD rs)), x6, x7, .un, .un, .un, .un, .un, .un, .un, .un] := by
  unfold r_law_6 r_law_5 r_law_4
  have hz : sizeLine = 16777216 := by decide
  have hpl : (D.lst (ts.map fun t => D.lst (t.2.map .int))).pl 8 = true := by
    show D.plL (ts.map fun t => D.lst (t.2.map .int)) 7 = true
    clear hts htl h6
    induction ts with
    | nil => simp [D.plL]
    | cons t ts ih => simp [D.plL, D.pl, plL_ints, ih]
  have hany : ∀ b : Bool, (b = true ↔ IsTree many root rs xs) → ((ts.map fun t => D.lst (t.2.map .int)).any fun z => z.eqv (.lst ((sortI xs).map .int))) = b := fun b hb => by
    rw [Bool.eq_iff_iff, hb, tree_iff h0 h1 hg, List.any_eq_true]
    constructor
    · rintro ⟨z, hz, e⟩
      obtain ⟨t, ht, rfl⟩ := List.mem_map.mp hz
      rw [eqv_ints, decide_eq_true_eq] at e
      obtain ⟨row, a, b, c, rfl⟩ := (hts t).mp ht
      exact ⟨row, a, b, c, e.symm⟩
    · rintro ⟨row, a, b, c, d⟩
      exact ⟨_, List.mem_map.mpr ⟨_, (hts _).mpr ⟨row, a, b, c, rfl⟩, rfl⟩, by rw [eqv_ints, decide_eq_true_eq]; exact d.symm⟩
  rcases h7 with rfl | rfl <;> rcases h6 with rfl | rfl
  all_goals
    simp only [shut_eq, dSeq, dSet, dRet, dExpr, dIfS, dNil, dIf, dTst, dBin, dUn, dVar, dC, dAnd, dOr, dNot, dAndV, dOrV, dNotV, dChain, dANil, dACons, dLst, dTup, dFld, dAsg, dgN, dSetIx, dLM, hasL, atL, dSetF, dCall, dCallR, hasO, dMeth, dMake, run_eq, dEnd_nx, dEnd_rt, dEnd_ex, outS, dLc, dLcG, dLcR, dFor, dForG, dForR, wipeD, backD, dYes, fLt, fLe, fGt, fGe, fEq, fNe, fIn, fNotIn, eqv_int, at_0, at_1, at_2, at_3, ix_0, ix_1, ix_2, ix_3, List.getElem?_cons_zero, List.getElem?_cons_succ, List.set_cons_zero, List.set_cons_succ, List.cons_append, List.nil_append, List.replicate_succ, List.replicate_zero, List.map_cons, List.map_nil, List.take_succ_cons, List.take_zero, List.length_cons, List.length_nil, List.take, List.length_set, pk_d, pk_fr, pk_sl, stab_d, stab_fr, stab_sl, fz_d, fz_fr, fz_sl, toD_l, toD_i, toD_k, re_rf, re_ow, store_d, store_fr, store_sl, outV_d, outV_fr, outV_sl, items_l, items_t, items_s, rng_1, rng_2, dgT_t, setAll_0, setAll_s, putR_rf, madeQ_n, fAdd_i, fAdd_l, fSub_i, fMul_i, fDiv_i, fMod_i, fPow_i, fNeg_i, fCmp_i, fIn_l, fNotIn_l, fIx_l, fIx_t, fIx_s, fLen_l, fLen_t, fLen_s, fInt_i, fInt_b, fList_l, fList_t, fIsN_n, fNotN_n, isN_i, gAppend_1, gPop_c, fFld_i, fRev_l, pl_i, fIsi_i, fIsi_b, fIsi_n, fIsi_l, fIsi_t, List.length_map, anyI, pl_ints, if_false_t, Nat.reduceAdd]
    refine ⟨by decide, trivial, init_any (by omega) h0 h1 (by omega) hg ?_⟩
    simp only [shut_eq, dSeq, dSet, dRet, dExpr, dIfS, dNil, dIf, dTst, dBin, dUn, dVar, dC, dAnd, dOr, dNot, dAndV, dOrV, dNotV, dChain, dANil, dACons, dLst, dTup, dFld, dAsg, dgN, dSetIx, dLM, hasL, atL, dSetF, dCall, dCallR, hasO, dMeth, dMake, run_eq, dEnd_nx, dEnd_rt, dEnd_ex, outS, dLc, dLcG, dLcR, dFor, dForG, dForR, wipeD, backD, dYes, fLt, fLe, fGt, fGe, fEq, fNe, fIn, fNotIn, eqv_int, at_0, at_1, at_2, at_3, ix_0, ix_1, ix_2, ix_3, List.getElem?_cons_zero, List.getElem?_cons_succ, List.set_cons_zero, List.set_cons_succ, List.cons_append, List.nil_append, List.replicate_succ, List.replicate_zero, List.map_cons, List.map_nil, List.take_succ_cons, List.take_zero, List.length_cons, List.length_nil, List.take, List.length_set, pk_d, pk_fr, pk_sl, stab_d, stab_fr, stab_sl, fz_d, fz_fr, fz_sl, toD_l, toD_i, toD_k, re_rf, re_ow, store_d, store_fr, store_sl, outV_d, outV_fr, outV_sl, items_l, items_t, items_s, rng_1, rng_2, dgT_t, setAll_0, setAll_s, putR_rf, madeQ_n, fAdd_i, fAdd_l, fSub_i, fMul_i, fDiv_i, fMod_i, fPow_i, fNeg_i, fCmp_i, fIn_l, fNotIn_l, fIx_l, fIx_t, fIx_s, fLen_l, fLen_t, fLen_s, fInt_i, fInt_b, fList_l, fList_t, fIsN_n, fNotN_n, isN_i, gAppend_1, gPop_c, fFld_i, fRev_l, pl_i, fIsi_i, fIsi_b, fIsi_n, fIsi_l, fIsi_t, List.length_map, anyI, pl_ints, if_false_t, Nat.reduceAdd]
    refine ⟨trivial, is_tree_any (by omega) fun b hb => ?_⟩
    simp only [shut_eq, dSeq, dSet, dRet, dExpr, dIfS, dNil, dIf, dTst, dBin, dUn, dVar, dC, dAnd, dOr, dNot, dAndV, dOrV, dNotV, dChain, dANil, dACons, dLst, dTup, dFld, dAsg, dgN, dSetIx, dLM, hasL, atL, dSetF, dCall, dCallR, hasO, dMeth, dMake, run_eq, dEnd_nx, dEnd_rt, dEnd_ex, outS, dLc, dLcG, dLcR, dFor, dForG, dForR, wipeD, backD, dYes, fLt, fLe, fGt, fGe, fEq, fNe, fIn, fNotIn, eqv_int, at_0, at_1, at_2, at_3, ix_0, ix_1, ix_2, ix_3, List.getElem?_cons_zero, List.getElem?_cons_succ, List.set_cons_zero, List.set_cons_succ, List.cons_append, List.nil_append, List.replicate_succ, List.replicate_zero, List.map_cons, List.map_nil, List.take_succ_cons, List.take_zero, List.length_cons, List.length_nil, List.take, List.length_set, pk_d, pk_fr, pk_sl, stab_d, stab_fr, stab_sl, fz_d, fz_fr, fz_sl, toD_l, toD_i, toD_k, re_rf, re_ow, store_d, store_fr, store_sl, outV_d, outV_fr, outV_sl, items_l, items_t, items_s, rng_1, rng_2, dgT_t, setAll_0, setAll_s, putR_rf, madeQ_n, fAdd_i, fAdd_l, fSub_i, fMul_i, fDiv_i, fMod_i, fPow_i, fNeg_i, fCmp_i, fIn_l, fNotIn_l, fIx_l, fIx_t, fIx_s, fLen_l, fLen_t, fLen_s, fInt_i, fInt_b, fList_l, fList_t, fIsN_n, fNotN_n, isN_i, gAppend_1, gPop_c, fFld_i, fRev_l, pl_i, fIsi_i, fIsi_b, fIsi_n, fIsi_l, fIsi_t, List.length_map, anyI, pl_ints, if_false_t, Nat.reduceAdd]
    refine ⟨by decide, fSorted_ints (by omega) ?_⟩
    simp only [shut_eq, dSeq, dSet, dRet, dExpr, dIfS, dNil, dIf, dTst, dBin, dUn, dVar, dC, dAnd, dOr, dNot, dAndV, dOrV, dNotV, dChain, dANil, dACons, dLst, dTup, dFld, dAsg, dgN, dSetIx, dLM, hasL, atL, dSetF, dCall, dCallR, hasO, dMeth, dMake, run_eq, dEnd_nx, dEnd_rt, dEnd_ex, outS, dLc, dLcG, dLcR, dFor, dForG, dForR, wipeD, backD, dYes, fLt, fLe, fGt, fGe, fEq, fNe, fIn, fNotIn, eqv_int, at_0, at_1, at_2, at_3, ix_0, ix_1, ix_2, ix_3, List.getElem?_cons_zero, List.getElem?_cons_succ, List.set_cons_zero, List.set_cons_succ, List.cons_append, List.nil_append, List.replicate_succ, List.replicate_zero, List.map_cons, List.map_nil, List.take_succ_cons, List.take_zero, List.length_cons, List.length_nil, List.take, List.length_set, pk_d, pk_fr, pk_sl, stab_d, stab_fr, stab_sl, fz_d, fz_fr, fz_sl, toD_l, toD_i, toD_k, re_rf, re_ow, store_d, store_fr, store_sl, outV_d, outV_fr, outV_sl, items_l, items_t, items_s, rng_1, rng_2, dgT_t, setAll_0, setAll_s, putR_rf, madeQ_n, fAdd_i, fAdd_l, fSub_i, fMul_i, fDiv_i, fMod_i, fPow_i, fNeg_i, fCmp_i, fIn_l, fNotIn_l, fIx_l, fIx_t, fIx_s, fLen_l, fLen_t, fLen_s, fInt_i, fInt_b, fList_l, fList_t, fIsN_n, fNotN_n, isN_i, gAppend_1, gPop_c, fFld_i, fRev_l, pl_i, fIsi_i, fIsi_b, fIsi_n, fIsi_l, fIsi_t, List.length_map, anyI, pl_ints, if_false_t, Nat.reduceAdd]
    refine lcN_fm treeD (fun _ => true) (fun t => .lst (t.2.map .int)) ts [] (fun t ht M M2 hM hM2 => ?_) (by rw [List.length_nil]; omega) ?_
    · simp only [treeD, shut_eq, dSeq, dSet, dRet, dExpr, dIfS, dNil, dIf, dTst, dBin, dUn, dVar, dC, dAnd, dOr, dNot, dAndV, dOrV, dNotV, dChain, dANil, dACons, dLst, dTup, dFld, dAsg, dgN, dSetIx, dLM, hasL, atL, dSetF, dCall, dCallR, hasO, dMeth, dMake, run_eq, dEnd_nx, dEnd_rt, dEnd_ex, outS, dLc, dLcG, dLcR, dFor, dForG, dForR, wipeD, backD, dYes, fLt, fLe, fGt, fGe, fEq, fNe, fIn, fNotIn, eqv_int, at_0, at_1, at_2, at_3, ix_0, ix_1, ix_2, ix_3, List.getElem?_cons_zero, List.getElem?_cons_succ, List.set_cons_zero, List.set_cons_succ, List.cons_append, List.nil_append, List.replicate_succ, List.replicate_zero, List.map_cons, List.map_nil, List.take_succ_cons, List.take_zero, List.length_cons, List.length_nil, List.take, List.length_set, pk_d, pk_fr, pk_sl, stab_d, stab_fr, stab_sl, fz_d, fz_fr, fz_sl, toD_l, toD_i, toD_k, re_rf, re_ow, store_d, store_fr, store_sl, outV_d, outV_fr, outV_sl, items_l, items_t, items_s, rng_1, rng_2, dgT_t, setAll_0, setAll_s, putR_rf, madeQ_n, fAdd_i, fAdd_l, fSub_i, fMul_i, fDiv_i, fMod_i, fPow_i, fNeg_i, fCmp_i, fIn_l, fNotIn_l, fIx_l, fIx_t, fIx_s, fLen_l, fLen_t, fLen_s, fInt_i, fInt_b, fList_l, fList_t, fIsN_n, fNotN_n, isN_i, gAppend_1, gPop_c, fFld_i, fRev_l, pl_i, fIsi_i, fIsi_b, fIsi_n, fIsi_l, fIsi_t, List.length_map, anyI, pl_ints, if_false_t, Nat.reduceAdd, if_true]
      exact ⟨by decide, by decide, hM rfl⟩
    · rw [List.filter_eq_self.mpr fun _ _ => rfl, List.nil_append]
      simp only [shut_eq, dSeq, dSet, dRet, dExpr, dIfS, dNil, dIf, dTst, dBin, dUn, dVar, dC, dAnd, dOr, dNot, dAndV, dOrV, dNotV, dChain, dANil, dACons, dLst, dTup, dFld, dAsg, dgN, dSetIx, dLM, hasL, atL, dSetF, dCall, dCallR, hasO, dMeth, dMake, run_eq, dEnd_nx, dEnd_rt, dEnd_ex, outS, dLc, dLcG, dLcR, dFor, dForG, dForR, wipeD, backD, dYes, fLt, fLe, fGt, fGe, fEq, fNe, fIn, fNotIn, eqv_int, at_0, at_1, at_2, at_3, ix_0, ix_1, ix_2, ix_3, List.getElem?_cons_zero, List.getElem?_cons_succ, List.set_cons_zero, List.set_cons_succ, List.cons_append, List.nil_append, List.replicate_succ, List.replicate_zero, List.map_cons, List.map_nil, List.take_succ_cons, List.take_zero, List.length_cons, List.length_nil, List.take, List.length_set, pk_d, pk_fr, pk_sl, stab_d, stab_fr, stab_sl, fz_d, fz_fr, fz_sl, toD_l, toD_i, toD_k, re_rf, re_ow, store_d, store_fr, store_sl, outV_d, outV_fr, outV_sl, items_l, items_t, items_s, rng_1, rng_2, dgT_t, setAll_0, setAll_s, putR_rf, madeQ_n, fAdd_i, fAdd_l, fSub_i, fMul_i, fDiv_i, fMod_i, fPow_i, fNeg_i, fCmp_i, fIn_l, fNotIn_l, fIx_l, fIx_t, fIx_s, fLen_l, fLen_t, fLen_s, fInt_i, fInt_b, fList_l, fList_t, fIsN_n, fNotN_n, isN_i, gAppend_1, gPop_c, fFld_i, fRev_l, pl_i, fIsi_i, fIsi_b, fIsi_n, fIsi_l, fIsi_t, List.length_map, anyI, pl_ints, if_false_t, Nat.reduceAdd, hany b hb]
      refine ⟨trivial, hpl, by decide, ?_⟩
      rw [if_neg (by decide)]
      refine ⟨rfl, rfl, ?_⟩
      have eb : D.eqv (.bl b) (.bl b) = true := by cases b <;> rfl
      rw [eb, if_neg (by decide)]
      refine ⟨trivial, trivial, ?_⟩
      rw [eqv_ints, decide_eq_true rfl, if_neg (by decide)]
      exact law1 h0 h1 hm hl hg hx (by first | exact .inl rfl | exact .inr rfl) k
end Lk02
namespace Lk02
open PySem L2 DW
theorem ix_tree1 {t : Int × List Int} {kv : DV → Prop} : fIx (treeD t) (.int 1) kv = kv (.d (.lst (t.2.map .int))) := rfl
theorem law3 {A : Cs} {ns : List Int} {o : OO} {many root : Int} {rs : List Road} {ts : List (Int × List Int)} {xs : List Int} {x6 x7 : SV} {Q : DV → List SV → Prop} {E : DExc → List SV → Prop} (ho : IsDice ns o)
    (h0 : 0 ≤ root) (h1 : root < many) (hm : many ≤ 5) (hl : rs.length ≤ 9) (hg : ∀ r, r ∈ rs → GoodRoad many r) (htl : ts.length ≤ 100000)
    (hts : ∀ t, t ∈ ts ↔ ∃ row, GoodRow rs row ∧ row.map (goalOf rs) = others many root ∧ Full many root (pick rs row) ∧ t = (((pick rs row).map (·.2.2)).sum, sortI row))
    (hx : xs.length ≤ 100) (h6 : x6 = .ow (.l (ts.map treeD)) ∨ x6 = .d (.lst (ts.map treeD))) (h7 : x7 = .ow (.l (xs.map .int)) ∨ x7 = .d (.lst (xs.map .int)))
    (k : Q (.d (.bl true)) [.un]) :
    r_law_7 A (dEnd 1 Q E) [.d (.scr ns), .ow o, .d (.tup [.int many, .int root, .lst (rowsD rs)]), .d (.int many), .d (.int root), .d (.lst (rowsD rs)), x6, x7, .un, .un, .un, .un, .un, .un, .un, .un] := by
  have er : (rowsD rs).length = rs.length := List.length_map ..
  have et : (ts.map treeD).length = ts.length := List.length_map ..
  have etp : (D.lst (ts.map treeD)).pl 8 = true := by
    show D.plL (ts.map treeD) 7 = true
    clear hts htl h6 et
    induction ts with
    | nil => simp [D.plL]
    | cons t ts ih => simp [D.plL, pl_tree, ih]
  have hm0 : 0 ≤ sizeLine := Nat.zero_le _
  have hrow : ∀ t, t ∈ ts → t.2.length ≤ 5 ∧ (t.2 ≠ [] → 0 < rs.length) := fun t ht => by
    obtain ⟨row, g, e, _, rfl⟩ := (hts t).mp ht
    refine ⟨?_, fun z => ?_⟩
    · show (sortI row).length ≤ 5
      rw [sortI_len]
      have e2 := congrArg List.length e
      rw [List.length_map] at e2
      rw [e2]
      refine Nat.le_trans (List.length_filter_le _ _) ?_
      rw [List.length_map, List.length_range]
      omega
    · cases row with
      | nil => exact absurd (by show sortI [] = []; exact List.mergeSort_nil) z
      | cons i row =>
        have := g i List.mem_cons_self
        omega
  have fin : ∀ (o : OO) (xs : List Int) (x6 x7 : SV), xs.length ≤ 100 → (x6 = .ow (.l (ts.map treeD)) ∨ x6 = .d (.lst (ts.map treeD))) → (x7 = .ow (.l (xs.map .int)) ∨ x7 = .d (.lst (xs.map .int))) →
      r_law_6 A (dEnd 1 Q E) [.d (.scr ns), .ow o, .d (.tup [.int many, .int root, .lst (rowsD rs)]), .d (.int many), .d (.int root), .d (.lst (rowsD rs)), x6, x7, .un, .un, .un, .un, .un, .un, .un, .un] := fun o xs x6 x7 hx h6 h7 => law2 h0 h1 hm hl hg htl hts hx h6 h7 k
  unfold r_law_7
  rcases h6 with rfl | rfl
  all_goals
    simp only [shut_eq, dSeq, dSet, dRet, dExpr, dIfS, dNil, dIf, dTst, dBin, dUn, dVar, dC, dAnd, dOr, dNot, dAndV, dOrV, dNotV, dChain, dANil, dACons, dLst, dTup, dFld, dAsg, dgN, dSetIx, dLM, hasL, atL, dSetF, dCall, dCallR, hasO, dMeth, dMake, run_eq, dEnd_nx, dEnd_rt, dEnd_ex, outS, dLc, dLcG, dLcR, dFor, dForG, dForR, wipeD, backD, dYes, fLt, fLe, fGt, fGe, fEq, fNe, fIn, fNotIn, eqv_int, at_0, at_1, at_2, at_3, ix_0, ix_1, ix_2, ix_3, List.getElem?_cons_zero, List.getElem?_cons_succ, List.set_cons_zero, List.set_cons_succ, List.cons_append, List.nil_append, List.replicate_succ, List.replicate_zero, List.map_cons, List.map_nil, List.take_succ_cons, List.take_zero, List.length_cons, List.length_nil, List.take, List.length_set, pk_d, pk_fr, pk_sl, stab_d, stab_fr, stab_sl, fz_d, fz_fr, fz_sl, toD_l, toD_i, toD_k, re_rf, re_ow, store_d, store_fr, store_sl, outV_d, outV_fr, outV_sl, items_l, items_t, items_s, rng_1, rng_2, dgT_t, setAll_0, setAll_s, putR_rf, madeQ_n, fAdd_i, fAdd_l, fSub_i, fMul_i, fDiv_i, fMod_i, fPow_i, fNeg_i, fCmp_i, fIn_l, fNotIn_l, fIx_l, fIx_t, fIx_s, fLen_l, fLen_t, fLen_s, fInt_i, fInt_b, fList_l, fList_t, fIsN_n, fNotN_n, isN_i, gAppend_1, gPop_c, fFld_i, fRev_l, pl_i, fIsi_i, fIsi_b, fIsi_n, fIsi_l, fIsi_t, List.length_map, anyI, pl_ints, if_false_t, Nat.reduceAdd, eqv_nilD]
    refine ⟨hm0, etp, by decide, ?_⟩
    by_cases c0 : ts = []
    · rw [if_neg (by rw [c0]; decide)]
      exact fin o xs _ _ hx (by first | exact .inl rfl | exact .inr rfl) h7
    · have hlen : 0 < ts.length := List.length_pos_iff.mpr c0
      have hie : (List.map treeD ts).isEmpty = false := by rw [List.isEmpty_eq_false_iff]; exact fun z => c0 (List.map_eq_nil_iff.mp z)
      rw [if_pos (by rw [hie]; rfl)]
      refine ⟨trivial, trivial, next_any ho (by decide) (by decide) fun n1 o1 d1 _ _ => ?_⟩
      simp only [shut_eq, dSeq, dSet, dRet, dExpr, dIfS, dNil, dIf, dTst, dBin, dUn, dVar, dC, dAnd, dOr, dNot, dAndV, dOrV, dNotV, dChain, dANil, dACons, dLst, dTup, dFld, dAsg, dgN, dSetIx, dLM, hasL, atL, dSetF, dCall, dCallR, hasO, dMeth, dMake, run_eq, dEnd_nx, dEnd_rt, dEnd_ex, outS, dLc, dLcG, dLcR, dFor, dForG, dForR, wipeD, backD, dYes, fLt, fLe, fGt, fGe, fEq, fNe, fIn, fNotIn, eqv_int, at_0, at_1, at_2, at_3, ix_0, ix_1, ix_2, ix_3, List.getElem?_cons_zero, List.getElem?_cons_succ, List.set_cons_zero, List.set_cons_succ, List.cons_append, List.nil_append, List.replicate_succ, List.replicate_zero, List.map_cons, List.map_nil, List.take_succ_cons, List.take_zero, List.length_cons, List.length_nil, List.take, List.length_set, pk_d, pk_fr, pk_sl, stab_d, stab_fr, stab_sl, fz_d, fz_fr, fz_sl, toD_l, toD_i, toD_k, re_rf, re_ow, store_d, store_fr, store_sl, outV_d, outV_fr, outV_sl, items_l, items_t, items_s, rng_1, rng_2, dgT_t, setAll_0, setAll_s, putR_rf, madeQ_n, fAdd_i, fAdd_l, fSub_i, fMul_i, fDiv_i, fMod_i, fPow_i, fNeg_i, fCmp_i, fIn_l, fNotIn_l, fIx_l, fIx_t, fIx_s, fLen_l, fLen_t, fLen_s, fInt_i, fInt_b, fList_l, fList_t, fIsN_n, fNotN_n, isN_i, gAppend_1, gPop_c, fFld_i, fRev_l, pl_i, fIsi_i, fIsi_b, fIsi_n, fIsi_l, fIsi_t, List.length_map, anyI, pl_ints, if_false_t, Nat.reduceAdd]
      by_cases c : 0 < n1
      · rw [if_pos (by simpa using c)]
        refine ⟨trivial, trivial, next_any d1 (by omega) (by omega) fun n2 o2 d2 e1 e2 => ?_⟩
        obtain ⟨i, rfl⟩ := Int.eq_ofNat_of_zero_le e1
        have e3 : i < ts.length := by omega
        obtain ⟨t, ht, hat⟩ : ∃ t, t ∈ ts ∧ L2.atI (List.map treeD ts) (i : Int) = some (treeD t) := by
          refine ⟨ts[i], List.getElem_mem _, ?_⟩
          rw [at_nat, List.getElem?_map, List.getElem?_eq_getElem e3]
          rfl
        simp only [shut_eq, dSeq, dSet, dRet, dExpr, dIfS, dNil, dIf, dTst, dBin, dUn, dVar, dC, dAnd, dOr, dNot, dAndV, dOrV, dNotV, dChain, dANil, dACons, dLst, dTup, dFld, dAsg, dgN, dSetIx, dLM, hasL, atL, dSetF, dCall, dCallR, hasO, dMeth, dMake, run_eq, dEnd_nx, dEnd_rt, dEnd_ex, outS, dLc, dLcG, dLcR, dFor, dForG, dForR, wipeD, backD, dYes, fLt, fLe, fGt, fGe, fEq, fNe, fIn, fNotIn, eqv_int, at_0, at_1, at_2, at_3, ix_0, ix_1, ix_2, ix_3, List.getElem?_cons_zero, List.getElem?_cons_succ, List.set_cons_zero, List.set_cons_succ, List.cons_append, List.nil_append, List.replicate_succ, List.replicate_zero, List.map_cons, List.map_nil, List.take_succ_cons, List.take_zero, List.length_cons, List.length_nil, List.take, List.length_set, pk_d, pk_fr, pk_sl, stab_d, stab_fr, stab_sl, fz_d, fz_fr, fz_sl, toD_l, toD_i, toD_k, re_rf, re_ow, store_d, store_fr, store_sl, outV_d, outV_fr, outV_sl, items_l, items_t, items_s, rng_1, rng_2, dgT_t, setAll_0, setAll_s, putR_rf, madeQ_n, fAdd_i, fAdd_l, fSub_i, fMul_i, fDiv_i, fMod_i, fPow_i, fNeg_i, fCmp_i, fIn_l, fNotIn_l, fIx_l, fIx_t, fIx_s, fLen_l, fLen_t, fLen_s, fInt_i, fInt_b, fList_l, fList_t, fIsN_n, fNotN_n, isN_i, gAppend_1, gPop_c, fFld_i, fRev_l, pl_i, fIsi_i, fIsi_b, fIsi_n, fIsi_l, fIsi_t, List.length_map, anyI, pl_ints, if_false_t, Nat.reduceAdd, hat, ix_tree1]
        have hr := hrow t ht
        refine ⟨by decide, ?_⟩
        rw [← List.map_reverse]
        have hrv : t.2.reverse.length ≤ 5 := by rw [List.length_reverse]; exact hr.1
        have hrn : t.2.reverse ≠ [] → 0 < rs.length := fun z => hr.2 fun y => z (by rw [y]; rfl)
        generalize t.2.reverse = ys at hrv hrn
        unfold r_law_1
        simp only [shut_eq, dSeq, dSet, dRet, dExpr, dIfS, dNil, dIf, dTst, dBin, dUn, dVar, dC, dAnd, dOr, dNot, dAndV, dOrV, dNotV, dChain, dANil, dACons, dLst, dTup, dFld, dAsg, dgN, dSetIx, dLM, hasL, atL, dSetF, dCall, dCallR, hasO, dMeth, dMake, run_eq, dEnd_nx, dEnd_rt, dEnd_ex, outS, dLc, dLcG, dLcR, dFor, dForG, dForR, wipeD, backD, dYes, fLt, fLe, fGt, fGe, fEq, fNe, fIn, fNotIn, eqv_int, at_0, at_1, at_2, at_3, ix_0, ix_1, ix_2, ix_3, List.getElem?_cons_zero, List.getElem?_cons_succ, List.set_cons_zero, List.set_cons_succ, List.cons_append, List.nil_append, List.replicate_succ, List.replicate_zero, List.map_cons, List.map_nil, List.take_succ_cons, List.take_zero, List.length_cons, List.length_nil, List.take, List.length_set, pk_d, pk_fr, pk_sl, stab_d, stab_fr, stab_sl, fz_d, fz_fr, fz_sl, toD_l, toD_i, toD_k, re_rf, re_ow, store_d, store_fr, store_sl, outV_d, outV_fr, outV_sl, items_l, items_t, items_s, rng_1, rng_2, dgT_t, setAll_0, setAll_s, putR_rf, madeQ_n, fAdd_i, fAdd_l, fSub_i, fMul_i, fDiv_i, fMod_i, fPow_i, fNeg_i, fCmp_i, fIn_l, fNotIn_l, fIx_l, fIx_t, fIx_s, fLen_l, fLen_t, fLen_s, fInt_i, fInt_b, fList_l, fList_t, fIsN_n, fNotN_n, isN_i, gAppend_1, gPop_c, fFld_i, fRev_l, pl_i, fIsi_i, fIsi_b, fIsi_n, fIsi_l, fIsi_t, List.length_map, anyI, pl_ints, if_false_t, Nat.reduceAdd, eqv_nilD]
        refine ⟨hm0, trivial, by decide, ?_⟩
        by_cases c1 : ys = []
        · rw [if_neg (by rw [c1]; decide)]
          exact fin o2 ys _ _ (by omega) (by first | exact .inl rfl | exact .inr rfl) (.inl rfl)
        · have hye : (List.map D.int ys).isEmpty = false := by rw [List.isEmpty_eq_false_iff]; exact fun z => c1 (List.map_eq_nil_iff.mp z)
          have hyl : 0 < ys.length := List.length_pos_iff.mpr c1
          have hrl := hrn c1
          rw [if_pos (by rw [hye]; rfl)]
          refine ⟨trivial, trivial, next_any d2 (by decide) (by decide) fun n3 o3 d3 _ _ => ?_⟩
          simp only [shut_eq, dSeq, dSet, dRet, dExpr, dIfS, dNil, dIf, dTst, dBin, dUn, dVar, dC, dAnd, dOr, dNot, dAndV, dOrV, dNotV, dChain, dANil, dACons, dLst, dTup, dFld, dAsg, dgN, dSetIx, dLM, hasL, atL, dSetF, dCall, dCallR, hasO, dMeth, dMake, run_eq, dEnd_nx, dEnd_rt, dEnd_ex, outS, dLc, dLcG, dLcR, dFor, dForG, dForR, wipeD, backD, dYes, fLt, fLe, fGt, fGe, fEq, fNe, fIn, fNotIn, eqv_int, at_0, at_1, at_2, at_3, ix_0, ix_1, ix_2, ix_3, List.getElem?_cons_zero, List.getElem?_cons_succ, List.set_cons_zero, List.set_cons_succ, List.cons_append, List.nil_append, List.replicate_succ, List.replicate_zero, List.map_cons, List.map_nil, List.take_succ_cons, List.take_zero, List.length_cons, List.length_nil, List.take, List.length_set, pk_d, pk_fr, pk_sl, stab_d, stab_fr, stab_sl, fz_d, fz_fr, fz_sl, toD_l, toD_i, toD_k, re_rf, re_ow, store_d, store_fr, store_sl, outV_d, outV_fr, outV_sl, items_l, items_t, items_s, rng_1, rng_2, dgT_t, setAll_0, setAll_s, putR_rf, madeQ_n, fAdd_i, fAdd_l, fSub_i, fMul_i, fDiv_i, fMod_i, fPow_i, fNeg_i, fCmp_i, fIn_l, fNotIn_l, fIx_l, fIx_t, fIx_s, fLen_l, fLen_t, fLen_s, fInt_i, fInt_b, fList_l, fList_t, fIsN_n, fNotN_n, isN_i, gAppend_1, gPop_c, fFld_i, fRev_l, pl_i, fIsi_i, fIsi_b, fIsi_n, fIsi_l, fIsi_t, List.length_map, anyI, pl_ints, if_false_t, Nat.reduceAdd]
          refine ⟨by decide, by decide, ?_⟩
          by_cases c3 : n3 = 1
          · rw [if_pos (by simpa using c3)]
            refine ⟨trivial, trivial, next_any d3 (by omega) (by omega) fun n4 o4 d4 _ _ => ?_⟩
            simp only [shut_eq, dSeq, dSet, dRet, dExpr, dIfS, dNil, dIf, dTst, dBin, dUn, dVar, dC, dAnd, dOr, dNot, dAndV, dOrV, dNotV, dChain, dANil, dACons, dLst, dTup, dFld, dAsg, dgN, dSetIx, dLM, hasL, atL, dSetF, dCall, dCallR, hasO, dMeth, dMake, run_eq, dEnd_nx, dEnd_rt, dEnd_ex, outS, dLc, dLcG, dLcR, dFor, dForG, dForR, wipeD, backD, dYes, fLt, fLe, fGt, fGe, fEq, fNe, fIn, fNotIn, eqv_int, at_0, at_1, at_2, at_3, ix_0, ix_1, ix_2, ix_3, List.getElem?_cons_zero, List.getElem?_cons_succ, List.set_cons_zero, List.set_cons_succ, List.cons_append, List.nil_append, List.replicate_succ, List.replicate_zero, List.map_cons, List.map_nil, List.take_succ_cons, List.take_zero, List.length_cons, List.length_nil, List.take, List.length_set, pk_d, pk_fr, pk_sl, stab_d, stab_fr, stab_sl, fz_d, fz_fr, fz_sl, toD_l, toD_i, toD_k, re_rf, re_ow, store_d, store_fr, store_sl, outV_d, outV_fr, outV_sl, items_l, items_t, items_s, rng_1, rng_2, dgT_t, setAll_0, setAll_s, putR_rf, madeQ_n, fAdd_i, fAdd_l, fSub_i, fMul_i, fDiv_i, fMod_i, fPow_i, fNeg_i, fCmp_i, fIn_l, fNotIn_l, fIx_l, fIx_t, fIx_s, fLen_l, fLen_t, fLen_s, fInt_i, fInt_b, fList_l, fList_t, fIsN_n, fNotN_n, isN_i, gAppend_1, gPop_c, fFld_i, fRev_l, pl_i, fIsi_i, fIsi_b, fIsi_n, fIsi_l, fIsi_t, List.length_map, anyI, pl_ints, if_false_t, Nat.reduceAdd]
            refine ⟨trivial, trivial, trivial, next_any d4 (by omega) (by omega) fun n5 o5 d5 f1 f2 => ?_⟩
            obtain ⟨j, rfl⟩ := Int.eq_ofNat_of_zero_le f1
            have f3 : L2.ixN (List.map D.int ys).length (j : Int) = some j := ix_nat (by rw [List.length_map]; omega)
            rw [List.length_map] at f3
            simp only [shut_eq, dSeq, dSet, dRet, dExpr, dIfS, dNil, dIf, dTst, dBin, dUn, dVar, dC, dAnd, dOr, dNot, dAndV, dOrV, dNotV, dChain, dANil, dACons, dLst, dTup, dFld, dAsg, dgN, dSetIx, dLM, hasL, atL, dSetF, dCall, dCallR, hasO, dMeth, dMake, run_eq, dEnd_nx, dEnd_rt, dEnd_ex, outS, dLc, dLcG, dLcR, dFor, dForG, dForR, wipeD, backD, dYes, fLt, fLe, fGt, fGe, fEq, fNe, fIn, fNotIn, eqv_int, at_0, at_1, at_2, at_3, ix_0, ix_1, ix_2, ix_3, List.getElem?_cons_zero, List.getElem?_cons_succ, List.set_cons_zero, List.set_cons_succ, List.cons_append, List.nil_append, List.replicate_succ, List.replicate_zero, List.map_cons, List.map_nil, List.take_succ_cons, List.take_zero, List.length_cons, List.length_nil, List.take, List.length_set, pk_d, pk_fr, pk_sl, stab_d, stab_fr, stab_sl, fz_d, fz_fr, fz_sl, toD_l, toD_i, toD_k, re_rf, re_ow, store_d, store_fr, store_sl, outV_d, outV_fr, outV_sl, items_l, items_t, items_s, rng_1, rng_2, dgT_t, setAll_0, setAll_s, putR_rf, madeQ_n, fAdd_i, fAdd_l, fSub_i, fMul_i, fDiv_i, fMod_i, fPow_i, fNeg_i, fCmp_i, fIn_l, fNotIn_l, fIx_l, fIx_t, fIx_s, fLen_l, fLen_t, fLen_s, fInt_i, fInt_b, fList_l, fList_t, fIsN_n, fNotN_n, isN_i, gAppend_1, gPop_c, fFld_i, fRev_l, pl_i, fIsi_i, fIsi_b, fIsi_n, fIsi_l, fIsi_t, List.length_map, anyI, pl_ints, if_false_t, Nat.reduceAdd, f3, ← List.map_set]
            exact fin o5 (ys.set j n4) _ _ (by rw [List.length_set]; omega) (by first | exact .inl rfl | exact .inr rfl) (.inl rfl)
          · rw [if_neg (by simpa using c3)]
            exact fin o3 ys _ _ (by omega) (by first | exact .inl rfl | exact .inr rfl) (.inl rfl)
      · rw [if_neg (by simpa using c)]
        exact fin o1 xs _ _ hx (by first | exact .inl rfl | exact .inr rfl) h7
theorem law_holds (A : Cs) (ns : List Int) (h : ns.length ≤ 63) : run_law A [.d (.scr ns)] (fun x _ => x = .d (.bl true)) (fun _ _ => False) := by
  unfold run_law b_law
  simp only [shut_eq, dSeq, dSet, dRet, dExpr, dIfS, dNil, dIf, dTst, dBin, dUn, dVar, dC, dAnd, dOr, dNot, dAndV, dOrV, dNotV, dChain, dANil, dACons, dLst, dTup, dFld, dAsg, dgN, dSetIx, dLM, hasL, atL, dSetF, dCall, dCallR, hasO, dMeth, dMake, run_eq, dEnd_nx, dEnd_rt, dEnd_ex, outS, dLc, dLcG, dLcR, dFor, dForG, dForR, wipeD, backD, dYes, fLt, fLe, fGt, fGe, fEq, fNe, fIn, fNotIn, eqv_int, at_0, at_1, at_2, at_3, ix_0, ix_1, ix_2, ix_3, List.getElem?_cons_zero, List.getElem?_cons_succ, List.set_cons_zero, List.set_cons_succ, List.cons_append, List.nil_append, List.replicate_succ, List.replicate_zero, List.map_cons, List.map_nil, List.take_succ_cons, List.take_zero, List.length_cons, List.length_nil, List.take, List.length_set, pk_d, pk_fr, pk_sl, stab_d, stab_fr, stab_sl, fz_d, fz_fr, fz_sl, toD_l, toD_i, toD_k, re_rf, re_ow, store_d, store_fr, store_sl, outV_d, outV_fr, outV_sl, items_l, items_t, items_s, rng_1, rng_2, dgT_t, setAll_0, setAll_s, putR_rf, madeQ_n, fAdd_i, fAdd_l, fSub_i, fMul_i, fDiv_i, fMod_i, fPow_i, fNeg_i, fCmp_i, fIn_l, fNotIn_l, fIx_l, fIx_t, fIx_s, fLen_l, fLen_t, fLen_s, fInt_i, fInt_b, fList_l, fList_t, fIsN_n, fNotN_n, isN_i, gAppend_1, gPop_c, fFld_i, fRev_l, pl_i, fIsi_i, fIsi_b, fIsi_n, fIsi_l, fIsi_t, List.length_map, anyI, pl_ints, if_false_t, Nat.reduceAdd]
  refine ⟨trivial, dice_any fun o ho => ?_⟩
  simp only [shut_eq, dSeq, dSet, dRet, dExpr, dIfS, dNil, dIf, dTst, dBin, dUn, dVar, dC, dAnd, dOr, dNot, dAndV, dOrV, dNotV, dChain, dANil, dACons, dLst, dTup, dFld, dAsg, dgN, dSetIx, dLM, hasL, atL, dSetF, dCall, dCallR, hasO, dMeth, dMake, run_eq, dEnd_nx, dEnd_rt, dEnd_ex, outS, dLc, dLcG, dLcR, dFor, dForG, dForR, wipeD, backD, dYes, fLt, fLe, fGt, fGe, fEq, fNe, fIn, fNotIn, eqv_int, at_0, at_1, at_2, at_3, ix_0, ix_1, ix_2, ix_3, List.getElem?_cons_zero, List.getElem?_cons_succ, List.set_cons_zero, List.set_cons_succ, List.cons_append, List.nil_append, List.replicate_succ, List.replicate_zero, List.map_cons, List.map_nil, List.take_succ_cons, List.take_zero, List.length_cons, List.length_nil, List.take, List.length_set, pk_d, pk_fr, pk_sl, stab_d, stab_fr, stab_sl, fz_d, fz_fr, fz_sl, toD_l, toD_i, toD_k, re_rf, re_ow, store_d, store_fr, store_sl, outV_d, outV_fr, outV_sl, items_l, items_t, items_s, rng_1, rng_2, dgT_t, setAll_0, setAll_s, putR_rf, madeQ_n, fAdd_i, fAdd_l, fSub_i, fMul_i, fDiv_i, fMod_i, fPow_i, fNeg_i, fCmp_i, fIn_l, fNotIn_l, fIx_l, fIx_t, fIx_s, fLen_l, fLen_t, fLen_s, fInt_i, fInt_b, fList_l, fList_t, fIsN_n, fNotN_n, isN_i, gAppend_1, gPop_c, fFld_i, fRev_l, pl_i, fIsi_i, fIsi_b, fIsi_n, fIsi_l, fIsi_t, List.length_map, anyI, pl_ints, if_false_t, Nat.reduceAdd]
  refine ⟨by decide, ?_⟩
  unfold r_law_10
  simp only [shut_eq, dSeq, dSet, dRet, dExpr, dIfS, dNil, dIf, dTst, dBin, dUn, dVar, dC, dAnd, dOr, dNot, dAndV, dOrV, dNotV, dChain, dANil, dACons, dLst, dTup, dFld, dAsg, dgN, dSetIx, dLM, hasL, atL, dSetF, dCall, dCallR, hasO, dMeth, dMake, run_eq, dEnd_nx, dEnd_rt, dEnd_ex, outS, dLc, dLcG, dLcR, dFor, dForG, dForR, wipeD, backD, dYes, fLt, fLe, fGt, fGe, fEq, fNe, fIn, fNotIn, eqv_int, at_0, at_1, at_2, at_3, ix_0, ix_1, ix_2, ix_3, List.getElem?_cons_zero, List.getElem?_cons_succ, List.set_cons_zero, List.set_cons_succ, List.cons_append, List.nil_append, List.replicate_succ, List.replicate_zero, List.map_cons, List.map_nil, List.take_succ_cons, List.take_zero, List.length_cons, List.length_nil, List.take, List.length_set, pk_d, pk_fr, pk_sl, stab_d, stab_fr, stab_sl, fz_d, fz_fr, fz_sl, toD_l, toD_i, toD_k, re_rf, re_ow, store_d, store_fr, store_sl, outV_d, outV_fr, outV_sl, items_l, items_t, items_s, rng_1, rng_2, dgT_t, setAll_0, setAll_s, putR_rf, madeQ_n, fAdd_i, fAdd_l, fSub_i, fMul_i, fDiv_i, fMod_i, fPow_i, fNeg_i, fCmp_i, fIn_l, fNotIn_l, fIx_l, fIx_t, fIx_s, fLen_l, fLen_t, fLen_s, fInt_i, fInt_b, fList_l, fList_t, fIsN_n, fNotN_n, isN_i, gAppend_1, gPop_c, fFld_i, fRev_l, pl_i, fIsi_i, fIsi_b, fIsi_n, fIsi_l, fIsi_t, List.length_map, anyI, pl_ints, if_false_t, Nat.reduceAdd]
  refine ⟨trivial, trivial, map_any ho (by decide) (by decide) (by decide) (by decide) fun many root rs o1 d1 h0 h1 hm hl hg => ?_⟩
  simp only [shut_eq, dSeq, dSet, dRet, dExpr, dIfS, dNil, dIf, dTst, dBin, dUn, dVar, dC, dAnd, dOr, dNot, dAndV, dOrV, dNotV, dChain, dANil, dACons, dLst, dTup, dFld, dAsg, dgN, dSetIx, dLM, hasL, atL, dSetF, dCall, dCallR, hasO, dMeth, dMake, run_eq, dEnd_nx, dEnd_rt, dEnd_ex, outS, dLc, dLcG, dLcR, dFor, dForG, dForR, wipeD, backD, dYes, fLt, fLe, fGt, fGe, fEq, fNe, fIn, fNotIn, eqv_int, at_0, at_1, at_2, at_3, ix_0, ix_1, ix_2, ix_3, List.getElem?_cons_zero, List.getElem?_cons_succ, List.set_cons_zero, List.set_cons_succ, List.cons_append, List.nil_append, List.replicate_succ, List.replicate_zero, List.map_cons, List.map_nil, List.take_succ_cons, List.take_zero, List.length_cons, List.length_nil, List.take, List.length_set, pk_d, pk_fr, pk_sl, stab_d, stab_fr, stab_sl, fz_d, fz_fr, fz_sl, toD_l, toD_i, toD_k, re_rf, re_ow, store_d, store_fr, store_sl, outV_d, outV_fr, outV_sl, items_l, items_t, items_s, rng_1, rng_2, dgT_t, setAll_0, setAll_s, putR_rf, madeQ_n, fAdd_i, fAdd_l, fSub_i, fMul_i, fDiv_i, fMod_i, fPow_i, fNeg_i, fCmp_i, fIn_l, fNotIn_l, fIx_l, fIx_t, fIx_s, fLen_l, fLen_t, fLen_s, fInt_i, fInt_b, fList_l, fList_t, fIsN_n, fNotN_n, isN_i, gAppend_1, gPop_c, fFld_i, fRev_l, pl_i, fIsi_i, fIsi_b, fIsi_n, fIsi_l, fIsi_t, List.length_map, anyI, pl_ints, if_false_t, Nat.reduceAdd]
  refine ⟨by decide, ?_⟩
  have hl : rs.length ≤ 9 := by omega
  unfold r_law_9
  simp only [shut_eq, dSeq, dSet, dRet, dExpr, dIfS, dNil, dIf, dTst, dBin, dUn, dVar, dC, dAnd, dOr, dNot, dAndV, dOrV, dNotV, dChain, dANil, dACons, dLst, dTup, dFld, dAsg, dgN, dSetIx, dLM, hasL, atL, dSetF, dCall, dCallR, hasO, dMeth, dMake, run_eq, dEnd_nx, dEnd_rt, dEnd_ex, outS, dLc, dLcG, dLcR, dFor, dForG, dForR, wipeD, backD, dYes, fLt, fLe, fGt, fGe, fEq, fNe, fIn, fNotIn, eqv_int, at_0, at_1, at_2, at_3, ix_0, ix_1, ix_2, ix_3, List.getElem?_cons_zero, List.getElem?_cons_succ, List.set_cons_zero, List.set_cons_succ, List.cons_append, List.nil_append, List.replicate_succ, List.replicate_zero, List.map_cons, List.map_nil, List.take_succ_cons, List.take_zero, List.length_cons, List.length_nil, List.take, List.length_set, pk_d, pk_fr, pk_sl, stab_d, stab_fr, stab_sl, fz_d, fz_fr, fz_sl, toD_l, toD_i, toD_k, re_rf, re_ow, store_d, store_fr, store_sl, outV_d, outV_fr, outV_sl, items_l, items_t, items_s, rng_1, rng_2, dgT_t, setAll_0, setAll_s, putR_rf, madeQ_n, fAdd_i, fAdd_l, fSub_i, fMul_i, fDiv_i, fMod_i, fPow_i, fNeg_i, fCmp_i, fIn_l, fNotIn_l, fIx_l, fIx_t, fIx_s, fLen_l, fLen_t, fLen_s, fInt_i, fInt_b, fList_l, fList_t, fIsN_n, fNotN_n, isN_i, gAppend_1, gPop_c, fFld_i, fRev_l, pl_i, fIsi_i, fIsi_b, fIsi_n, fIsi_l, fIsi_t, List.length_map, anyI, pl_ints, if_false_t, Nat.reduceAdd]
  refine ⟨by decide, by decide, by decide, trivial, trees_any (by omega) hm hl fun ts htl hts => ?_⟩
  simp only [shut_eq, dSeq, dSet, dRet, dExpr, dIfS, dNil, dIf, dTst, dBin, dUn, dVar, dC, dAnd, dOr, dNot, dAndV, dOrV, dNotV, dChain, dANil, dACons, dLst, dTup, dFld, dAsg, dgN, dSetIx, dLM, hasL, atL, dSetF, dCall, dCallR, hasO, dMeth, dMake, run_eq, dEnd_nx, dEnd_rt, dEnd_ex, outS, dLc, dLcG, dLcR, dFor, dForG, dForR, wipeD, backD, dYes, fLt, fLe, fGt, fGe, fEq, fNe, fIn, fNotIn, eqv_int, at_0, at_1, at_2, at_3, ix_0, ix_1, ix_2, ix_3, List.getElem?_cons_zero, List.getElem?_cons_succ, List.set_cons_zero, List.set_cons_succ, List.cons_append, List.nil_append, List.replicate_succ, List.replicate_zero, List.map_cons, List.map_nil, List.take_succ_cons, List.take_zero, List.length_cons, List.length_nil, List.take, List.length_set, pk_d, pk_fr, pk_sl, stab_d, stab_fr, stab_sl, fz_d, fz_fr, fz_sl, toD_l, toD_i, toD_k, re_rf, re_ow, store_d, store_fr, store_sl, outV_d, outV_fr, outV_sl, items_l, items_t, items_s, rng_1, rng_2, dgT_t, setAll_0, setAll_s, putR_rf, madeQ_n, fAdd_i, fAdd_l, fSub_i, fMul_i, fDiv_i, fMod_i, fPow_i, fNeg_i, fCmp_i, fIn_l, fNotIn_l, fIx_l, fIx_t, fIx_s, fLen_l, fLen_t, fLen_s, fInt_i, fInt_b, fList_l, fList_t, fIsN_n, fNotN_n, isN_i, gAppend_1, gPop_c, fFld_i, fRev_l, pl_i, fIsi_i, fIsi_b, fIsi_n, fIsi_l, fIsi_t, List.length_map, anyI, pl_ints, if_false_t, Nat.reduceAdd]
  refine ⟨by decide, ?_⟩
  unfold r_law_8
  simp only [shut_eq, dSeq, dSet, dRet, dExpr, dIfS, dNil, dIf, dTst, dBin, dUn, dVar, dC, dAnd, dOr, dNot, dAndV, dOrV, dNotV, dChain, dANil, dACons, dLst, dTup, dFld, dAsg, dgN, dSetIx, dLM, hasL, atL, dSetF, dCall, dCallR, hasO, dMeth, dMake, run_eq, dEnd_nx, dEnd_rt, dEnd_ex, outS, dLc, dLcG, dLcR, dFor, dForG, dForR, wipeD, backD, dYes, fLt, fLe, fGt, fGe, fEq, fNe, fIn, fNotIn, eqv_int, at_0, at_1, at_2, at_3, ix_0, ix_1, ix_2, ix_3, List.getElem?_cons_zero, List.getElem?_cons_succ, List.set_cons_zero, List.set_cons_succ, List.cons_append, List.nil_append, List.replicate_succ, List.replicate_zero, List.map_cons, List.map_nil, List.take_succ_cons, List.take_zero, List.length_cons, List.length_nil, List.take, List.length_set, pk_d, pk_fr, pk_sl, stab_d, stab_fr, stab_sl, fz_d, fz_fr, fz_sl, toD_l, toD_i, toD_k, re_rf, re_ow, store_d, store_fr, store_sl, outV_d, outV_fr, outV_sl, items_l, items_t, items_s, rng_1, rng_2, dgT_t, setAll_0, setAll_s, putR_rf, madeQ_n, fAdd_i, fAdd_l, fSub_i, fMul_i, fDiv_i, fMod_i, fPow_i, fNeg_i, fCmp_i, fIn_l, fNotIn_l, fIx_l, fIx_t, fIx_s, fLen_l, fLen_t, fLen_s, fInt_i, fInt_b, fList_l, fList_t, fIsN_n, fNotN_n, isN_i, gAppend_1, gPop_c, fFld_i, fRev_l, pl_i, fIsi_i, fIsi_b, fIsi_n, fIsi_l, fIsi_t, List.length_map, anyI, pl_ints, if_false_t, Nat.reduceAdd]
  refine ⟨trivial, trivial, next_any d1 (by omega) (by omega) fun n1 o2 d2 e1 e2 => ?_⟩
  simp only [shut_eq, dSeq, dSet, dRet, dExpr, dIfS, dNil, dIf, dTst, dBin, dUn, dVar, dC, dAnd, dOr, dNot, dAndV, dOrV, dNotV, dChain, dANil, dACons, dLst, dTup, dFld, dAsg, dgN, dSetIx, dLM, hasL, atL, dSetF, dCall, dCallR, hasO, dMeth, dMake, run_eq, dEnd_nx, dEnd_rt, dEnd_ex, outS, dLc, dLcG, dLcR, dFor, dForG, dForR, wipeD, backD, dYes, fLt, fLe, fGt, fGe, fEq, fNe, fIn, fNotIn, eqv_int, at_0, at_1, at_2, at_3, ix_0, ix_1, ix_2, ix_3, List.getElem?_cons_zero, List.getElem?_cons_succ, List.set_cons_zero, List.set_cons_succ, List.cons_append, List.nil_append, List.replicate_succ, List.replicate_zero, List.map_cons, List.map_nil, List.take_succ_cons, List.take_zero, List.length_cons, List.length_nil, List.take, List.length_set, pk_d, pk_fr, pk_sl, stab_d, stab_fr, stab_sl, fz_d, fz_fr, fz_sl, toD_l, toD_i, toD_k, re_rf, re_ow, store_d, store_fr, store_sl, outV_d, outV_fr, outV_sl, items_l, items_t, items_s, rng_1, rng_2, dgT_t, setAll_0, setAll_s, putR_rf, madeQ_n, fAdd_i, fAdd_l, fSub_i, fMul_i, fDiv_i, fMod_i, fPow_i, fNeg_i, fCmp_i, fIn_l, fNotIn_l, fIx_l, fIx_t, fIx_s, fLen_l, fLen_t, fLen_s, fInt_i, fInt_b, fList_l, fList_t, fIsN_n, fNotN_n, isN_i, gAppend_1, gPop_c, fFld_i, fRev_l, pl_i, fIsi_i, fIsi_b, fIsi_n, fIsi_l, fIsi_t, List.length_map, anyI, pl_ints, if_false_t, Nat.reduceAdd]
  refine ⟨trivial, by omega, by omega, ?_⟩
  have er : (rowsD rs).length = rs.length := List.length_map ..
  have hz : sizeLine = 16777216 := by decide
  refine lcN_ind (fun i : Nat => D.int (0 + (i : Int))) (fun as acc ρ => ∃ (o : OO) (xs : List Int), IsDice ns o ∧ acc = xs.map .int ∧ xs.length + as.length ≤ 100 ∧
    ρ = [SV.d (D.scr ns), SV.ow o, SV.d (D.tup [D.int many, D.int root, D.lst (rowsD rs)]), SV.d (D.int many), SV.d (D.int root), SV.d (D.lst (rowsD rs)), SV.ow (OO.l (List.map treeD ts)), SV.un, SV.un, SV.un, SV.un, SV.un, SV.un, SV.un, SV.un, SV.un]) ?_ ?_ _ _ _ ⟨o2, [], d2, rfl, by rw [List.length_range, List.length_nil]; omega, rfl⟩
  · rintro acc ρ ⟨o3, xs, d3, rfl, hx, rfl⟩
    simp only [shut_eq, dSeq, dSet, dRet, dExpr, dIfS, dNil, dIf, dTst, dBin, dUn, dVar, dC, dAnd, dOr, dNot, dAndV, dOrV, dNotV, dChain, dANil, dACons, dLst, dTup, dFld, dAsg, dgN, dSetIx, dLM, hasL, atL, dSetF, dCall, dCallR, hasO, dMeth, dMake, run_eq, dEnd_nx, dEnd_rt, dEnd_ex, outS, dLc, dLcG, dLcR, dFor, dForG, dForR, wipeD, backD, dYes, fLt, fLe, fGt, fGe, fEq, fNe, fIn, fNotIn, eqv_int, at_0, at_1, at_2, at_3, ix_0, ix_1, ix_2, ix_3, List.getElem?_cons_zero, List.getElem?_cons_succ, List.set_cons_zero, List.set_cons_succ, List.cons_append, List.nil_append, List.replicate_succ, List.replicate_zero, List.map_cons, List.map_nil, List.take_succ_cons, List.take_zero, List.length_cons, List.length_nil, List.take, List.length_set, pk_d, pk_fr, pk_sl, stab_d, stab_fr, stab_sl, fz_d, fz_fr, fz_sl, toD_l, toD_i, toD_k, re_rf, re_ow, store_d, store_fr, store_sl, outV_d, outV_fr, outV_sl, items_l, items_t, items_s, rng_1, rng_2, dgT_t, setAll_0, setAll_s, putR_rf, madeQ_n, fAdd_i, fAdd_l, fSub_i, fMul_i, fDiv_i, fMod_i, fPow_i, fNeg_i, fCmp_i, fIn_l, fNotIn_l, fIx_l, fIx_t, fIx_s, fLen_l, fLen_t, fLen_s, fInt_i, fInt_b, fList_l, fList_t, fIsN_n, fNotN_n, isN_i, gAppend_1, gPop_c, fFld_i, fRev_l, pl_i, fIsi_i, fIsi_b, fIsi_n, fIsi_l, fIsi_t, List.length_map, anyI, pl_ints, if_false_t, Nat.reduceAdd]
    exact ⟨by decide, law3 d3 h0 h1 hm hl hg htl hts (by omega) (.inl rfl) (.inl rfl) rfl⟩
  · rintro a as acc ρ N ⟨o3, xs, d3, rfl, hx, rfl⟩ hN
    rw [List.length_cons] at hx
    simp only [shut_eq, dSeq, dSet, dRet, dExpr, dIfS, dNil, dIf, dTst, dBin, dUn, dVar, dC, dAnd, dOr, dNot, dAndV, dOrV, dNotV, dChain, dANil, dACons, dLst, dTup, dFld, dAsg, dgN, dSetIx, dLM, hasL, atL, dSetF, dCall, dCallR, hasO, dMeth, dMake, run_eq, dEnd_nx, dEnd_rt, dEnd_ex, outS, dLc, dLcG, dLcR, dFor, dForG, dForR, wipeD, backD, dYes, fLt, fLe, fGt, fGe, fEq, fNe, fIn, fNotIn, eqv_int, at_0, at_1, at_2, at_3, ix_0, ix_1, ix_2, ix_3, List.getElem?_cons_zero, List.getElem?_cons_succ, List.set_cons_zero, List.set_cons_succ, List.cons_append, List.nil_append, List.replicate_succ, List.replicate_zero, List.map_cons, List.map_nil, List.take_succ_cons, List.take_zero, List.length_cons, List.length_nil, List.take, List.length_set, pk_d, pk_fr, pk_sl, stab_d, stab_fr, stab_sl, fz_d, fz_fr, fz_sl, toD_l, toD_i, toD_k, re_rf, re_ow, store_d, store_fr, store_sl, outV_d, outV_fr, outV_sl, items_l, items_t, items_s, rng_1, rng_2, dgT_t, setAll_0, setAll_s, putR_rf, madeQ_n, fAdd_i, fAdd_l, fSub_i, fMul_i, fDiv_i, fMod_i, fPow_i, fNeg_i, fCmp_i, fIn_l, fNotIn_l, fIx_l, fIx_t, fIx_s, fLen_l, fLen_t, fLen_s, fInt_i, fInt_b, fList_l, fList_t, fIsN_n, fNotN_n, isN_i, gAppend_1, gPop_c, fFld_i, fRev_l, pl_i, fIsi_i, fIsi_b, fIsi_n, fIsi_l, fIsi_t, List.length_map, anyI, pl_ints, if_false_t, Nat.reduceAdd, if_true]
    refine ⟨by decide, trivial, trivial, next_any d3 (by omega) (by omega) fun n1 o4 d4 _ _ => ?_⟩
    simp only [shut_eq, dSeq, dSet, dRet, dExpr, dIfS, dNil, dIf, dTst, dBin, dUn, dVar, dC, dAnd, dOr, dNot, dAndV, dOrV, dNotV, dChain, dANil, dACons, dLst, dTup, dFld, dAsg, dgN, dSetIx, dLM, hasL, atL, dSetF, dCall, dCallR, hasO, dMeth, dMake, run_eq, dEnd_nx, dEnd_rt, dEnd_ex, outS, dLc, dLcG, dLcR, dFor, dForG, dForR, wipeD, backD, dYes, fLt, fLe, fGt, fGe, fEq, fNe, fIn, fNotIn, eqv_int, at_0, at_1, at_2, at_3, ix_0, ix_1, ix_2, ix_3, List.getElem?_cons_zero, List.getElem?_cons_succ, List.set_cons_zero, List.set_cons_succ, List.cons_append, List.nil_append, List.replicate_succ, List.replicate_zero, List.map_cons, List.map_nil, List.take_succ_cons, List.take_zero, List.length_cons, List.length_nil, List.take, List.length_set, pk_d, pk_fr, pk_sl, stab_d, stab_fr, stab_sl, fz_d, fz_fr, fz_sl, toD_l, toD_i, toD_k, re_rf, re_ow, store_d, store_fr, store_sl, outV_d, outV_fr, outV_sl, items_l, items_t, items_s, rng_1, rng_2, dgT_t, setAll_0, setAll_s, putR_rf, madeQ_n, fAdd_i, fAdd_l, fSub_i, fMul_i, fDiv_i, fMod_i, fPow_i, fNeg_i, fCmp_i, fIn_l, fNotIn_l, fIx_l, fIx_t, fIx_s, fLen_l, fLen_t, fLen_s, fInt_i, fInt_b, fList_l, fList_t, fIsN_n, fNotN_n, isN_i, gAppend_1, gPop_c, fFld_i, fRev_l, pl_i, fIsi_i, fIsi_b, fIsi_n, fIsi_l, fIsi_t, List.length_map, anyI, pl_ints, if_false_t, Nat.reduceAdd, if_true]
    refine ⟨by omega, hN _ _ ⟨o4, xs ++ [n1 - 1], d4, by rw [List.map_append]; rfl, by rw [List.length_append, List.length_singleton]; omega, rfl⟩⟩
end Lk02
open PySem PySem.W PyProof.Rows in
set_option maxRecDepth 100000 in
set_option maxHeartbeats 0 in
theorem PySem.Challenge.cw_rootcheap_k02_trees_known_holds : PySem.Challenge.rw_rootcheap_k02_trees_known.Holds := by
  w_on; o_law; k_head; (case hw => w_witness2)
  k_fill
  refine DW.walk_D (k := 5) (x := "_law_script") (run := fun A => Lk02.run_law A) (l := PySem.Challenge.rw_rootcheap_k02_trees_known) rfl rfl (by exact ⟨rfl, by decide, by decide⟩) (fun w h Y => PySem.W.kIn_of Y) Lk02.law_holds ?F
  case F =>
    intro w mg fa h KX G hmg
    refine' Lk02.all_mk KX G hmg ?z_bool ?z_int ?z_isinstance ?z_len ?z_list ?z_range ?z_set ?z_sorted ?z_str ?z_sum ?z_tuple ?g_MOST_COST ?g_MOST_PLACES ?g_MOST_ROADS ?pg_Map ?hd_Map ?po_Map ?sa_Map ?a_Map_many ?a_Map_root ?a_Map_rows ?g_Map ?l_Map_init ?c_Map_init ?k_Map_init ?at_Map_init ?i_Map_init ?mk_Map ?kc_Map ?l_cost_of ?c_cost_of ?k_cost_of ?g_cost_of ?l_Map_begin ?c_Map_begin ?k_Map_begin ?at_Map_begin ?i_Map_begin ?l_Map_size ?c_Map_size ?k_Map_size ?at_Map_size ?i_Map_size ?l_come_to ?c_come_to ?k_come_to ?g_come_to ?l_is_tree ?c_is_tree ?k_is_tree ?g_is_tree ?l_law_dice ?c_law_dice ?k_law_dice ?g_law_dice ?l_law_like ?c_law_like ?k_law_like ?g_law_like ?l_law_next ?c_law_next ?k_law_next ?g_law_next ?l_law_cost ?c_law_cost ?k_law_cost ?g_law_cost ?l_law_map ?c_law_map ?k_law_map ?g_law_map ?l_law_leads ?c_law_leads ?k_law_leads ?g_law_leads ?l_law_trees ?c_law_trees ?k_law_trees ?g_law_trees ?l_law ?c_law ?k_law ?g_law
    (case g_MOST_COST => k_is)
    (case g_MOST_PLACES => k_is)
    (case g_MOST_ROADS => k_is)
    (case g_Map => k_is)
    (case g_cost_of => k_is)
    (case g_come_to => k_is)
    (case g_is_tree => k_is)
    (case g_law_dice => k_is)
    (case g_law_like => k_is)
    (case g_law_next => k_is)
    (case g_law_cost => k_is)
    (case g_law_map => k_is)
    (case g_law_leads => k_is)
    (case g_law_trees => k_is)
    (case g_law => k_is)
    (case at_Map_init => k_is)
    (case at_Map_begin => k_is)
    (case at_Map_size => k_is)
    (case l_Map_init => k_is)
    (case l_cost_of => k_is)
    (case l_Map_begin => k_is)
    (case l_Map_size => k_is)
    (case l_come_to => k_is)
    (case l_is_tree => k_is)
    (case l_law_dice => k_is)
    (case l_law_like => k_is)
    (case l_law_next => k_is)
    (case l_law_cost => k_is)
    (case l_law_map => k_is)
    (case l_law_leads => k_is)
    (case l_law_trees => k_is)
    (case l_law => k_is)
    (case z_bool => k_is)
    (case z_int => k_is)
    (case z_isinstance => k_is)
    (case z_len => k_is)
    (case z_list => k_is)
    (case z_range => k_is)
    (case z_set => k_is)
    (case z_sorted => k_is)
    (case z_str => k_is)
    (case z_sum => k_is)
    (case z_tuple => k_is)
    (case pg_Map => k_is)
    (case hd_Map => k_is)
    (case po_Map => k_is)
    (case sa_Map => k_is)
    (case a_Map_many => k_is)
    (case a_Map_root => k_is)
    (case a_Map_rows => k_is)
    (case c_Map_init => k_is)
    (case k_Map_init => k_is)
    (case i_Map_init => k_is)
    (case mk_Map => k_is)
    (case kc_Map => k_is)
    (case c_cost_of => k_is)
    (case k_cost_of => k_is)
    (case c_Map_begin => k_is)
    (case k_Map_begin => k_is)
    (case i_Map_begin => k_is)
    (case c_Map_size => k_is)
    (case k_Map_size => k_is)
    (case i_Map_size => k_is)
    (case c_come_to => k_is)
    (case k_come_to => k_is)
    (case c_is_tree => k_is)
    (case k_is_tree => k_is)
    (case c_law_dice => k_is)
    (case k_law_dice => k_is)
    (case c_law_like => k_is)
    (case k_law_like => k_is)
    (case c_law_next => k_is)
    (case k_law_next => k_is)
    (case c_law_cost => k_is)
    (case k_law_cost => k_is)
    (case c_law_map => k_is)
    (case k_law_map => k_is)
    (case c_law_leads => k_is)
    (case k_law_leads => k_is)
    (case c_law_trees => k_is)
    (case k_law_trees => k_is)
    (case c_law => k_is)
    (case k_law => k_is)
