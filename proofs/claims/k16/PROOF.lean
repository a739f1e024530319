import PyProof.Rows.All
import Wide.All
import OpenK.AllK
import Wide.FinOn
import HandS.Base
import HandS.Call
import HandS.List
import HandS.Dict
import HandS.Words
import HandS.Lambda
import HandS.WordsList
import HandS.Wide
import HandS.Deep
import HandS.Text
import HandS.Exc
import HandS.Comp
import HandS.ExcOwn
import HandS.WordsExc
import HandS.TryOnly
import HandS.ExcCtx
import HandS.More
import HandS.Style
import HandS.Strs
import HandS.SortInts
import HandS.IsInst
import KE.SortData
import HandS.Zip
import HandS.Conv
import HandS.Iter
import PyProof.AutoSeq1
import HandS.ExcInit
import HandS.ExcField
import HandS.ExcIs
import HandS.HotCalls
import HandS.Nested
import HandS.Defaults
import HandS.SortKw
import KE.DataMinKey
import KE.DataFind
import KE.LtData
import PyProof.NeKinds
import HandS.EndTab
import KE.KNestM
import KE.SortKeyHeap
import KE.GoesComp
import KE.GoesRaise
import PySem.Challenge.RW_rootcheap_k16_texts_refused
set_option Elab.async false
set_option linter.all false
set_option maxRecDepth 100000
set_option maxHeartbeats 4000000
/-! DWa: pure data, the store of a def's names as pure data, how both stand for slots and heap. -/
namespace DW
open PySem L2

/-- pure data; scr: a list of ints that is only read; ins: an instance by its class and attributes; ptr: a cell of the memory; tkd: a dict with tuples as keys; exc: the exception that a suite holds -/
inductive D where
  | non | bl (b : Bool) | int (i : Int) | str (x : Str)
  | lst (xs : List D) | tup (xs : List D) | scr (ns : List Int)
  | dct (kvs : List (Key × D)) | ins (C : Addr) (fs : List (Str × D))
  | ptr (a : Addr) | tkd (kvs : List (List Key × D))
  | exc (c : Value) (a : Addr) (d : Option Addr) (fs : List (Str × D))

mutual
/-- the value v stands for the data, read off the part S of the heap -/
def Rp (K : PySem.W.Frag) (S : Hp) : D → V → Prop
  | .non, v => v = .non
  | .bl b, v => v = .bl b
  | .int i, v => v = .int i
  | .str x, v => v = .str x
  | .lst xs, v => ∃ a vs, v = .ref a ∧ S a = some (.lst vs) ∧ RpL K S xs vs
  | .tup xs, v => ∃ a vs, v = .ref a ∧ S a = some (.tup vs) ∧ RpL K S xs vs
  | .scr ns, v => ∃ a, v = .ref a ∧ SqL K S a (ns.map V.int)
  | .dct kvs, v => ∃ a ws, v = .ref a ∧ Rd S a (.dK ws) ∧ RpK K S kvs ws
  | .ins C fs, v => ∃ a dx ws, v = .ref a ∧ S a = some (.ins C dx ws) ∧ RpF K S fs ws
  | .ptr a, v => v = .ref a
  | .tkd kvs, v => ∃ a ws, v = .ref a ∧ Rd S a (.dT ws) ∧ RpT K S kvs ws
  | .exc _ a d fs, v => v = .ref a ∧ (fs = [] ∨ ∃ dd ws, d = some dd ∧ S dd = some (.xd ws) ∧ RpF K S fs ws)
def RpL (K : PySem.W.Frag) (S : Hp) : List D → List V → Prop
  | [], vs => vs = []
  | x :: xs, vs => ∃ v ws, vs = v :: ws ∧ Rp K S x v ∧ RpL K S xs ws
def RpK (K : PySem.W.Frag) (S : Hp) : List (Key × D) → List (Key × V) → Prop
  | [], vs => vs = []
  | (k, x) :: xs, vs => ∃ v ws, vs = (k, v) :: ws ∧ Rp K S x v ∧ RpK K S xs ws
def RpF (K : PySem.W.Frag) (S : Hp) : List (Str × D) → List (Str × V) → Prop
  | [], vs => vs = []
  | (k, x) :: xs, vs => ∃ v ws, vs = (k, v) :: ws ∧ Rp K S x v ∧ RpF K S xs ws
def RpT (K : PySem.W.Frag) (S : Hp) : List (List Key × D) → List (List Key × V) → Prop
  | [], vs => vs = []
  | (k, x) :: xs, vs => ∃ v ws, vs = (k, v) :: ws ∧ Rp K S x v ∧ RpT K S xs ws
end

theorem sqT_mono {K : PySem.W.Frag} {S S' : Hp} {a : Addr} {xs : List V} (e : Same S S') (h : S a = some (.tup xs)) : SqT K S' a xs := SqT.of (e _ _ h)

mutual
theorem Rp.mono {K : PySem.W.Frag} {S S' : Hp} (e : Same S S') : ∀ {x : D} {v : V}, Rp K S x v → Rp K S' x v
  | .non, _, h => h
  | .bl _, _, h => h
  | .int _, _, h => h
  | .str _, _, h => h
  | .lst _, _, ⟨a, vs, h1, h2, h3⟩ => ⟨a, vs, h1, e _ _ h2, RpL.mono e h3⟩
  | .tup _, _, ⟨a, vs, h1, h2, h3⟩ => ⟨a, vs, h1, e _ _ h2, RpL.mono e h3⟩
  | .scr _, _, ⟨a, h1, h2⟩ => ⟨a, h1, e.seq h2⟩
  | .dct _, _, ⟨a, vs, h1, h2, h3⟩ => ⟨a, vs, h1, h2.imp (e _ _) fun ⟨o, h⟩ => ⟨o, e _ _ h⟩, RpK.mono e h3⟩
  | .ins _ _, _, ⟨a, dx, vs, h1, h2, h3⟩ => ⟨a, dx, vs, h1, e _ _ h2, RpF.mono e h3⟩
  | .ptr _, _, h => h
  | .tkd _, _, ⟨a, vs, h1, h2, h3⟩ => ⟨a, vs, h1, h2.imp (e _ _) fun ⟨o, h⟩ => ⟨o, e _ _ h⟩, RpT.mono e h3⟩
  | .exc _ _ _ _, _, ⟨h1, .inl h2⟩ => ⟨h1, .inl h2⟩
  | .exc _ _ _ _, _, ⟨h1, .inr ⟨dd, ws, h2, h3, h4⟩⟩ => ⟨h1, .inr ⟨dd, ws, h2, e _ _ h3, RpF.mono e h4⟩⟩
theorem RpL.mono {K : PySem.W.Frag} {S S' : Hp} (e : Same S S') : ∀ {x : List D} {v : List V}, RpL K S x v → RpL K S' x v
  | [], _, h => h
  | _ :: _, _, ⟨v, ws, h1, h2, h3⟩ => ⟨v, ws, h1, Rp.mono e h2, RpL.mono e h3⟩
theorem RpK.mono {K : PySem.W.Frag} {S S' : Hp} (e : Same S S') : ∀ {x : List (Key × D)} {v : List (Key × V)}, RpK K S x v → RpK K S' x v
  | [], _, h => h
  | (_, _) :: _, _, ⟨v, ws, h1, h2, h3⟩ => ⟨v, ws, h1, Rp.mono e h2, RpK.mono e h3⟩
theorem RpF.mono {K : PySem.W.Frag} {S S' : Hp} (e : Same S S') : ∀ {x : List (Str × D)} {v : List (Str × V)}, RpF K S x v → RpF K S' x v
  | [], _, h => h
  | (_, _) :: _, _, ⟨v, ws, h1, h2, h3⟩ => ⟨v, ws, h1, Rp.mono e h2, RpF.mono e h3⟩
theorem RpT.mono {K : PySem.W.Frag} {S S' : Hp} (e : Same S S') : ∀ {x : List (List Key × D)} {v : List (List Key × V)}, RpT K S x v → RpT K S' x v
  | [], _, h => h
  | (_, _) :: _, _, ⟨v, ws, h1, h2, h3⟩ => ⟨v, ws, h1, Rp.mono e h2, RpT.mono e h3⟩
end

section
variable {K : PySem.W.Frag} {S : Hp}
theorem RpL.length : ∀ {xs : List D} {vs : List V}, RpL K S xs vs → vs.length = xs.length
  | [], _, h => by rw [h]; rfl
  | _ :: _, _, ⟨v, ws, h1, _, h3⟩ => by rw [h1, List.length_cons, List.length_cons, RpL.length h3]
theorem RpL.get : ∀ {xs : List D} {vs : List V} {i : Nat} {x : D}, RpL K S xs vs → xs[i]? = some x → ∃ v, vs[i]? = some v ∧ Rp K S x v
  | [], _, _, _, _, e => by simp at e
  | _ :: _, _, 0, _, ⟨v, ws, h1, h2, h3⟩, e => by simp at e; subst e; exact ⟨v, by rw [h1]; rfl, h2⟩
  | _ :: _, _, i + 1, _, ⟨v, ws, h1, h2, h3⟩, e => by
    obtain ⟨u, a, b⟩ := RpL.get (i := i) h3 (by simpa using e)
    exact ⟨u, by rw [h1]; simpa using a, b⟩
theorem RpL.getV : ∀ {xs : List D} {vs : List V} {i : Nat} {v : V}, RpL K S xs vs → vs[i]? = some v → ∃ x, xs[i]? = some x ∧ Rp K S x v
  | [], _, _, _, h, e => by rw [h] at e; simp at e
  | x :: _, _, 0, _, ⟨v, ws, h1, h2, h3⟩, e => by rw [h1] at e; simp at e; subst e; exact ⟨x, rfl, h2⟩
  | _ :: _, _, i + 1, _, ⟨v, ws, h1, h2, h3⟩, e => by
    obtain ⟨u, a, b⟩ := RpL.getV (i := i) h3 (by rw [h1] at e; simpa using e)
    exact ⟨u, by simpa using a, b⟩
theorem RpL.append : ∀ {xs ys : List D} {vs ws : List V}, RpL K S xs vs → RpL K S ys ws → RpL K S (xs ++ ys) (vs ++ ws)
  | [], _, _, _, h, g => by rw [h]; exact g
  | _ :: _, _, _, _, ⟨v, ws, h1, h2, h3⟩, g => by
    rw [h1]
    exact ⟨v, _, rfl, h2, RpL.append h3 g⟩
theorem RpL.one {x : D} {v : V} (h : Rp K S x v) : RpL K S [x] [v] := ⟨v, [], rfl, h, rfl⟩
theorem RpL.nil : RpL K S [] [] := rfl
theorem RpL.cons {x : D} {v : V} {xs : List D} {vs : List V} (h : Rp K S x v) (t : RpL K S xs vs) : RpL K S (x :: xs) (v :: vs) := ⟨v, vs, rfl, h, t⟩
theorem RpL.set : ∀ {xs : List D} {vs : List V} (i : Nat) {x : D} {v : V}, RpL K S xs vs → Rp K S x v → RpL K S (xs.set i x) (vs.set i v)
  | [], _, _, _, _, h, _ => by rw [h]; exact rfl
  | _ :: _, _, 0, _, _, ⟨v, ws, h1, h2, h3⟩, g => by rw [h1]; exact ⟨_, _, rfl, g, h3⟩
  | _ :: _, _, i + 1, _, _, ⟨v, ws, h1, h2, h3⟩, g => by rw [h1]; exact ⟨_, _, rfl, h2, RpL.set i h3 g⟩
theorem RpL.take : ∀ {xs : List D} {vs : List V} (i : Nat), RpL K S xs vs → RpL K S (xs.take i) (vs.take i)
  | _, _, 0, _ => by simp [RpL]
  | [], _, _ + 1, h => by rw [h]; simp [RpL]
  | _ :: _, _, i + 1, ⟨v, ws, h1, h2, h3⟩ => by rw [h1]; exact ⟨_, _, rfl, h2, RpL.take i h3⟩
theorem RpL.drop : ∀ {xs : List D} {vs : List V} (i : Nat), RpL K S xs vs → RpL K S (xs.drop i) (vs.drop i)
  | _, _, 0, h => h
  | [], _, _ + 1, h => by rw [h]; simp [RpL]
  | _ :: _, _, i + 1, ⟨v, ws, h1, h2, h3⟩ => by rw [h1]; exact RpL.drop i h3
theorem RpL.eraseIdx : ∀ {xs : List D} {vs : List V} (i : Nat), RpL K S xs vs → RpL K S (xs.eraseIdx i) (vs.eraseIdx i)
  | [], _, _, h => by rw [h]; simp [RpL]
  | _ :: _, _, 0, ⟨v, ws, h1, h2, h3⟩ => by rw [h1]; exact h3
  | _ :: _, _, i + 1, ⟨v, ws, h1, h2, h3⟩ => by rw [h1]; exact ⟨_, _, rfl, h2, RpL.eraseIdx i h3⟩
theorem RpL.reverse {xs : List D} {vs : List V} (h : RpL K S xs vs) : RpL K S xs.reverse vs.reverse := by
  induction xs generalizing vs with
  | nil => rw [h]; exact rfl
  | cons x xs ih =>
    obtain ⟨v, ws, h1, h2, h3⟩ := h
    rw [h1, List.reverse_cons, List.reverse_cons]
    exact RpL.append (ih h3) (RpL.one h2)
theorem RpL.dropLast {xs : List D} {vs : List V} (h : RpL K S xs vs) : RpL K S xs.dropLast vs.dropLast := by
  rw [List.dropLast_eq_take, List.dropLast_eq_take, h.length]
  exact h.take _
theorem RpL.flatten : ∀ (k : Nat) {xs : List D} {vs : List V}, RpL K S xs vs → RpL K S (List.replicate k xs).flatten (List.replicate k vs).flatten
  | 0, _, _, _ => by simp [RpL]
  | k + 1, _, _, h => by
    rw [List.replicate_succ, List.replicate_succ, List.flatten_cons, List.flatten_cons]
    exact RpL.append h (RpL.flatten k h)
theorem RpL.int : ∀ {ns : List Int}, RpL K S (ns.map D.int) (ns.map V.int)
  | [] => rfl
  | n :: ns => ⟨V.int n, ns.map V.int, rfl, rfl, RpL.int⟩
theorem RpL.int_inv : ∀ {ns : List Int} {vs : List V}, RpL K S (ns.map D.int) vs → vs = ns.map V.int
  | [], _, h => h
  | n :: ns, _, ⟨v, ws, h1, h2, h3⟩ => by
    have e : v = V.int n := h2
    rw [h1, e, RpL.int_inv h3]
    rfl
theorem RpL.str_inv : ∀ {ns : List Str} {vs : List V}, RpL K S (ns.map D.str) vs → vs = ns.map V.str
  | [], _, h => h
  | n :: ns, _, ⟨v, ws, h1, h2, h3⟩ => by
    have e : v = V.str n := h2
    rw [h1, e, RpL.str_inv h3]
    rfl
theorem RpF.lookup : ∀ {xs : List (Str × D)} {vs : List (Str × V)} {f : Str}, RpF K S xs vs → (∀ x, xs.lookup f = some x → ∃ v, vs.lookup f = some v ∧ Rp K S x v) ∧ (xs.lookup f = none → vs.lookup f = none)
  | [], _, f, h => by rw [h]; exact ⟨fun x e => (by cases e), fun _ => rfl⟩
  | (k, y) :: xs, _, f, ⟨v, ws, h1, h2, h3⟩ => by
    rw [h1, List.lookup_cons, List.lookup_cons]
    cases f == k with
    | true => exact ⟨fun x e => ⟨v, rfl, (by cases e; exact h2)⟩, fun e => (by cases e)⟩
    | false => exact RpF.lookup h3
theorem RpF.length : ∀ {xs : List (Str × D)} {vs : List (Str × V)}, RpF K S xs vs → vs.length = xs.length
  | [], _, h => by rw [h]; rfl
  | (_, _) :: _, _, ⟨v, ws, h1, _, h3⟩ => by rw [h1, List.length_cons, List.length_cons, RpF.length h3]
/-- a stored attribute, by data -/
def putFD (f : Str) (y : D) : List (Str × D) → List (Str × D)
  | [] => [(f, y)]
  | (k, z) :: r => if k = f then (k, y) :: r else (k, z) :: putFD f y r
theorem RpF.put : ∀ {xs : List (Str × D)} {vs : List (Str × V)} (f : Str) {y : D} {v : V}, RpF K S xs vs → Rp K S y v → RpF K S (putFD f y xs) (putF f v vs)
  | [], _, f, y, v, h, g => by rw [h]; exact ⟨v, [], rfl, g, rfl⟩
  | (k, z) :: xs, _, f, y, v, ⟨u, ws, h1, h2, h3⟩, g => by
    rw [h1]
    show RpF K S (if k = f then (k, y) :: xs else (k, z) :: putFD f y xs) (if k = f then (k, v) :: ws else (k, u) :: putF f v ws)
    by_cases e : k = f
    · rw [if_pos e, if_pos e]
      exact ⟨v, ws, rfl, g, h3⟩
    · rw [if_neg e, if_neg e]
      exact ⟨u, _, rfl, h2, RpF.put f h3 g⟩
theorem RpK.keys : ∀ {xs : List (Key × D)} {vs : List (Key × V)}, RpK K S xs vs → vs.map (·.1) = xs.map (·.1)
  | [], _, h => by rw [h]; rfl
  | (_, _) :: _, _, ⟨v, ws, h1, _, h3⟩ => by rw [h1, List.map_cons, List.map_cons, RpK.keys h3]
theorem RpK.length {xs : List (Key × D)} {vs : List (Key × V)} (h : RpK K S xs vs) : vs.length = xs.length := by
  have e := congrArg List.length h.keys
  simpa using e
end

/-- a thing that a name owns: a list, a dict, an instance -/
inductive OO where
  | l (xs : List D) | k (kvs : List (Key × D)) | i (C : Addr) (fs : List (Str × D)) | t (kvs : List (List Key × D)) | tL (kvs : List (List Key × D)) | tb (p : Addr) (q : Str)
def OO.toD : OO → D
  | .l xs => .lst xs
  | .k kvs => .dct kvs
  | .i C fs => .ins C fs
  | .t kvs => .tkd kvs
  | .tL kvs => .tkd kvs
  | .tb p _ => .ptr p
/-- what a slot holds: nothing that is told; data; a thing of its own; a thing handed in by reference; the memory: cells by their addresses, to which data may point -/
inductive SV where
  | un | d (x : D) | ow (o : OO) | rf (o : OO) | mm (μ : List (Addr × OO))
/-- what an expression gives: data; a new thing that nobody else holds; the thing in a slot; the thing in a cell of the memory -/
inductive DV where
  | d (x : D) | fr (o : OO) | sl (i : Nat) | me (p : Addr)
def SV.oo : SV → Option OO
  | .ow o => some o
  | .rf o => some o
  | _ => none
/-- the same kind of slot, another thing -/
def SV.re (y : SV) (o : OO) : SV := match y with
  | .rf _ => .rf o
  | _ => .ow o
def OR (K : PySem.W.Frag) (S H : Hp) (p : Addr) : OO → Prop
  | .l xs => ∃ vs, H p = some (.lst vs) ∧ RpL K S xs vs
  | .k kvs => ∃ ws, H p = some (.dK ws) ∧ RpK K S kvs ws
  | .i C fs => ∃ dx ws, H p = some (.ins C dx ws) ∧ RpF K S fs ws
  | .t kvs => ∃ ws, H p = some (.dT ws) ∧ RpT K S kvs ws
  | .tL kvs => ∃ ws o, H p = some (.frz o (.dT ws)) ∧ RpT K S kvs ws
  | .tb p' q => p' = p ∧ ∃ ps : Array Value, H p = some (.tbl ps) ∧ TriplesOk ps.toList ∧ ∀ (pos : Pos) (cv : Value), codeAmong pos ps.toList = some cv → ∃ c, cv = .ref c ∧ S c = some (LamX.CodeO c q)
theorem OR.there {K : PySem.W.Frag} {S H : Hp} {p : Addr} {o : OO} (h : OR K S H p o) : ∃ u, H p = some u := by
  cases o with
  | l xs => obtain ⟨vs, h, _⟩ := h; exact ⟨_, h⟩
  | k xs => obtain ⟨vs, h, _⟩ := h; exact ⟨_, h⟩
  | i C fs => obtain ⟨dx, vs, h, _⟩ := h; exact ⟨_, h⟩
  | t xs => obtain ⟨vs, h, _⟩ := h; exact ⟨_, h⟩
  | tL xs => obtain ⟨vs, o, h, _⟩ := h; exact ⟨_, h⟩
  | tb p q => obtain ⟨_, ps, h, _⟩ := h; exact ⟨_, h⟩
theorem OR.nt {K : PySem.W.Frag} {S H : Hp} {p : Addr} {o : OO} (h : OR K S H p o) : ∃ u, H p = some u ∧ ∀ xs, u ≠ .tup xs := by
  cases o with
  | l xs => obtain ⟨vs, h, _⟩ := h; exact ⟨_, h, fun _ z => nomatch z⟩
  | k xs => obtain ⟨vs, h, _⟩ := h; exact ⟨_, h, fun _ z => nomatch z⟩
  | i C fs => obtain ⟨dx, vs, h, _⟩ := h; exact ⟨_, h, fun _ z => nomatch z⟩
  | t xs => obtain ⟨vs, h, _⟩ := h; exact ⟨_, h, fun _ z => nomatch z⟩
  | tL xs => obtain ⟨vs, o, h, _⟩ := h; exact ⟨_, h, fun _ z => nomatch z⟩
  | tb p q => obtain ⟨_, ps, h, _⟩ := h; exact ⟨_, h, fun _ z => nomatch z⟩
theorem OR.mono {K : PySem.W.Frag} {S H S' H' : Hp} {p : Addr} {o : OO} (e : Same S S') (f : H' p = H p) (h : OR K S H p o) : OR K S' H' p o := by
  cases o with
  | l xs => obtain ⟨vs, h, r⟩ := h; exact ⟨vs, f.trans h, RpL.mono e r⟩
  | k xs => obtain ⟨vs, h, r⟩ := h; exact ⟨vs, f.trans h, RpK.mono e r⟩
  | i C fs => obtain ⟨dx, vs, h, r⟩ := h; exact ⟨dx, vs, f.trans h, RpF.mono e r⟩
  | t xs => obtain ⟨vs, h, r⟩ := h; exact ⟨vs, f.trans h, RpT.mono e r⟩
  | tL xs => obtain ⟨vs, o, h, r⟩ := h; exact ⟨vs, o, f.trans h, RpT.mono e r⟩
  | tb p q => obtain ⟨z, ps, h, r, c⟩ := h; exact ⟨z, ps, f.trans h, r, fun pos cv hc => (c pos cv hc).imp fun _ y => ⟨y.1, e _ _ y.2⟩⟩
/-- the frame of a run: what stood and stays, the arguments -/
structure Fm where
  B : Hp
  vs : List V
  n : Nat
/-- S grows outside of B, but for tuples -/
structure Gr (B S S' : Hp) : Prop where
  s : Same S S'
  n : ∀ a u, S a = none → S' a = some u → B a = none ∨ ∃ xs, u = .tup xs
theorem Gr.refl (B S : Hp) : Gr B S S := ⟨Same.refl S, fun a u h k => by rw [h] at k; cases k⟩
theorem Gr.trans {B S S' S'' : Hp} (a : Gr B S S') (b : Gr B S' S'') : Gr B S S'' := ⟨a.s.trans b.s, fun c u h k => by
  cases q : S' c with
  | none => exact b.n c u q k
  | some o =>
    have e := b.s c o q
    rw [k] at e
    cases e
    exact a.n c u h q⟩
theorem Gr.free {B S S' : Hp} (g : Gr B S S') {p : Addr} (h : S p = none) (b : B p ≠ none) (nt : ∀ xs, S' p ≠ some (.tup xs)) : S' p = none := by
  cases q : S' p with
  | none => rfl
  | some o =>
    rcases g.n p o h q with z | ⟨xs, z⟩
    · exact absurd z b
    · exact absurd (z ▸ q) (nt xs)
/-- the slot's things stand at q -/
def Has (x : SV) (ov : Option V) (q : Addr) : Prop := match x with
  | .ow _ => ov = some (.ref q)
  | .rf _ => ov = some (.ref q)
  | .mm μ => ∃ o, (q, o) ∈ μ
  | _ => False
/-- a slot -/
def SR (K : PySem.W.Frag) (B S H : Hp) (ov : Option V) (arg : Option V) : SV → Prop
  | .un => True
  | .d x => ∃ v, ov = some v ∧ Rp K S x v
  | .ow o => ∃ p, ov = some (.ref p) ∧ B p = none ∧ S p = none ∧ OR K S H p o
  | .rf o => ∃ p, ov = some (.ref p) ∧ arg = some (.ref p) ∧ B p = none ∧ S p = none ∧ OR K S H p o
  | .mm μ => (μ.map Prod.fst).Nodup ∧ ∀ q o, (q, o) ∈ μ → B q = none ∧ S q = none ∧ OR K S H q o
structure R (K : PySem.W.Frag) (F : Fm) (S : Hp) (ρ : List SV) (σ : St) (H : Hp) : Prop where
  len : ρ.length = σ.length
  ln : ρ.length = F.n
  b : Same F.B H
  s : Same S H
  at_ : ∀ (i : Nat) (x : SV), ρ[i]? = some x → ∃ ov : Option V, σ[i]? = some ov ∧ SR K F.B S H ov (F.vs[i]?) x
  ap : ∀ (i j : Nat) (x y : SV) (ov ow : Option V) (p : Addr), ρ[i]? = some x → ρ[j]? = some y → σ[i]? = some ov → σ[j]? = some ow → Has x ov p → Has y ow p → i = j
/-- no slot's own thing is at p -/
def NoSl (ρ : List SV) (σ : St) (p : Addr) : Prop := ∀ (i : Nat) (x : SV) (ov : Option V), ρ[i]? = some x → σ[i]? = some ov → ¬ Has x ov p
def VR (K : PySem.W.Frag) (F : Fm) (S : Hp) (ρ : List SV) (σ : St) (H : Hp) (v : V) : DV → Prop
  | .d x => Rp K S x v
  | .fr o => ∃ p, v = .ref p ∧ F.B p = none ∧ S p = none ∧ NoSl ρ σ p ∧ OR K S H p o
  | .sl i => σ[i]? = some (some v)
  | .me p => v = .ref p
/-- an exception: its class, its attributes (none: it has no dict) -/
structure DExc where
  cls : Value
  fs : Option (List (Str × D))
def XR (K : PySem.W.Frag) (S H : Hp) (e : DExc) (cls : Value) (d : Option Addr) : Prop :=
  cls = e.cls ∧ match e.fs with
    | none => d = none
    | some fs => ∃ (dd : Addr) (ws : List (Str × V)), d = some dd ∧ S dd = some (.xd ws) ∧ RpF K S fs ws
/-- an expression's pure reading -/
abbrev DTE := List SV → (DV → List SV → Prop) → (DExc → List SV → Prop) → Prop
structure DEnds where
  nx : List SV → Prop
  rt : DV → List SV → Prop
  ex : DExc → List SV → Prop
  bk : List SV → Prop := fun _ => False
  ct : List SV → Prop := fun _ => False
abbrev DTS := DEnds → List SV → Prop

section
variable {K : PySem.W.Frag} {F : Fm} {S S' H H' : Hp} {ρ ρ' : List SV} {σ : St} {v : V} {x : DV}
theorem Has.oo {x : SV} {ov : Option V} {o : OO} {p : Addr} (e : x.oo = some o) (h : ov = some (.ref p)) : Has x ov p := by
  cases x with
  | un => cases e
  | d _ => cases e
  | ow _ => exact h
  | rf _ => exact h
  | mm _ => cases e
/-- what a slot's things are known by -/
theorem SR.held {B : Hp} {ov arg : Option V} {y : SV} {p : Addr} (h : SR K B S H ov arg y) (e : Has y ov p) : B p = none ∧ S p = none ∧ ∃ o, OR K S H p o := by
  cases y with
  | un => exact False.elim e
  | d x => exact False.elim e
  | ow o =>
    obtain ⟨q, a, b, c, d⟩ := h
    have e : ov = some (.ref p) := e
    rw [a] at e
    cases e
    exact ⟨b, c, o, d⟩
  | rf o =>
    obtain ⟨q, a, _, b, c, d⟩ := h
    have e : ov = some (.ref p) := e
    rw [a] at e
    cases e
    exact ⟨b, c, o, d⟩
  | mm μ =>
    obtain ⟨o, e⟩ := e
    obtain ⟨a, b, c⟩ := h.2 _ _ e
    exact ⟨a, b, o, c⟩
/-- a slot in another frame, told part, heap: what is asked of its things -/
theorem SR.move {B B' : Hp} {ov arg : Option V} {y : SV} (g : Same S S') (hn : ∀ p, Has y ov p → B p = none → S p = none → B' p = none ∧ S' p = none ∧ ∀ o, OR K S H p o → OR K S' H' p o) (h : SR K B S H ov arg y) : SR K B' S' H' ov arg y := by
  cases y with
  | un => exact trivial
  | d x => obtain ⟨v, e, h⟩ := h; exact ⟨v, e, Rp.mono g h⟩
  | ow o =>
    obtain ⟨p, e, h1, h2, h⟩ := h
    have q := hn p e h1 h2
    exact ⟨p, e, q.1, q.2.1, q.2.2 _ h⟩
  | rf o =>
    obtain ⟨p, e, e2, h1, h2, h⟩ := h
    have q := hn p e h1 h2
    exact ⟨p, e, e2, q.1, q.2.1, q.2.2 _ h⟩
  | mm μ =>
    refine ⟨h.1, fun q o m => ?_⟩
    obtain ⟨a, b, c⟩ := h.2 q o m
    have z := hn q ⟨o, m⟩ a b
    exact ⟨z.1, z.2.1, z.2.2 _ c⟩
theorem SR.mono {ov arg : Option V} {y : SV} (g : Same S S') (hn : ∀ p, Has y ov p → S p = none → S' p = none ∧ H' p = H p) (h : SR K F.B S H ov arg y) : SR K F.B S' H' ov arg y :=
  h.move g fun p e hb hs => ⟨hb, (hn p e hs).1, fun _ q => q.mono g (hn p e hs).2⟩
theorem SR.own {B : Hp} {ov arg : Option V} {y : SV} {o : OO} (h : SR K B S H ov arg y) (e : y.oo = some o) : ∃ p, ov = some (.ref p) ∧ B p = none ∧ S p = none ∧ OR K S H p o := by
  cases y with
  | un => cases e
  | d x => cases e
  | ow o' => cases e; exact h
  | rf o' => cases e; obtain ⟨p, a, _, b⟩ := h; exact ⟨p, a, b⟩
  | mm μ => cases e
theorem R.own (r : R K F S ρ σ H) {i : Nat} {y : SV} {o : OO} (h : ρ[i]? = some y) (e : y.oo = some o) : ∃ p, σ[i]? = some (some (.ref p)) ∧ F.B p = none ∧ S p = none ∧ OR K S H p o := by
  obtain ⟨ov, h1, h2⟩ := r.at_ i y h
  obtain ⟨p, e1, h3⟩ := h2.own e
  exact ⟨p, by rw [h1, e1], h3⟩
theorem R.held (r : R K F S ρ σ H) {i : Nat} {y : SV} {ov : Option V} {p : Addr} (h : ρ[i]? = some y) (h1 : σ[i]? = some ov) (e : Has y ov p) : F.B p = none ∧ S p = none ∧ ∃ o, OR K S H p o := by
  obtain ⟨ov', h2, h3⟩ := r.at_ i y h
  rw [h1] at h2
  cases h2
  exact h3.held e
/-- the heap grows, nothing that was told changes -/
theorem R.grow (r : R K F S ρ σ H) (e : Same H H') : R K F S ρ σ H' :=
  ⟨r.len, r.ln, r.b.trans e, r.s.trans e, fun i x h => by
    obtain ⟨ov, h1, h2⟩ := r.at_ i x h
    refine ⟨ov, h1, h2.mono (Same.refl S) fun p ho hn => ⟨hn, ?_⟩⟩
    obtain ⟨_, _, o, h3⟩ := h2.held ho
    obtain ⟨u, hu⟩ := h3.there
    rw [hu, e p u hu], r.ap⟩
/-- a thing at p, outside of all slots, is told from now on -/
theorem R.tell (r : R K F S ρ σ H) {p : Addr} {o : HO} (h : H p = some o) (hs : S p = none) (hb : F.B p = none) (hn : NoSl ρ σ p) : R K F (upd S p o) ρ σ H ∧ Gr F.B S (upd S p o) := by
  have g : Same S (upd S p o) := fun a u e => by rw [upd_ne (ne_of_none e hs)]; exact e
  refine ⟨⟨r.len, r.ln, r.b, fun a u e => ?_, fun i x h1 => ?_, r.ap⟩, g, fun a w e k => ?_⟩
  · by_cases q : a = p
    · rw [q, upd_same] at e
      rw [q, h]; exact e
    · rw [upd_ne q] at e
      exact r.s a u e
  · obtain ⟨ov, h2, h3⟩ := r.at_ i x h1
    refine ⟨ov, h2, h3.mono g fun q e1 hq => ⟨?_, rfl⟩⟩
    by_cases z : q = p
    · rw [z] at e1
      exact absurd e1 (hn i x ov h1 h2)
    · rw [upd_ne z]; exact hq
  · by_cases q : a = p
    · rw [q]; exact .inl hb
    · rw [upd_ne q, e] at k
      cases k
/-- a tuple at p is told from now on -/
theorem R.tellT (r : R K F S ρ σ H) {p : Addr} {xs : List V} (h : H p = some (.tup xs)) : ∃ S', R K F S' ρ σ H ∧ Gr F.B S S' ∧ S' p = some (.tup xs) := by
  cases hs : S p with
  | some u =>
    have e := r.s p u hs
    rw [h] at e
    cases e
    exact ⟨S, r, Gr.refl _ _, hs⟩
  | none =>
    have g : Same S (upd S p (.tup xs)) := fun a u e => by rw [upd_ne (ne_of_none e hs)]; exact e
    refine ⟨upd S p (.tup xs), ⟨r.len, r.ln, r.b, fun a u e => ?_, fun i x h1 => ?_, r.ap⟩, ⟨g, fun a w e k => ?_⟩, upd_same⟩
    · by_cases q : a = p
      · rw [q, upd_same] at e
        rw [q, h]; exact e
      · rw [upd_ne q] at e
        exact r.s a u e
    · obtain ⟨ov, h2, h3⟩ := r.at_ i x h1
      refine ⟨ov, h2, h3.mono g fun q e1 hq => ⟨?_, rfl⟩⟩
      have : q ≠ p := fun z => by
        obtain ⟨_, _, o, h4⟩ := h3.held e1
        obtain ⟨u, hu, nt⟩ := h4.nt
        rw [z, h] at hu
        exact nt xs (Option.some.inj hu).symm
      rw [upd_ne this]; exact hq
    · by_cases q : a = p
      · rw [q, upd_same] at k
        exact .inr ⟨xs, (Option.some.inj k).symm⟩
      · rw [upd_ne q, e] at k
        cases k
theorem NoSl.new (r : R K F S ρ σ H) {p : Addr} (h : H p = none) : NoSl ρ σ p := fun i x ov h1 h2 ho => by
  obtain ⟨_, _, o, h3⟩ := r.held h1 h2 ho
  obtain ⟨u, hu⟩ := h3.there
  rw [h] at hu
  cases hu
theorem R.newB (r : R K F S ρ σ H) {p : Addr} (h : H p = none) : F.B p = none ∧ S p = none := ⟨r.b.free h, r.s.free h⟩
theorem OR.toRp {p : Addr} {o : OO} (h : OR K S H p o) : ∃ u, H p = some u ∧ ∀ S', Same S S' → S' p = some u → Rp K S' o.toD (.ref p) := by
  cases o with
  | l xs => obtain ⟨vs, h, g⟩ := h; exact ⟨_, h, fun S' e q => ⟨p, vs, rfl, q, RpL.mono e g⟩⟩
  | k xs => obtain ⟨vs, h, g⟩ := h; exact ⟨_, h, fun S' e q => ⟨p, vs, rfl, .inl q, RpK.mono e g⟩⟩
  | i C fs => obtain ⟨dx, vs, h, g⟩ := h; exact ⟨_, h, fun S' e q => ⟨p, dx, vs, rfl, q, RpF.mono e g⟩⟩
  | t xs => obtain ⟨vs, h, g⟩ := h; exact ⟨_, h, fun S' e q => ⟨p, vs, rfl, .inl q, RpT.mono e g⟩⟩
  | tL xs => obtain ⟨vs, o, h, g⟩ := h; exact ⟨_, h, fun S' e q => ⟨p, vs, rfl, .inr ⟨o, q⟩, RpT.mono e g⟩⟩
  | tb p q => obtain ⟨z, ps, h, _⟩ := h; exact ⟨_, h, fun S' _ _ => (by rw [← z]; exact rfl)⟩
/-- a new thing is given up to the told part -/
theorem VR.freeze {o : OO} (r : R K F S ρ σ H) (h : VR K F S ρ σ H v (.fr o)) : ∃ S', Gr F.B S S' ∧ R K F S' ρ σ H ∧ Rp K S' o.toD v := by
  obtain ⟨p, rfl, h1, h2, h3, h4⟩ := h
  obtain ⟨u, hu, k⟩ := h4.toRp
  have q := r.tell hu h2 h1 h3
  exact ⟨_, q.2, q.1, k _ q.2.s upd_same⟩
/-- one slot is another, all else as it was -/
theorem set_at {α : Type} {l : List α} {i j : Nat} {x y : α} (e : (l.set i x)[j]? = some y) : (i = j ∧ y = x ∧ i < l.length) ∨ (i ≠ j ∧ l[j]? = some y) := by
  by_cases hj : i = j
  · subst hj
    by_cases hl : i < l.length
    · rw [List.getElem?_set_self hl] at e
      cases e
      exact .inl ⟨rfl, rfl, hl⟩
    · rw [List.getElem?_eq_none (by rw [List.length_set]; omega)] at e
      cases e
  · rw [List.getElem?_set_ne hj] at e
    exact .inr ⟨hj, e⟩
/-- a slot's own thing is given up to the told part -/
theorem R.freeze (r : R K F S ρ σ H) {i : Nat} {o : OO} (h : ρ[i]? = some (.ow o)) (hv : σ[i]? = some (some v)) : ∃ S', Gr F.B S S' ∧ R K F S' (ρ.set i (.d o.toD)) σ H ∧ Rp K S' o.toD v := by
  obtain ⟨p, e1, h1, h2, h4⟩ := r.own h rfl
  rw [hv] at e1
  cases e1
  obtain ⟨u, hu, k⟩ := h4.toRp
  have g : Same S (upd S p u) := fun a w e => by rw [upd_ne (ne_of_none e h2)]; exact e
  have rp := k _ g upd_same
  refine ⟨upd S p u, ⟨g, fun a w e k => ?_⟩, ⟨by rw [List.length_set]; exact r.len, by rw [List.length_set]; exact r.ln, r.b, fun a w e => ?_, fun j y e => ?_, fun a b x y ov ow q ha hb sa sb xa yb => ?_⟩, rp⟩
  · by_cases q : a = p
    · rw [q]; exact .inl h1
    · rw [upd_ne q, e] at k
      cases k
  · by_cases q : a = p
    · rw [q, upd_same] at e
      rw [q, hu]; exact e
    · rw [upd_ne q] at e
      exact r.s a w e
  · rcases set_at e with ⟨rfl, rfl, _⟩ | ⟨hj, e'⟩
    · exact ⟨_, hv, _, rfl, rp⟩
    · obtain ⟨ov, h5, h6⟩ := r.at_ j y e'
      refine ⟨ov, h5, h6.mono g fun q e2 hq => ⟨?_, rfl⟩⟩
      have : q ≠ p := fun z => hj (r.ap j i y _ ov _ p e' h h5 hv (z ▸ e2) rfl).symm
      rw [upd_ne this]; exact hq
  · rcases set_at ha with ⟨rfl, rfl, _⟩ | ⟨_, ha⟩
    · exact False.elim xa
    · rcases set_at hb with ⟨rfl, rfl, _⟩ | ⟨_, hb⟩
      · exact False.elim yb
      · exact r.ap a b x y ov ow q ha hb sa sb xa yb
/-- a slot is stored: data -/
theorem R.setD (r : R K F S ρ σ H) {i : Nat} {x : D} (hi : i < σ.length) (h : Rp K S x v) : R K F S (ρ.set i (.d x)) (σ.set i (some v)) H := by
  refine ⟨by rw [List.length_set, List.length_set]; exact r.len, by rw [List.length_set]; exact r.ln, r.b, r.s, fun j y e => ?_, fun a b x' y ov ow q ha hb sa sb xa yb => ?_⟩
  · rcases set_at e with ⟨rfl, rfl, _⟩ | ⟨hj, e⟩
    · exact ⟨_, List.getElem?_set_self hi, v, rfl, h⟩
    · rw [List.getElem?_set_ne hj]
      exact r.at_ j y e
  · rcases set_at ha with ⟨rfl, rfl, _⟩ | ⟨h1, ha⟩
    · exact False.elim xa
    · rcases set_at hb with ⟨rfl, rfl, _⟩ | ⟨h2, hb⟩
      · exact False.elim yb
      · rw [List.getElem?_set_ne h1] at sa
        rw [List.getElem?_set_ne h2] at sb
        exact r.ap a b x' y ov ow q ha hb sa sb xa yb
/-- a slot is stored: a new thing -/
theorem R.setO (r : R K F S ρ σ H) {i : Nat} {o : OO} (hi : i < σ.length) (h : VR K F S ρ σ H v (.fr o)) : R K F S (ρ.set i (.ow o)) (σ.set i (some v)) H := by
  obtain ⟨p, rfl, h1, h2, h3, h4⟩ := h
  refine ⟨by rw [List.length_set, List.length_set]; exact r.len, by rw [List.length_set]; exact r.ln, r.b, r.s, fun j y e => ?_, fun a b x' y ov ow q ha hb sa sb xa yb => ?_⟩
  · rcases set_at e with ⟨rfl, rfl, _⟩ | ⟨hj, e⟩
    · exact ⟨_, List.getElem?_set_self hi, p, rfl, h1, h2, h4⟩
    · rw [List.getElem?_set_ne hj]
      exact r.at_ j y e
  · rcases set_at ha with ⟨rfl, rfl, _⟩ | ⟨e1, ha⟩
    · rcases set_at hb with ⟨rfl, rfl, _⟩ | ⟨e2, hb⟩
      · rfl
      · rw [List.getElem?_set_self hi] at sa
        cases sa
        have xa : some (V.ref p) = some (V.ref q) := xa
        cases xa
        rw [List.getElem?_set_ne e2] at sb
        exact absurd yb (h3 b y ow hb sb)
    · rw [List.getElem?_set_ne e1] at sa
      rcases set_at hb with ⟨rfl, rfl, _⟩ | ⟨e2, hb⟩
      · rw [List.getElem?_set_self hi] at sb
        cases sb
        have yb : some (V.ref p) = some (V.ref q) := yb
        cases yb
        exact absurd xa (h3 a x' ov ha sa)
      · rw [List.getElem?_set_ne e2] at sb
        exact r.ap a b x' y ov ow q ha hb sa sb xa yb
theorem OR.upd_ne {p q : Addr} {u : HO} {o : OO} (n : q ≠ p) (h : OR K S H q o) : OR K S (upd H p u) q o := h.mono (Same.refl S) (L2.upd_ne n)
/-- a slot's own thing is changed in place -/
theorem R.change (r : R K F S ρ σ H) {i : Nat} {y y' : SV} {o o' : OO} {p : Addr} {u : HO} (h : ρ[i]? = some y) (ho : y.oo = some o) (hv : σ[i]? = some (some (.ref p))) (hy : y' = y.re o')
    (hu : OR K S (upd H p u) p o') : R K F S (ρ.set i y') σ (upd H p u) := by
  have hr : i < ρ.length := (List.getElem?_eq_some_iff.mp h).1
  obtain ⟨ov0, e0, sr0⟩ := r.at_ i y h
  obtain ⟨p', e1, h1, h2, h4⟩ := sr0.own ho
  rw [hv] at e0
  cases e0
  cases e1
  have hp : Has y (some (.ref p)) p := Has.oo ho rfl
  have ne : ∀ {X : Hp} {a : Addr} {w : HO}, X p = none → X a = some w → a ≠ p := fun n e z => by rw [z, n] at e; cases e
  refine ⟨by rw [List.length_set]; exact r.len, by rw [List.length_set]; exact r.ln, fun a w e => ?_, fun a w e => ?_, fun j z e => ?_, fun a b x' z ov ow q ha hb sa sb xa yb => ?_⟩
  · rw [L2.upd_ne (ne h1 e)]; exact r.b a w e
  · rw [L2.upd_ne (ne h2 e)]; exact r.s a w e
  · rcases set_at e with ⟨rfl, rfl, _⟩ | ⟨hj, e⟩
    · refine ⟨_, hv, ?_⟩
      cases y with
      | un => cases ho
      | d _ => cases ho
      | mm _ => cases ho
      | ow _ => rw [hy]; exact ⟨p, rfl, h1, h2, hu⟩
      | rf _ =>
        rw [hy]
        obtain ⟨q, e3, e4, _⟩ := sr0
        cases e3
        exact ⟨p, rfl, e4, h1, h2, hu⟩
    · obtain ⟨ov, h5, h6⟩ := r.at_ j z e
      refine ⟨ov, h5, h6.mono (Same.refl S) fun q e2 hq => ⟨hq, ?_⟩⟩
      have : q ≠ p := fun e3 => hj (r.ap i j y z _ ov p h e hv h5 hp (e3 ▸ e2))
      rw [L2.upd_ne this]
  · have w : ∀ {a : Nat} {x' : SV} {ov : Option V}, (ρ.set i y')[a]? = some x' → σ[a]? = some ov → Has x' ov q → ∃ x, ρ[a]? = some x ∧ Has x ov q := fun {a x' ov} ha sa xa => by
      rcases set_at ha with ⟨rfl, rfl, _⟩ | ⟨_, ha⟩
      · rw [hv] at sa
        cases sa
        refine ⟨y, h, ?_⟩
        have xq : some (V.ref p) = some (V.ref q) := by
          rw [hy] at xa
          cases y with
          | un => cases ho
          | d _ => cases ho
          | mm _ => cases ho
          | ow _ => exact xa
          | rf _ => exact xa
        cases xq
        exact hp
      · exact ⟨x', ha, xa⟩
    obtain ⟨x1, g1, g2⟩ := w ha sa xa
    obtain ⟨x2, g3, g4⟩ := w hb sb yb
    exact r.ap a b x1 x2 ov ow q g1 g3 sa sb g2 g4
/-- another object beside, outside of all that is told -/
theorem R.beside (r : R K F S ρ σ H) {p : Addr} {u : HO} (h1 : F.B p = none) (h2 : S p = none) (h3 : NoSl ρ σ p) : R K F S ρ σ (upd H p u) := by
  have ne : ∀ {X : Hp} {a : Addr} {w : HO}, X p = none → X a = some w → a ≠ p := fun n e z => by rw [z, n] at e; cases e
  refine ⟨r.len, r.ln, fun a w e => by rw [L2.upd_ne (ne h1 e)]; exact r.b a w e, fun a w e => by rw [L2.upd_ne (ne h2 e)]; exact r.s a w e, fun j z e => ?_, r.ap⟩
  obtain ⟨ov, h5, h6⟩ := r.at_ j z e
  refine ⟨ov, h5, h6.mono (Same.refl S) fun q e2 hq => ⟨hq, ?_⟩⟩
  have : q ≠ p := fun e3 => h3 j z ov e h5 (e3 ▸ e2)
  rw [L2.upd_ne this]
/-- a slot is no longer told -/
theorem R.forget (r : R K F S ρ σ H) (i : Nat) : R K F S (ρ.set i .un) σ H := by
  refine ⟨by rw [List.length_set]; exact r.len, by rw [List.length_set]; exact r.ln, r.b, r.s, fun j z e => ?_, fun a b x y ov ow q ha hb sa sb xa yb => ?_⟩
  · rcases set_at e with ⟨rfl, rfl, hr⟩ | ⟨_, e⟩
    · exact ⟨_, List.getElem?_eq_getElem (by rw [← r.len]; exact hr), trivial⟩
    · exact r.at_ j z e
  · rcases set_at ha with ⟨rfl, rfl, _⟩ | ⟨_, ha⟩
    · exact False.elim xa
    · rcases set_at hb with ⟨rfl, rfl, _⟩ | ⟨_, hb⟩
      · exact False.elim yb
      · exact r.ap a b x y ov ow q ha hb sa sb xa yb
end
end DW
/-! DWb: judgements by pure readings; names, constants, operators, comparisons, tests, displays, attributes, subscripts. -/
namespace DW
open PySem L2

/-- the reading in the layer's words of a pure one -/
def tD (K : PySem.W.Frag) (W : WX) (de : DTE) : TE := fun σ H QQ => ∃ (F : Fm) (S : Hp) (ρ : List SV) (Q : DV → List SV → Prop) (Ee : DExc → List SV → Prop), R K F S ρ σ H ∧ de ρ Q Ee ∧
  (∀ v x S' ρ' H', Gr F.B S S' → R K F S' ρ' σ H' → VR K F S' ρ' σ H' v x → Q x ρ' → QQ v H') ∧
  (∀ e cls d S' ρ' H', Gr F.B S S' → R K F S' ρ' σ H' → XR K S' H' e cls d → Ee e ρ' → W cls d σ H')
abbrev DTT := List SV → (Bool → List SV → Prop) → (DExc → List SV → Prop) → Prop
def tDT (K : PySem.W.Frag) (W : WX) (de : DTT) : TT := fun σ H QQ => ∃ (F : Fm) (S : Hp) (ρ : List SV) (Q : Bool → List SV → Prop) (Ee : DExc → List SV → Prop), R K F S ρ σ H ∧ de ρ Q Ee ∧
  (∀ b S' ρ' H', Gr F.B S S' → R K F S' ρ' σ H' → Q b ρ' → QQ b H') ∧
  (∀ e cls d S' ρ' H', Gr F.B S S' → R K F S' ρ' σ H' → XR K S' H' e cls d → Ee e ρ' → W cls d σ H')
abbrev DTA := List SV → (List D → List SV → Prop) → (DExc → List SV → Prop) → Prop
def tDA (K : PySem.W.Frag) (W : WX) (de : DTA) : TA := fun σ H QQ => ∃ (F : Fm) (S : Hp) (ρ : List SV) (Q : List D → List SV → Prop) (Ee : DExc → List SV → Prop), R K F S ρ σ H ∧ de ρ Q Ee ∧
  (∀ vs xs S' ρ' H', Gr F.B S S' → R K F S' ρ' σ H' → RpL K S' xs vs → Q xs ρ' → QQ vs H') ∧
  (∀ e cls d S' ρ' H', Gr F.B S S' → R K F S' ρ' σ H' → XR K S' H' e cls d → Ee e ρ' → W cls d σ H')
def DE (X : Cx) (W : WX) (e : Expr) (de : DTE) : Prop := PE X e (tD X.K W de)
def DT (X : Cx) (W : WX) (e : Expr) (de : DTT) : Prop := PT X e (tDT X.K W de)
def DPW (X : Cx) (W : WX) (e : Expr) (de : DTT) : Prop := PW X e (tDT X.K W de)
def DA (X : Cx) (W : WX) (es : List Expr) (de : DTA) : Prop := PA X es (tDA X.K W de)
theorem pe_imp {X : Cx} {e : Expr} {t t' : TE} (h : PE X e t) (i : ∀ σ H Q, t' σ H Q → t σ H Q) : PE X e t' := ⟨fun pins s σ H Q I q => h.run pins s σ H Q I (i σ H Q q)⟩
theorem pt_imp {X : Cx} {e : Expr} {t t' : TT} (h : PT X e t) (i : ∀ σ H Q, t' σ H Q → t σ H Q) : PT X e t' := ⟨fun pins s σ H Q I q => h.run pins s σ H Q I (i σ H Q q)⟩
theorem pw_imp {X : Cx} {e : Expr} {t t' : TT} (h : PW X e t) (i : ∀ σ H Q, t' σ H Q → t σ H Q) : PW X e t' := ⟨fun w pins s σ H Q I q => h.run w pins s σ H Q I (i σ H Q q)⟩
theorem pa_imp {X : Cx} {e : List Expr} {t t' : TA} (h : PA X e t) (i : ∀ σ H Q, t' σ H Q → t σ H Q) : PA X e t' := ⟨fun p pins s σ H Q I q => h.run p pins s σ H Q I (i σ H Q q)⟩

/-! ### peeking, freezing -/
/-- the memory -/
def memOf : List SV → List (Addr × OO)
  | [] => []
  | .mm μ :: _ => μ
  | _ :: ρ => memOf ρ
theorem memOf_at : ∀ (ρ : List SV), memOf ρ = [] ∨ ∃ i : Nat, ρ[i]? = some (.mm (memOf ρ))
  | [] => .inl rfl
  | .mm μ :: ρ => .inr ⟨0, rfl⟩
  | .un :: ρ => (memOf_at ρ).imp id fun ⟨i, h⟩ => ⟨i + 1, by rw [List.getElem?_cons_succ]; exact h⟩
  | .d _ :: ρ => (memOf_at ρ).imp id fun ⟨i, h⟩ => ⟨i + 1, by rw [List.getElem?_cons_succ]; exact h⟩
  | .ow _ :: ρ => (memOf_at ρ).imp id fun ⟨i, h⟩ => ⟨i + 1, by rw [List.getElem?_cons_succ]; exact h⟩
  | .rf _ :: ρ => (memOf_at ρ).imp id fun ⟨i, h⟩ => ⟨i + 1, by rw [List.getElem?_cons_succ]; exact h⟩
theorem look_mem {μ : List (Addr × OO)} {p : Addr} {o : OO} (h : μ.lookup p = some o) : (p, o) ∈ μ := by
  induction μ with
  | nil => cases h
  | cons c μ ih =>
    obtain ⟨q, u⟩ := c
    rw [List.lookup_cons] at h
    by_cases e : p = q
    · subst e
      simp only [beq_self_eq_true] at h
      cases h
      exact List.mem_cons_self
    · rw [show (p == q) = false from beq_eq_false_iff_ne.mpr e] at h
      exact List.mem_cons_of_mem _ (ih h)
theorem look_none {μ : List (Addr × OO)} {p : Addr} (h : ∀ o, (p, o) ∉ μ) : μ.lookup p = none := by
  cases e : μ.lookup p with
  | none => rfl
  | some o => exact absurd (look_mem e) (h o)
theorem R.mem {K : PySem.W.Frag} {F : Fm} {S H : Hp} {ρ : List SV} {σ : St} {p : Addr} {o : OO} (r : R K F S ρ σ H) (h : (memOf ρ).lookup p = some o) : F.B p = none ∧ S p = none ∧ OR K S H p o := by
  rcases memOf_at ρ with e | ⟨i, e⟩
  · rw [e] at h
    cases h
  · obtain ⟨ov, _, _, h2⟩ := r.at_ i _ e
    exact h2 p o (look_mem h)
def pk (ρ : List SV) (x : DV) (k : D → Prop) : Prop := match x with
  | .d x => k x
  | .fr o => k o.toD
  | .sl i => match ρ[i]? with
    | some (.d x) => k x
    | some (.ow o) => k o.toD
    | some (.rf o) => k o.toD
    | _ => False
  | .me p => match (memOf ρ).lookup p with
    | some o => k o.toD
    | none => False
def DV.fz : DV → DV
  | .fr o => .d o.toD
  | x => x
def stab (x : DV) (ρ : List SV) (k : D → List SV → Prop) : Prop := match x with
  | .d a => k a ρ
  | .fr o => k o.toD ρ
  | .sl i => match ρ[i]? with
    | some (.d a) => k a ρ
    | some (.ow o) => k o.toD (ρ.set i (.d o.toD))
    | _ => False
  | .me p => k (.ptr p) ρ
/-- the top read off H, what is within off S -/
def Rp1 (K : PySem.W.Frag) (S H : Hp) : D → V → Prop
  | .lst xs, v => ∃ a vs, v = .ref a ∧ H a = some (.lst vs) ∧ RpL K S xs vs
  | .dct kvs, v => ∃ a ws, v = .ref a ∧ Rd H a (.dK ws) ∧ RpK K S kvs ws
  | .ins C fs, v => ∃ a dx ws, v = .ref a ∧ H a = some (.ins C dx ws) ∧ RpF K S fs ws
  | .tkd kvs, v => ∃ a ws, v = .ref a ∧ Rd H a (.dT ws) ∧ RpT K S kvs ws
  | x, v => Rp K S x v
theorem Rp.one {K : PySem.W.Frag} {S H : Hp} {x : D} {v : V} (e : Same S H) (h : Rp K S x v) : Rp1 K S H x v := by
  cases x with
  | lst xs => obtain ⟨a, vs, h1, h2, h3⟩ := h; exact ⟨a, vs, h1, e _ _ h2, h3⟩
  | dct xs => obtain ⟨a, vs, h1, h2, h3⟩ := h; exact ⟨a, vs, h1, h2.imp (e _ _) fun ⟨o, h⟩ => ⟨o, e _ _ h⟩, h3⟩
  | ins C fs => obtain ⟨a, dx, vs, h1, h2, h3⟩ := h; exact ⟨a, dx, vs, h1, e _ _ h2, h3⟩
  | tkd xs => obtain ⟨a, vs, h1, h2, h3⟩ := h; exact ⟨a, vs, h1, h2.imp (e _ _) fun ⟨o, h⟩ => ⟨o, e _ _ h⟩, h3⟩
  | _ => exact h
theorem OR.one {K : PySem.W.Frag} {S H : Hp} {p : Addr} {o : OO} (h : OR K S H p o) : Rp1 K S H o.toD (.ref p) := by
  cases o with
  | l xs => obtain ⟨vs, h, g⟩ := h; exact ⟨p, vs, rfl, h, g⟩
  | k xs => obtain ⟨vs, h, g⟩ := h; exact ⟨p, vs, rfl, .inl h, g⟩
  | i C fs => obtain ⟨dx, vs, h, g⟩ := h; exact ⟨p, dx, vs, rfl, h, g⟩
  | t xs => obtain ⟨vs, h, g⟩ := h; exact ⟨p, vs, rfl, .inl h, g⟩
  | tL xs => obtain ⟨vs, o, h, g⟩ := h; exact ⟨p, vs, rfl, .inr ⟨o, h⟩, g⟩
  | tb p q => obtain ⟨z, _⟩ := h; rw [← z]; exact rfl
theorem Rp1.all {K : PySem.W.Frag} {S H : Hp} {x : D} {v : V} (e : Same S H) (h : Rp1 K S H x v) : Rp K H x v := by
  cases x with
  | lst xs => obtain ⟨a, vs, h1, h2, h3⟩ := h; exact ⟨a, vs, h1, h2, RpL.mono e h3⟩
  | dct xs => obtain ⟨a, vs, h1, h2, h3⟩ := h; exact ⟨a, vs, h1, h2, RpK.mono e h3⟩
  | ins C fs => obtain ⟨a, dx, vs, h1, h2, h3⟩ := h; exact ⟨a, dx, vs, h1, h2, RpF.mono e h3⟩
  | tkd xs => obtain ⟨a, vs, h1, h2, h3⟩ := h; exact ⟨a, vs, h1, h2, RpT.mono e h3⟩
  | ptr a => exact h
  | exc c a d fs => exact Rp.mono (x := .exc c a d fs) e h
  | non => exact h
  | bl b => exact h
  | int i => exact h
  | str x => exact h
  | tup xs => exact Rp.mono (x := .tup xs) e h
  | scr ns => exact Rp.mono (x := .scr ns) e h
/-- what an operation gives: data that is told; a new told thing; a new thing that nobody holds -/
inductive Res (K : PySem.W.Frag) (S H : Hp) : V → DV → Hp → Prop where
  | d {v : V} {c : D} (h : Rp K S c v) : Res K S H v (.d c) H
  | new {p : Addr} {u : HO} {c : D} (n : H p = none) (h : ∀ S', Same S S' → S' p = some u → Rp K S' c (.ref p)) : Res K S H (.ref p) (.d c) (upd H p u)
  | fr {p : Addr} {u : HO} {o : OO} (n : H p = none) (h : OR K S (upd H p u) p o) : Res K S H (.ref p) (.fr o) (upd H p u)

section
variable {K : PySem.W.Frag} {F : Fm} {S S' H H' : Hp} {ρ ρ' : List SV} {σ : St} {v : V} {x : DV}
theorem VR.fz (r : R K F S ρ σ H) (h : VR K F S ρ σ H v x) : ∃ S', Gr F.B S S' ∧ R K F S' ρ σ H ∧ VR K F S' ρ σ H v x.fz ∧ ∀ {S'' ρ'' H''}, Gr F.B S' S'' → VR K F S'' ρ'' σ H'' v x.fz := by
  cases x with
  | d a => exact ⟨S, Gr.refl _ _, r, h, fun g => Rp.mono g.s h⟩
  | fr o =>
    obtain ⟨S', g, r', q⟩ := VR.freeze r h
    exact ⟨S', g, r', q, fun g' => Rp.mono g'.s q⟩
  | sl i => exact ⟨S, Gr.refl _ _, r, h, fun g => h⟩
  | me p => exact ⟨S, Gr.refl _ _, r, h, fun g => h⟩
theorem VR.pk {k : D → Prop} (r : R K F S ρ σ H) (h : VR K F S ρ σ H v x) (q : DW.pk ρ x k) : ∃ a, Rp1 K S H a v ∧ k a := by
  cases x with
  | me p =>
    have h : v = .ref p := h
    unfold DW.pk at q
    cases e : (memOf ρ).lookup p with
    | none => simp only [e] at q
    | some o =>
      simp only [e] at q
      exact ⟨o.toD, h ▸ (r.mem e).2.2.one, q⟩
  | d a => exact ⟨a, Rp.one r.s h, q⟩
  | fr o =>
    obtain ⟨p, rfl, _, _, _, h4⟩ := h
    exact ⟨o.toD, h4.one, q⟩
  | sl i =>
    have h' : σ[i]? = some (some v) := h
    unfold DW.pk at q
    cases e : ρ[i]? with
    | none => simp only [e] at q
    | some y =>
      obtain ⟨ov, e1, sr⟩ := r.at_ i y e
      rw [h'] at e1
      cases e1
      cases y with
      | un => simp only [e] at q
      | mm _ => simp only [e] at q
      | d a =>
        simp only [e] at q
        obtain ⟨w, e2, h2⟩ := sr
        cases e2
        exact ⟨a, Rp.one r.s h2, q⟩
      | ow o =>
        simp only [e] at q
        obtain ⟨p, e2, _, _, h2⟩ := sr
        cases e2
        exact ⟨_, h2.one, q⟩
      | rf o =>
        simp only [e] at q
        obtain ⟨p, e2, _, _, _, h2⟩ := sr
        cases e2
        exact ⟨_, h2.one, q⟩
theorem VR.stab {k : D → List SV → Prop} (r : R K F S ρ σ H) (h : VR K F S ρ σ H v x) (q : DW.stab x ρ k) : ∃ a S' ρ', Gr F.B S S' ∧ R K F S' ρ' σ H ∧ Rp K S' a v ∧ k a ρ' := by
  cases x with
  | me p => exact ⟨.ptr p, S, ρ, Gr.refl _ _, r, h, q⟩
  | d a => exact ⟨a, S, ρ, Gr.refl _ _, r, h, q⟩
  | fr o =>
    obtain ⟨S', g, r', q'⟩ := VR.freeze r h
    exact ⟨_, S', ρ, g, r', q', q⟩
  | sl i =>
    have h' : σ[i]? = some (some v) := h
    unfold DW.stab at q
    cases e : ρ[i]? with
    | none => simp only [e] at q
    | some y =>
      cases y with
      | un => simp only [e] at q
      | mm _ => simp only [e] at q
      | d a =>
        simp only [e] at q
        obtain ⟨ov, e1, w, e2, h2⟩ := r.at_ i _ e
        rw [h', e2] at e1
        cases e1
        exact ⟨a, S, ρ, Gr.refl _ _, r, h2, q⟩
      | ow o =>
        simp only [e] at q
        obtain ⟨S', g, r', q'⟩ := r.freeze e h'
        exact ⟨_, S', _, g, r', q', q⟩
      | rf o => simp only [e] at q
theorem Res.ok {z : DV} (r : R K F S ρ σ H) (h : Res K S H v z H') : ∃ S', Gr F.B S S' ∧ R K F S' ρ σ H' ∧ VR K F S' ρ σ H' v z := by
  cases h with
  | d h => exact ⟨S, Gr.refl _ _, r, h⟩
  | @new p u c n h =>
    have hb := r.newB n
    have hn := NoSl.new r n
    have r1 := r.beside (u := u) hb.1 hb.2 hn
    have q := r1.tell upd_same hb.2 hb.1 hn
    exact ⟨_, q.2, q.1, h _ q.2.s upd_same⟩
  | @fr p u o n h =>
    have hb := r.newB n
    have hn := NoSl.new r n
    exact ⟨S, Gr.refl _ _, r.beside hb.1 hb.2 hn, p, rfl, hb.1, hb.2, hn, h⟩
/-- an operation by values, against its pure form -/
def OpOk (K : PySem.W.Frag) (f : D → D → (DV → Prop) → Prop) (r : R2) : Prop := ∀ (S H : Hp) (a b : D) (x y : V) (Qz : DV → Prop) (QQ : VK), Same S H → Rp1 K S H a x → Rp1 K S H b y → f a b Qz → (∀ v z H', Res K S H v z H' → Qz z → QQ v H') → r x y H QQ
def UnOk (K : PySem.W.Frag) (f : D → (DV → Prop) → Prop) (r : V → Hp → VK → Prop) : Prop := ∀ (S H : Hp) (a : D) (x : V) (Qz : DV → Prop) (QQ : VK), Same S H → Rp1 K S H a x → f a Qz → (∀ v z H', Res K S H v z H' → Qz z → QQ v H') → r x H QQ
end

/-! ### the pure readings -/
def dVar (i : Nat) : DTE := fun ρ Q _ => match ρ[i]? with
  | some (.d x) => Q (.d x) ρ
  | some (.ow _) => Q (.sl i) ρ
  | some (.rf _) => Q (.sl i) ρ
  | _ => False
/-- the thing that data points to -/
def dVw (de : DTE) : DTE := fun ρ Q E => de ρ (fun x ρ1 => match x with | .d (.ptr p) => Q (.me p) ρ1 | _ => False) E
def dC (x : D) : DTE := fun ρ Q _ => Q (.d x) ρ
def dBin (f : D → D → (DV → Prop) → Prop) (da db : DTE) : DTE := fun ρ Q E => da ρ (fun x ρ1 => db ρ1 (fun y ρ2 => pk ρ2 x.fz fun a => pk ρ2 y fun b => f a b fun z => Q z ρ2) E) E
def dUn (f : D → (DV → Prop) → Prop) (da : DTE) : DTE := fun ρ Q E => da ρ (fun x ρ1 => pk ρ1 x fun a => f a fun z => Q z ρ1) E
/-- a test's value -/
def dTst (de : DTE) : DTT := fun ρ Q E => de ρ (fun x ρ1 => match x with | .d (.bl b) => Q b ρ1 | _ => False) E
def dAnd (da db : DTT) : DTT := fun ρ Q E => da ρ (fun b ρ1 => if b = true then db ρ1 Q E else Q false ρ1) E
def dOr (da db : DTT) : DTT := fun ρ Q E => da ρ (fun b ρ1 => if b = true then Q true ρ1 else db ρ1 Q E) E
def dNot (da : DTT) : DTT := fun ρ Q E => da ρ (fun b ρ1 => Q (!b) ρ1) E
/-- and, or, not as values, of bools -/
def dAndV (da db : DTE) : DTE := fun ρ Q E => da ρ (fun x ρ1 => match x with | .d (.bl b) => if b = true then db ρ1 Q E else Q (.d (.bl false)) ρ1 | _ => False) E
def dOrV (da db : DTE) : DTE := fun ρ Q E => da ρ (fun x ρ1 => match x with | .d (.bl b) => if b = true then Q (.d (.bl true)) ρ1 else db ρ1 Q E | _ => False) E
def dNotV (da : DTE) : DTE := fun ρ Q E => da ρ (fun x ρ1 => match x with | .d (.bl b) => Q (.d (.bl (!b))) ρ1 | _ => False) E
def dIf (dt : DTT) (da db : DTE) : DTE := fun ρ Q E => dt ρ (fun b ρ1 => if b = true then da ρ1 Q E else db ρ1 Q E) E
/-- a op b op' c -/
def dChain (f f' : D → D → (DV → Prop) → Prop) (da db dc : DTE) : DTE := fun ρ Q E => da ρ (fun x ρ1 => db ρ1 (fun y ρ2 => pk ρ2 x.fz fun a => pk ρ2 y.fz fun b => f a b fun z => match z with
  | .d (.bl k) => if k = true then dc ρ2 (fun w ρ3 => pk ρ3 y.fz fun b' => pk ρ3 w fun c => f' b' c fun z' => Q z' ρ3) E else Q (.d (.bl false)) ρ2
  | _ => False) E) E
def dANil : DTA := fun ρ Q _ => Q [] ρ
def dACons (da : DTE) (dl : DTA) : DTA := fun ρ Q E => da ρ (fun x ρ1 => stab x ρ1 fun a ρ2 => dl ρ2 (fun as ρ3 => Q (a :: as) ρ3) E) E
def dLst (dl : DTA) : DTE := fun ρ Q E => dl ρ (fun as ρ1 => as.length ≤ sizeLine ∧ Q (.fr (.l as)) ρ1) E
def dTup (dl : DTA) : DTE := fun ρ Q E => dl ρ (fun as ρ1 => as.length ≤ sizeLine ∧ Q (.d (.tup as)) ρ1) E
/-- the attribute f of an instance of the class at C0 -/
def fFld (C0 : Addr) (f : Str) (a : D) (k : DV → Prop) : Prop := match a with
  | .ins C fs => C = C0 ∧ match fs.lookup f with
    | some y => k (.d y)
    | none => False
  | _ => False
def dFld (C0 : Addr) (f : Str) (da : DTE) : DTE := dUn (fFld C0 f) da

section
variable {X : Cx} {W : WX} {e a b c : Expr} {es rest : List Expr} {pos : Pos} {da db dc : DTE} {ta tb : DTT} {dl : DTA} {f f' : D → D → (DV → Prop) → Prop} {r r' : R2}
theorem d_var (i : Nat) {x : Str} (hN : X.N[i]? = some x := by rfl) (hv : Vis X.env.scope x := by first | exact Or.inl rfl | exact Or.inr (Or.inl rfl) | exact Or.inr (Or.inr rfl)) (hd : (x == ("__debug__" : Str)) = false := by decide)
    (hcd : (x == ("__classdict__" : Str)) = false := by decide) : DE X W (.Name x pos) (dVar i) := by
  refine pe_imp (pv i hN hv hd hcd) fun σ H QQ ⟨F, S, ρ, Q, Ee, r, h, kq, ke⟩ => ?_
  unfold dVar at h
  cases q : ρ[i]? with
  | none => simp only [q] at h
  | some y =>
    cases y with
    | un => simp only [q] at h
    | mm _ => simp only [q] at h
    | d x =>
      simp only [q] at h
      obtain ⟨ov, e1, w, e2, h2⟩ := r.at_ i _ q
      exact ⟨w, by rw [e1, e2], kq w (.d x) S ρ H (Gr.refl _ _) r h2 h⟩
    | ow o =>
      simp only [q] at h
      obtain ⟨ov, e1, p, e2, h2⟩ := r.at_ i _ q
      exact ⟨.ref p, by rw [e1, e2], kq _ (.sl i) S ρ H (Gr.refl _ _) r (by show σ[i]? = _; rw [e1, e2]) h⟩
    | rf o =>
      simp only [q] at h
      obtain ⟨ov, e1, p, e2, h2⟩ := r.at_ i _ q
      exact ⟨.ref p, by rw [e1, e2], kq _ (.sl i) S ρ H (Gr.refl _ _) r (by show σ[i]? = _; rw [e1, e2]) h⟩
theorem d_vw {de : DTE} (h : DE X W e de) : DE X W e (dVw de) := by
  refine pe_imp h fun σ H QQ ⟨F, S, ρ, Q, Ee, r, h, kq, ke⟩ => ⟨F, S, ρ, _, Ee, r, h, fun v x S1 ρ1 H1 g1 r1 vr1 q1 => ?_, ke⟩
  cases x with
  | d a =>
    cases a with
    | ptr p => exact kq v (.me p) S1 ρ1 H1 g1 r1 vr1 q1
    | _ => exact False.elim q1
  | _ => exact False.elim q1
theorem d_const {v : V} {x : D} (h : PE X e (tC v)) (hr : ∀ S, Rp X.K S x v) : DE X W e (dC x) :=
  pe_imp h fun σ H QQ ⟨F, S, ρ, Q, Ee, r, h, kq, ke⟩ => kq v (.d x) S ρ H (Gr.refl _ _) r (hr S) h
theorem d_int {i : Int} {j : Nat} : DE X W (.Constant (.int i) j pos) (dC (.int i)) := d_const pe_int fun _ => rfl
theorem d_bl {i : Bool} {j : Nat} : DE X W (.Constant (.bool i) j pos) (dC (.bl i)) := d_const pe_bl fun _ => rfl
theorem d_non {j : Nat} : DE X W (.Constant .none j pos) (dC .non) := d_const pe_non fun _ => rfl
theorem d_str {x : Str} {j : Nat} : DE X W (.Constant (.str x) j pos) (dC (.str x)) := d_const pe_str fun _ => rfl
/-- a module's constant that is an int -/
theorem d_glob {x : Str} {i : Int} {t : Tok} (hm : X.mg x = some (.int i t)) (hg : Gl X x := by rfl) (hd : (x == ("__debug__" : Str)) = false := by decide) : DE X W (.Name x pos) (dC (.int i)) := d_const (pe_glob (v := .int i) hg hm ⟨t, rfl⟩ (by first | exact hd | rfl)) fun _ => rfl
theorem d_globS {x z : Str} {t : Tok} (hm : X.mg x = some (.str z t)) (hg : Gl X x := by rfl) (hd : (x == ("__debug__" : Str)) = false := by decide) : DE X W (.Name x pos) (dC (.str z)) := d_const (pe_glob (v := .str z) hg hm ⟨t, rfl⟩ (by first | exact hd | rfl)) fun _ => rfl

/-- what two expressions and an operation come to -/
theorem bin_ok (ho : OpOk X.K f r) {σ : St} {H : Hp} {QQ : VK} (h : tD X.K W (dBin f da db) σ H QQ) : tOp r (tD X.K W da) (tD X.K W db) σ H QQ := by
  obtain ⟨F, S, ρ, Q, Ee, rr, h, kq, ke⟩ := h
  refine ⟨F, S, ρ, _, Ee, rr, h, fun v x S1 ρ1 H1 g1 r1 vr1 q1 => ?_, ke⟩
  obtain ⟨S2, g2, r2, vr2, keep⟩ := VR.fz r1 vr1
  refine ⟨F, S2, ρ1, _, Ee, r2, q1, fun w y S3 ρ3 H3 g3 r3 vr3 q3 => ?_, fun e cls d S' ρ' H' g' r' xr' q' => ke e cls d S' ρ' H' ((g1.trans g2).trans g') r' xr' q'⟩
  obtain ⟨a', p1, q4⟩ := VR.pk r3 (keep g3) q3
  obtain ⟨b', p2, q5⟩ := VR.pk r3 vr3 q4
  refine ho S3 H3 a' b' v w _ QQ r3.s p1 p2 q5 fun z dz H4 rs q6 => ?_
  obtain ⟨S5, g5, r5, vr5⟩ := rs.ok r3
  exact kq z dz S5 ρ3 H4 (((g1.trans g2).trans g3).trans g5) r5 vr5 q6
theorem d_bin {op : Operator} (ho : OpR X (binaryOp op) r) (hf : OpOk X.K f r) (ha : DE X W a da) (hb : DE X W b db) : DE X W (.BinOp a op b pos) (dBin f da db) :=
  pe_imp (pe_op ho ha hb) fun _ _ _ h => bin_ok hf h
theorem d_cmp {op : CmpOp} (ho : OpR X (compareOp op) r) (hf : OpOk X.K f r) (ha : DE X W a da) (hb : DE X W b db) (hm : behindInMarks op b = false := by first | exact nomark _ | with_unfolding_all rfl) : DE X W (.Compare a [op] [b] pos) (dBin f da db) :=
  pe_imp (pe_cmpR ho ha hb hm) fun _ _ _ h => bin_ok hf h
theorem tst_ok {te : TE} (i : ∀ σ H QQ, tD X.K W da σ H QQ → te σ H QQ) {σ : St} {H : Hp} {QQ : Bool → Hp → Prop} (h : tDT X.K W (dTst da) σ H QQ) : te σ H (fun x H' => ∃ k, x = .bl k ∧ QQ k H') := by
  obtain ⟨F, S, ρ, Q, Ee, rr, h, kq, ke⟩ := h
  refine i σ H _ ⟨F, S, ρ, _, Ee, rr, h, fun v x S1 ρ1 H1 g1 r1 vr1 q1 => ?_, ke⟩
  cases x with
  | d y =>
    cases y with
    | bl k =>
      have e : v = .bl k := vr1
      exact ⟨k, e, kq k S1 ρ1 H1 g1 r1 q1⟩
    | _ => exact q1.elim
  | _ => exact q1.elim
theorem d_cmpT {op : CmpOp} (ho : OpR X (compareOp op) r) (hf : OpOk X.K f r) (ha : DE X W a da) (hb : DE X W b db) (hm : behindInMarks op b = false := by first | exact nomark _ | with_unfolding_all rfl) : DT X W (.Compare a [op] [b] pos) (dTst (dBin f da db)) :=
  pt_imp (pt_cmpR ho ha hb hm) fun _ _ _ h => tst_ok (te := tOp r (tD X.K W da) (tD X.K W db)) (fun _ _ _ h => bin_ok hf h) h
/-- any expression that gives a bool, as a test (not a comparison, not and, or, not) -/
theorem d_valT (ha : DE X W e da) (he : ∀ whole, isTrue e X.env whole = (do let v ← whole; standAt e.pos; holding [v] (truthy v)) := by intro _; rfl) : DT X W e (dTst da) :=
  pt_imp (pt_val ha he) fun _ _ _ h => tst_ok (te := tD X.K W da) (fun _ _ _ h => h) h
theorem d_and1 (ha : DT X W a ta) : DPW X W (.BoolOp .And [a] pos) ta := pw_and1 ha
theorem d_or1 (ha : DT X W a ta) : DPW X W (.BoolOp .Or [a] pos) ta := pw_or1 ha
theorem d_and (ha : DT X W a ta) (hb : DPW X W (.BoolOp .And (b :: rest) pos) tb) : DPW X W (.BoolOp .And (a :: b :: rest) pos) (dAnd ta tb) := by
  refine pw_imp (pw_and ha hb) fun σ H QQ ⟨F, S, ρ, Q, Ee, rr, h, kq, ke⟩ => ?_
  refine ⟨F, S, ρ, _, Ee, rr, h, fun k S1 ρ1 H1 g1 r1 q1 => ?_, ke⟩
  cases k with
  | true => exact ⟨F, S1, ρ1, Q, Ee, r1, q1, fun b S' ρ' H' g' r' q' => kq b S' ρ' H' (g1.trans g') r' q', fun e cls d S' ρ' H' g' r' xr' q' => ke e cls d S' ρ' H' (g1.trans g') r' xr' q'⟩
  | false => exact kq false S1 ρ1 H1 g1 r1 q1
theorem d_or (ha : DT X W a ta) (hb : DPW X W (.BoolOp .Or (b :: rest) pos) tb) : DPW X W (.BoolOp .Or (a :: b :: rest) pos) (dOr ta tb) := by
  refine pw_imp (pw_or ha hb) fun σ H QQ ⟨F, S, ρ, Q, Ee, rr, h, kq, ke⟩ => ?_
  refine ⟨F, S, ρ, _, Ee, rr, h, fun k S1 ρ1 H1 g1 r1 q1 => ?_, ke⟩
  cases k with
  | true => exact kq true S1 ρ1 H1 g1 r1 q1
  | false => exact ⟨F, S1, ρ1, Q, Ee, r1, q1, fun b S' ρ' H' g' r' q' => kq b S' ρ' H' (g1.trans g') r' q', fun e cls d S' ρ' H' g' r' xr' q' => ke e cls d S' ρ' H' (g1.trans g') r' xr' q'⟩
theorem d_pw (h : DPW X W e ta) : DT X W e ta := PW.pt h
theorem d_not (ha : DT X W a ta) : DT X W (.UnaryOp .Not a pos) (dNot ta) :=
  pt_imp (pt_not ha) fun σ H QQ ⟨F, S, ρ, Q, Ee, rr, h, kq, ke⟩ => ⟨F, S, ρ, _, Ee, rr, h, fun k S1 ρ1 H1 g1 r1 q1 => kq (!k) S1 ρ1 H1 g1 r1 q1, ke⟩
theorem d_one {op : BoolOp} (ha : DE X W a da) : DE X W (.BoolOp op [a] pos) da := pe_one ha
theorem d_andV (ha : DE X W a da) (hb : DE X W (.BoolOp .And (b :: rest) pos) db) : DE X W (.BoolOp .And (a :: b :: rest) pos) (dAndV da db) := by
  refine pe_imp (pe_and ha hb) fun σ H QQ ⟨F, S, ρ, Q, Ee, rr, h, kq, ke⟩ => ?_
  refine ⟨F, S, ρ, _, Ee, rr, h, fun v x S1 ρ1 H1 g1 r1 vr1 q1 => ?_, ke⟩
  cases x with
  | d y =>
    cases y with
    | bl k =>
      have e : v = .bl k := vr1
      refine ⟨k, e, ?_⟩
      cases k with
      | true => exact ⟨F, S1, ρ1, Q, Ee, r1, q1, fun v x S' ρ' H' g' r' vr' q' => kq v x S' ρ' H' (g1.trans g') r' vr' q', fun e cls d S' ρ' H' g' r' xr' q' => ke e cls d S' ρ' H' (g1.trans g') r' xr' q'⟩
      | false => exact kq (.bl false) (.d (.bl false)) S1 ρ1 H1 g1 r1 rfl q1
    | _ => exact q1.elim
  | _ => exact q1.elim
theorem d_orV (ha : DE X W a da) (hb : DE X W (.BoolOp .Or (b :: rest) pos) db) : DE X W (.BoolOp .Or (a :: b :: rest) pos) (dOrV da db) := by
  refine pe_imp (pe_or ha hb) fun σ H QQ ⟨F, S, ρ, Q, Ee, rr, h, kq, ke⟩ => ?_
  refine ⟨F, S, ρ, _, Ee, rr, h, fun v x S1 ρ1 H1 g1 r1 vr1 q1 => ?_, ke⟩
  cases x with
  | d y =>
    cases y with
    | bl k =>
      have e : v = .bl k := vr1
      refine ⟨k, e, ?_⟩
      cases k with
      | false => exact ⟨F, S1, ρ1, Q, Ee, r1, q1, fun v x S' ρ' H' g' r' vr' q' => kq v x S' ρ' H' (g1.trans g') r' vr' q', fun e cls d S' ρ' H' g' r' xr' q' => ke e cls d S' ρ' H' (g1.trans g') r' xr' q'⟩
      | true => exact kq (.bl true) (.d (.bl true)) S1 ρ1 H1 g1 r1 rfl q1
    | _ => exact q1.elim
  | _ => exact q1.elim
theorem d_notV (ha : DE X W a da) : DE X W (.UnaryOp .Not a pos) (dNotV da) := by
  refine pe_imp (pe_not ha) fun σ H QQ ⟨F, S, ρ, Q, Ee, rr, h, kq, ke⟩ => ?_
  refine ⟨F, S, ρ, _, Ee, rr, h, fun v x S1 ρ1 H1 g1 r1 vr1 q1 => ?_, ke⟩
  cases x with
  | d y =>
    cases y with
    | bl k =>
      have e : v = .bl k := vr1
      exact ⟨k, e, kq (.bl (!k)) (.d (.bl (!k))) S1 ρ1 H1 g1 r1 rfl q1⟩
    | _ => exact q1.elim
  | _ => exact q1.elim
theorem d_if (hc : DT X W c ta) (ha : DE X W a da) (hb : DE X W b db) : DE X W (.IfExp c a b pos) (dIf ta da db) := by
  refine pe_imp (pe_ifExp hc ha hb) fun σ H QQ ⟨F, S, ρ, Q, Ee, rr, h, kq, ke⟩ => ?_
  refine ⟨F, S, ρ, _, Ee, rr, h, fun k S1 ρ1 H1 g1 r1 q1 => ?_, ke⟩
  cases k with
  | true => exact ⟨F, S1, ρ1, Q, Ee, r1, q1, fun v x S' ρ' H' g' r' vr' q' => kq v x S' ρ' H' (g1.trans g') r' vr' q', fun e cls d S' ρ' H' g' r' xr' q' => ke e cls d S' ρ' H' (g1.trans g') r' xr' q'⟩
  | false => exact ⟨F, S1, ρ1, Q, Ee, r1, q1, fun v x S' ρ' H' g' r' vr' q' => kq v x S' ρ' H' (g1.trans g') r' vr' q', fun e cls d S' ρ' H' g' r' xr' q' => ke e cls d S' ρ' H' (g1.trans g') r' xr' q'⟩
theorem chain_ok (hf : OpOk X.K f r) (hf' : OpOk X.K f' r') {σ : St} {H : Hp} {QQ : VK} (h : tD X.K W (dChain f f' da db dc) σ H QQ) : tChain r r' (tD X.K W da) (tD X.K W db) (tD X.K W dc) σ H QQ := by
  obtain ⟨F, S, ρ, Q, Ee, rr, h, kq, ke⟩ := h
  refine ⟨F, S, ρ, _, Ee, rr, h, fun v x S1 ρ1 H1 g1 r1 vr1 q1 => ?_, ke⟩
  obtain ⟨S2, g2, r2, vr2, keep⟩ := VR.fz r1 vr1
  refine ⟨F, S2, ρ1, _, Ee, r2, q1, fun w y S3 ρ3 H3 g3 r3 vr3 q3 => ?_, fun e cls d S' ρ' H' g' r' xr' q' => ke e cls d S' ρ' H' ((g1.trans g2).trans g') r' xr' q'⟩
  obtain ⟨S4, g4, r4, vr4, keep4⟩ := VR.fz r3 vr3
  obtain ⟨a', p1, q4⟩ := VR.pk r4 (keep (g3.trans g4)) q3
  obtain ⟨b', p2, q5⟩ := VR.pk r4 vr4 q4
  refine hf S4 H3 a' b' v w _ _ r4.s p1 p2 q5 fun z dz H4 rs q6 => ?_
  obtain ⟨S5, g5, r5, vr5⟩ := rs.ok r4
  cases dz with
  | d y =>
    cases y with
    | bl k =>
      have e : z = .bl k := vr5
      refine ⟨k, e, ?_⟩
      have gg := (((g1.trans g2).trans g3).trans g4).trans g5
      cases k with
      | false => exact kq (.bl false) (.d (.bl false)) S5 ρ3 H4 gg r5 rfl q6
      | true =>
        refine ⟨F, S5, ρ3, _, Ee, r5, q6, fun u wv S6 ρ6 H6 g6 r6 vr6 q7 => ?_, fun e cls d S' ρ' H' g' r' xr' q' => ke e cls d S' ρ' H' (gg.trans g') r' xr' q'⟩
        obtain ⟨b2, p3, q8⟩ := VR.pk r6 (keep4 (g5.trans g6)) q7
        obtain ⟨c2, p4, q9⟩ := VR.pk r6 vr6 q8
        refine hf' S6 H6 b2 c2 w u _ QQ r6.s p3 p4 q9 fun z2 dz2 H7 rs2 q10 => ?_
        obtain ⟨S8, g8, r8, vr8⟩ := rs2.ok r6
        exact kq z2 dz2 S8 ρ6 H7 ((gg.trans g6).trans g8) r8 vr8 q10
    | _ => exact q6.elim
  | _ => exact q6.elim
theorem d_chain {op op' : CmpOp} (ho : OpR X (compareOp op) r) (hf : OpOk X.K f r) (ho' : OpR X (compareOp op') r') (hf' : OpOk X.K f' r') (ha : DE X W a da) (hb : DE X W b db) (hc : DE X W c dc)
    (hm : lastMarks [op, op'] [b, c] = false := by with_unfolding_all rfl) : DE X W (.Compare a [op, op'] [b, c] pos) (dChain f f' da db dc) :=
  pe_imp (pe_chain ho ho' ha hb hc hm) fun _ _ _ h => chain_ok hf hf' h
theorem d_chainT {op op' : CmpOp} (ho : OpR X (compareOp op) r) (hf : OpOk X.K f r) (ho' : OpR X (compareOp op') r') (hf' : OpOk X.K f' r') (ha : DE X W a da) (hb : DE X W b db) (hc : DE X W c dc)
    (hm : lastMarks [op, op'] [b, c] = false := by with_unfolding_all rfl) : DT X W (.Compare a [op, op'] [b, c] pos) (dTst (dChain f f' da db dc)) :=
  pt_imp (pt_chain ho ho' ha hb hc hm) fun _ _ _ h => tst_ok (te := tChain r r' (tD X.K W da) (tD X.K W db) (tD X.K W dc)) (fun _ _ _ h => chain_ok hf hf' h) h
/-! arguments, displays -/
theorem d_anil : DA X W [] dANil := pa_imp pa_nil fun σ H QQ ⟨F, S, ρ, Q, Ee, rr, h, kq, ke⟩ => kq [] [] S ρ H (Gr.refl _ _) rr rfl h
theorem d_acons (ha : DE X W e da) (hl : DA X W es dl) (hs : starEach (e :: es) X.env = (false, eval e X.env) :: starEach es X.env := by rfl) : DA X W (e :: es) (dACons da dl) := by
  refine pa_imp (pa_cons ha hl hs) fun σ H QQ ⟨F, S, ρ, Q, Ee, rr, h, kq, ke⟩ => ?_
  refine ⟨F, S, ρ, _, Ee, rr, h, fun v x S1 ρ1 H1 g1 r1 vr1 q1 => ?_, ke⟩
  obtain ⟨a', S2, ρ2, g2, r2, p2, q2⟩ := VR.stab r1 vr1 q1
  refine ⟨F, S2, ρ2, _, Ee, r2, q2, fun vs xs S3 ρ3 H3 g3 r3 p3 q3 => ?_, fun e cls d S' ρ' H' g' r' xr' q' => ke e cls d S' ρ' H' ((g1.trans g2).trans g') r' xr' q'⟩
  exact kq (v :: vs) (a' :: xs) S3 ρ3 H3 ((g1.trans g2).trans g3) r3 (RpL.cons (Rp.mono g3.s p2) p3) q3
theorem d_lst (h : DA X W es dl) : DE X W (.List es pos) (dLst dl) := by
  refine pe_imp (pe_lst h) fun σ H QQ ⟨F, S, ρ, Q, Ee, rr, h, kq, ke⟩ => ?_
  refine ⟨F, S, ρ, _, Ee, rr, h, fun vs xs S1 ρ1 H1 g1 r1 p1 q1 => ⟨by rw [p1.length]; exact q1.1, fun p hp => ?_⟩, ke⟩
  obtain ⟨S5, g5, r5, vr5⟩ := (Res.fr (S := S1) (u := .lst vs) (o := .l xs) hp ⟨vs, upd_same, p1⟩).ok r1
  exact kq (.ref p) (.fr (.l xs)) S5 ρ1 _ (g1.trans g5) r5 vr5 q1.2
theorem d_tup {x1 : Nat} (h : DA X W es dl) : DE X W (.Tuple es x1 pos) (dTup dl) := by
  refine pe_imp (pe_tup h) fun σ H QQ ⟨F, S, ρ, Q, Ee, rr, h, kq, ke⟩ => ?_
  refine ⟨F, S, ρ, _, Ee, rr, h, fun vs xs S1 ρ1 H1 g1 r1 p1 q1 => ⟨by rw [p1.length]; exact q1.1, fun p hp => ?_⟩, ke⟩
  obtain ⟨S5, g5, r5, vr5⟩ := (Res.new (S := S1) (u := .tup vs) (c := .tup xs) hp fun S' e q => ⟨p, vs, rfl, q, RpL.mono e p1⟩).ok r1
  exact kq (.ref p) (.d (.tup xs)) S5 ρ1 _ (g1.trans g5) r5 vr5 q1.2
/-- x.f of an instance -/
theorem d_fld {f : Str} {C0 : Addr} {dd : DTE} (c1 : Cls X.K C0) (c2 : NoAttr X.K C0 f) (ha : DE X W a dd) (hb : attributeBase a f X.env (eval a X.env) = eval a X.env := by rfl) :
    DE X W (.Attribute a f pos) (dFld C0 f dd) := by
  refine pe_imp (pe_fld ha hb) fun σ H QQ ⟨F, S, ρ, Q, Ee, rr, h, kq, ke⟩ => ?_
  refine ⟨F, S, ρ, _, Ee, rr, h, fun v x S1 ρ1 H1 g1 r1 vr1 q1 => ?_, ke⟩
  obtain ⟨a', p1, q2⟩ := VR.pk r1 vr1 q1
  cases a' with
  | ins C fs =>
    obtain ⟨p, dx, ws, e1, e2, e3⟩ := p1
    obtain ⟨rfl, q2⟩ := q2
    cases q : fs.lookup f with
    | none => simp only [q] at q2
    | some y =>
      simp only [q] at q2
      obtain ⟨u, l1, l2⟩ := (e3.lookup (f := f)).1 y q
      exact ⟨p, C, dx, ws, u, e1, e2, c1, c2, l1, kq u (.d y) S1 ρ1 H1 g1 r1 l2 q2⟩
  | _ => exact False.elim q2
end
end DW
/-! DWc: statements, loops, comprehensions, defs and their calls by pure readings. -/
namespace DW
open PySem L2

def tSD (K : PySem.W.Frag) (W : WX) (ds : DTS) : TS := fun D σ H => ∃ (F : Fm) (S : Hp) (ρ : List SV) (De : DEnds), R K F S ρ σ H ∧ ds De ρ ∧
  (∀ ρ' σ' S' H', Gr F.B S S' → R K F S' ρ' σ' H' → De.nx ρ' → D.nx σ' H') ∧
  (∀ v x ρ' σ' S' H', Gr F.B S S' → R K F S' ρ' σ' H' → VR K F S' ρ' σ' H' v x → De.rt x ρ' → D.rt v H') ∧
  (∀ ρ' σ' S' H', Gr F.B S S' → R K F S' ρ' σ' H' → De.bk ρ' → D.bk σ' H') ∧
  (∀ ρ' σ' S' H', Gr F.B S S' → R K F S' ρ' σ' H' → De.ct ρ' → D.ct σ' H') ∧
  (∀ e cls d ρ' σ' S' H', Gr F.B S S' → R K F S' ρ' σ' H' → XR K S' H' e cls d → De.ex e ρ' → W cls d σ' H')
def DS (X : Cx) (W : WX) (st : Stmt) (ds : DTS) : Prop := PS X st (tSD X.K W ds)
def DSs (X : Cx) (W : WX) (st : List Stmt) (ds : DTS) : Prop := PSs X st (tSD X.K W ds)
theorem ps_imp {X : Cx} {st : Stmt} {t t' : TS} (h : PS X st t) (i : ∀ D σ H, t' D σ H → t D σ H) : PS X st t' := ⟨fun p s σ H D I q => h.run p s σ H D I (i D σ H q)⟩
theorem pss_imp {X : Cx} {st : List Stmt} {t t' : TS} (h : PSs X st t) (i : ∀ D σ H, t' D σ H → t D σ H) : PSs X st t' := ⟨fun p s σ H D I q => h.run p s σ H D I (i D σ H q)⟩

/-! ### plain statements -/
def dNil : DTS := fun De ρ => De.nx ρ
def dSeq (a b : DTS) : DTS := fun De ρ => a { De with nx := fun ρ1 => b De ρ1 } ρ
/-- what an expression gives, into the slot i -/
def storeS (i : Nat) (x : DV) (ρ : List SV) (k : List SV → Prop) : Prop := i < ρ.length ∧ match x with
  | .d a => k (ρ.set i (.d a))
  | .fr o => k (ρ.set i (.ow o))
  | .sl j => stab (.sl j) ρ fun a ρ1 => k (ρ1.set i (.d a))
  | .me p => k (ρ.set i (.d (.ptr p)))
def dSet (i : Nat) (de : DTE) : DTS := fun De ρ => de ρ (fun x ρ1 => storeS i x ρ1 De.nx) De.ex
def dRet (de : DTE) : DTS := fun De ρ => de ρ De.rt De.ex
def dRetN : DTS := fun De ρ => De.rt (.d .non) ρ
def dExpr (de : DTE) : DTS := fun De ρ => de ρ (fun _ ρ1 => De.nx ρ1) De.ex
def dIfS (dt : DTT) (a b : DTS) : DTS := fun De ρ => dt ρ (fun k ρ1 => if k = true then a De ρ1 else b De ρ1) De.ex
def dBreak : DTS := fun De ρ => De.bk ρ
def dCont : DTS := fun De ρ => De.ct ρ
def dWhN (dt : DTT) (body : DTS) (De : DEnds) : Nat → List SV → Prop
  | 0, _ => False
  | n + 1, ρ => dt ρ (fun k ρ1 => if k = true then body { De with nx := dWhN dt body De n, ct := dWhN dt body De n, bk := De.nx } ρ1 else De.nx ρ1) De.ex
def dWhile (dt : DTT) (body : DTS) : DTS := fun De ρ => ∃ n, dWhN dt body De n ρ

section
variable {X : Cx} {W : WX} {st : Stmt} {rest sa sb : List Stmt} {e : Expr} {pos : Pos} {a b : DTS} {de : DTE} {dt : DTT}
theorem d_nil : DSs X W [] dNil := pss_imp pss_nil fun D σ H ⟨F, S, ρ, De, r, h, k1, k2, k3, k4, k5⟩ => k1 ρ σ S H (Gr.refl _ _) r h
theorem d_cons (ha : DS X W st a) (hb : DSs X W rest b) : DSs X W (st :: rest) (dSeq a b) := by
  refine pss_imp (pss_cons ha hb) fun D σ H ⟨F, S, ρ, De, r, h, k1, k2, k3, k4, k5⟩ => ?_
  refine ⟨F, S, ρ, _, r, h, fun ρ1 σ1 S1 H1 g1 r1 q1 => ?_, k2, k3, k4, k5⟩
  exact ⟨F, S1, ρ1, De, r1, q1, fun ρ' σ' S' H' g' => k1 ρ' σ' S' H' (g1.trans g'), fun v x ρ' σ' S' H' g' => k2 v x ρ' σ' S' H' (g1.trans g'), fun ρ' σ' S' H' g' => k3 ρ' σ' S' H' (g1.trans g'), fun ρ' σ' S' H' g' => k4 ρ' σ' S' H' (g1.trans g'),
    fun e cls d ρ' σ' S' H' g' => k5 e cls d ρ' σ' S' H' (g1.trans g')⟩
theorem d_last (ha : DS X W st a) : DSs X W [st] a := pss_one ha
theorem VR.store {K : PySem.W.Frag} {F : Fm} {S H : Hp} {ρ : List SV} {σ : St} {v : V} {x : DV} {i : Nat} {k : List SV → Prop} (r : R K F S ρ σ H) (h : VR K F S ρ σ H v x) (q : storeS i x ρ k) : ∃ S' ρ', Gr F.B S S' ∧ R K F S' ρ' (σ.set i (some v)) H ∧ k ρ' := by
  obtain ⟨hi, q⟩ := q
  have hi' : i < σ.length := by rw [← r.len]; exact hi
  cases x with
  | d a => exact ⟨S, _, Gr.refl _ _, r.setD hi' h, q⟩
  | fr o => exact ⟨S, _, Gr.refl _ _, r.setO hi' h, q⟩
  | me p => exact ⟨S, _, Gr.refl _ _, r.setD (x := .ptr p) hi' h, q⟩
  | sl j =>
    obtain ⟨a, S1, ρ1, g1, r1, p1, q1⟩ := VR.stab r h q
    exact ⟨S1, _, g1, r1.setD hi' p1, q1⟩
theorem d_set (i : Nat) {x : Str} {pos' : Pos} (he : DE X W e de) (hN : X.N.Nodup) (hi : X.N[i]? = some x := by rfl) (hx : Loc X.env.scope x := by first | exact Or.inl rfl | exact Or.inr rfl) (hs : swapsWith e (some (.Name x pos')) pos.line X.env = pure false := by rfl)
    (hf : X.fn x = true ∨ X.env.scope.names.lookup x = some .local := by first | exact .inl rfl | exact .inr rfl | assumption) : DS X W (.Assign [.Name x pos'] e pos) (dSet i de) := by
  refine ps_imp (ps_set hN hi hx he hs hf) fun D σ H ⟨F, S, ρ, De, r, h, k1, k2, k3, k4, k5⟩ => ?_
  refine ⟨F, S, ρ, _, _, r, h, fun v x S1 ρ1 H1 g1 r1 vr1 q1 => ?_, fun e cls d S' ρ' H' g' r' => k5 e cls d ρ' σ S' H' g' r'⟩
  obtain ⟨S2, ρ2, g2, r2, q2⟩ := VR.store r1 vr1 q1
  exact k1 ρ2 _ S2 H1 (g1.trans g2) r2 q2
theorem d_ret (he : DE X W e de) : DS X W (.Return (some e) pos) (dRet de) := by
  refine ps_imp (ps_ret he) fun D σ H ⟨F, S, ρ, De, r, h, k1, k2, k3, k4, k5⟩ => ?_
  exact ⟨F, S, ρ, _, _, r, h, fun v x S1 ρ1 H1 g1 r1 vr1 q1 => k2 v x ρ1 σ S1 H1 g1 r1 vr1 q1, fun e cls d S' ρ' H' g' r' => k5 e cls d ρ' σ S' H' g' r'⟩
theorem d_retN : DS X W (.Return none pos) dRetN := ps_imp ps_retN fun D σ H ⟨F, S, ρ, De, r, h, k1, k2, k3, k4, k5⟩ => k2 .non (.d .non) ρ σ S H (Gr.refl _ _) r rfl h
theorem d_expr (he : DE X W e de) (hs : swapsWith e none pos.line X.env = pure false := by rfl) : DS X W (.Expr e pos) (dExpr de) := by
  refine ps_imp (ps_expr he hs) fun D σ H ⟨F, S, ρ, De, r, h, k1, k2, k3, k4, k5⟩ => ?_
  exact ⟨F, S, ρ, _, _, r, h, fun v x S1 ρ1 H1 g1 r1 vr1 q1 => k1 ρ1 σ S1 H1 g1 r1 q1, fun e cls d S' ρ' H' g' r' => k5 e cls d ρ' σ S' H' g' r'⟩
theorem d_ifS (hc : DT X W e dt) (ha : DSs X W sa a) (hb : DSs X W sb b) : DS X W (.If e sa sb pos) (dIfS dt a b) := by
  refine ps_imp (ps_if hc ha hb) fun D σ H ⟨F, S, ρ, De, r, h, k1, k2, k3, k4, k5⟩ => ?_
  refine ⟨F, S, ρ, _, _, r, h, fun k S1 ρ1 H1 g1 r1 q1 => ?_, fun e cls d S' ρ' H' g' r' => k5 e cls d ρ' σ S' H' g' r'⟩
  have go : ∀ c : DTS, c De ρ1 → tSD X.K W c D σ H1 := fun c q => ⟨F, S1, ρ1, De, r1, q, fun ρ' σ' S' H' g' => k1 ρ' σ' S' H' (g1.trans g'), fun v x ρ' σ' S' H' g' => k2 v x ρ' σ' S' H' (g1.trans g'), fun ρ' σ' S' H' g' => k3 ρ' σ' S' H' (g1.trans g'),
    fun ρ' σ' S' H' g' => k4 ρ' σ' S' H' (g1.trans g'), fun e cls d ρ' σ' S' H' g' => k5 e cls d ρ' σ' S' H' (g1.trans g')⟩
  cases k with
  | true => exact go a q1
  | false => exact go b q1
theorem d_break : DS X W (.Break pos) dBreak := ps_imp ps_break fun D σ H ⟨F, S, ρ, De, r, h, k1, k2, k3, k4, k5⟩ => k3 ρ σ S H (Gr.refl _ _) r h
theorem d_cont : DS X W (.Continue pos) dCont := ps_imp ps_continue fun D σ H ⟨F, S, ρ, De, r, h, k1, k2, k3, k4, k5⟩ => k4 ρ σ S H (Gr.refl _ _) r h
theorem d_pass : DS X W (.Pass pos) dNil := ps_imp ps_pass fun D σ H ⟨F, S, ρ, De, r, h, k1, k2, k3, k4, k5⟩ => k1 ρ σ S H (Gr.refl _ _) r h
theorem d_while (hp : PassesOwn (model X.prog X.w) X.A X.env X.xe) (hc : DT X W e dt) (hb : DSs X W sa a) : DS X W (.While e sa [] pos) (dWhile dt a) := by
  refine ps_imp (ps_while hp hc hb) fun D σ H ⟨F, S, ρ, De, r, ⟨n, h⟩, k1, k2, k3, k4, k5⟩ => ?_
  refine ⟨fun m σ H => ∃ S' ρ', Gr F.B S S' ∧ R X.K F S' ρ' σ H ∧ dWhN dt a De m ρ', ⟨n, S, ρ, Gr.refl _ _, r, h⟩, ?_⟩
  rintro m σ1 H1 ⟨S1, ρ1, g1, r1, w1⟩
  cases m with
  | zero => exact w1.elim
  | succ m =>
    refine ⟨F, S1, ρ1, _, _, r1, w1, fun k S2 ρ2 H2 g2 r2 q2 => ?_, fun e cls d S' ρ' H' g' r' => k5 e cls d ρ' σ1 S' H' (g1.trans g') r'⟩
    have g12 := g1.trans g2
    cases k with
    | false => exact k1 ρ2 σ1 S2 H2 g12 r2 q2
    | true =>
      refine ⟨fun σ' H' => ∃ S' ρ', Gr F.B S S' ∧ R X.K F S' ρ' σ' H' ∧ dWhN dt a De m ρ', fun σ' H' q => ⟨m, Nat.lt_succ_self m, q⟩, ?_⟩
      exact ⟨F, S2, ρ2, _, r2, q2, fun ρ' σ' S' H' g' r' q' => ⟨S', ρ', g12.trans g', r', q'⟩, fun v x ρ' σ' S' H' g' => k2 v x ρ' σ' S' H' (g12.trans g'), fun ρ' σ' S' H' g' => k1 ρ' σ' S' H' (g12.trans g'),
        fun ρ' σ' S' H' g' r' q' => ⟨S', ρ', g12.trans g', r', q'⟩, fun e cls d ρ' σ' S' H' g' => k5 e cls d ρ' σ' S' H' (g12.trans g')⟩
end

/-! ### targets -/
abbrev DTG := D → List SV → (List SV → Prop) → Prop
/-- js: the slots that the target stores -/
def gD (K : PySem.W.Frag) (js : List Nat) (dg : DTG) : TG := fun v σ H Q => ∃ (F : Fm) (S : Hp) (ρ : List SV) (a : D) (k : List SV → Prop), R K F S ρ σ H ∧ Rp K S a v ∧ dg a ρ k ∧
  ∀ ρ' σ' S' H', Gr F.B S S' → R K F S' ρ' σ' H' → (∀ vs : List Nat, (∀ j, j ∈ js → j ∈ vs) → wipe σ' vs = wipe σ vs) → k ρ' → Q σ' H'
def DG (X : Cx) (tg : Expr) (js : List Nat) (dg : DTG) : Prop := PG X tg (gD X.K js dg)
theorem wipe_set {σ : St} {i : Nat} {x : Option V} : ∀ {vs : List Nat}, i ∈ vs → wipe (σ.set i x) vs = wipe σ vs
  | [], h => absurd h (by simp)
  | v :: vs, h => by
    unfold wipe
    by_cases e : i ∈ vs
    · rw [wipe_set e]
    · have ev : i = v := by
        rcases List.mem_cons.mp h with q | q
        · exact q
        · exact absurd q e
      subst ev
      have c : ∀ (ws : List Nat), i ∉ ws → wipe (σ.set i x) ws = (wipe σ ws).set i x := fun ws => by
        induction ws with
        | nil => intro _; rfl
        | cons w ws ih =>
          intro hn
          rw [List.mem_cons, not_or] at hn
          unfold wipe
          rw [ih hn.2, List.set_comm _ _ hn.1]
      rw [c vs e, List.set_set]
def dgN (i : Nat) : DTG := fun a ρ k => i < ρ.length ∧ k (ρ.set i (.d a))
def setAll : List Nat → List D → List SV → (List SV → Prop) → Prop
  | [], [], ρ, k => k ρ
  | i :: is, a :: as, ρ, k => i < ρ.length ∧ setAll is as (ρ.set i (.d a)) k
  | _, _, _, _ => False
def dgT (is : List Nat) : DTG := fun a ρ k => match a with
  | .tup xs => setAll is xs ρ k
  | _ => False
theorem pg_imp {X : Cx} {tg : Expr} {t t' : TG} (h : PG X tg t) (i : ∀ v σ H Q, t' v σ H Q → t v σ H Q) : PG X tg t' := ⟨fun p s σ H x v Q I rx q => h.run p s σ H x v Q I rx (i x σ H Q q)⟩
/-- the names of a tuple target, by slots -/
def gNames : List Nat → TGs
  | [] => gNil
  | i :: is => gCons (gName i) (gNames is)
section
variable {X : Cx} {tg : Expr} {pos : Pos}
theorem d_gname (i : Nat) {x : Str} (hN : X.N.Nodup) (hi : X.N[i]? = some x := by rfl) (hx : Loc X.env.scope x := by first | exact Or.inl rfl | exact Or.inr rfl)
    (hf : X.fn x = true ∨ X.env.scope.names.lookup x = some .local := by first | exact .inl rfl | exact .inr rfl | assumption) : DG X (.Name x pos) [i] (dgN i) := by
  refine pg_imp (pg_name hN hi hx hf) fun v σ H Q ⟨F, S, ρ, a, k, r, p, q, kk⟩ => ?_
  exact kk _ _ S H (Gr.refl _ _) (r.setD (by rw [← r.len]; exact q.1) p) (fun vs h => wipe_set (h i (by simp))) q.2
theorem names_ok {K : PySem.W.Frag} : ∀ (is : List Nat) (xs : List D) (vs : List V) {F : Fm} {S H : Hp} {ρ : List SV} {σ : St} {k : List SV → Prop} {Q : St → Hp → Prop}, R K F S ρ σ H → RpL K S xs vs → setAll is xs ρ k → (∀ ρ' σ', R K F S ρ' σ' H → (∀ vs : List Nat, (∀ j, j ∈ is → j ∈ vs) → wipe σ' vs = wipe σ vs) → k ρ' → Q σ' H) → gNames is vs σ H Q
  | [], [], _, _, _, _, _, _, _, _, r, p, q, kk => ⟨p, kk _ _ r (fun _ _ => rfl) q⟩
  | i :: is, a :: as, _, F, S, H, ρ, σ, k, Q, r, ⟨v, ws, e, p1, p2⟩, ⟨h1, q⟩, kk => ⟨v, ws, e, names_ok is as ws (r.setD (by rw [← r.len]; exact h1) p1) p2 q fun ρ' σ' r' hw q' => kk ρ' σ' r' (fun us hu => (hw us fun j hj => hu j (List.mem_cons_of_mem _ hj)).trans (wipe_set (hu i List.mem_cons_self))) q'⟩
  | [], _ :: _, _, _, _, _, _, _, _, _, _, _, q, _ => q.elim
  | _ :: _, [], _, _, _, _, _, _, _, _, _, _, q, _ => q.elim
theorem setAll_len : ∀ (is : List Nat) (xs : List D) {ρ : List SV} {k : List SV → Prop}, setAll is xs ρ k → xs.length = is.length
  | [], [], _, _, _ => rfl
  | _ :: is, _ :: xs, _, _, h => by rw [List.length_cons, List.length_cons, setAll_len is xs h.2]
  | [], _ :: _, _, _, h => h.elim
  | _ :: _, [], _, _, h => h.elim
theorem d_gtup (is : List Nat) {es : List Expr} {k : Nat} (hc : X.calm = true) (h : PGs X es (gNames is)) (hn : (assignEach es X.env).length = is.length := by rfl) (hst : (assignEach es X.env).findIdx? (·.1) = none := by rfl) : DG X (.Tuple es k pos) is (dgT is) := by
  have h0 : PG X (.Tuple es k pos) (gTup X.K is.length (gNames is)) := pg_tup hc h hn hst
  refine pg_imp h0 fun v σ H Q ⟨F, S, ρ, a, kk, r, p, q, kq⟩ => ?_
  cases a with
  | tup xs =>
    obtain ⟨c, vs, e, p1, p2⟩ := p
    exact ⟨c, vs, e, sqT_mono r.s p1, by rw [p2.length]; exact setAll_len is xs q, names_ok is xs vs r p2 q fun ρ' σ' r' hw q' => kq ρ' σ' S H (Gr.refl _ _) r' hw q'⟩
  | _ => exact False.elim q
end
def dAsg (de : DTE) (dg : DTG) : DTS := fun De ρ => de ρ (fun x ρ1 => stab x ρ1 fun a ρ2 => dg a ρ2 De.nx) De.ex
theorem d_asg {X : Cx} {W : WX} {tg e : Expr} {pos : Pos} {de : DTE} {dg : DTG} (he : DE X W e de) {js : List Nat} (hg : DG X tg js dg) (hs : swapsWithSole [tg] e pos.line X.env = pure false := by rfl) (hw : swappedStores [tg] e X.env = pure none := by rfl)
    (h1 : (assignEach [tg] X.env).map (·.2) = [assign tg X.env] := by rfl) : DS X W (.Assign [tg] e pos) (dAsg de dg) := by
  refine ps_imp (ps_asg he hg hs hw h1) fun D σ H ⟨F, S, ρ, De, r, h, k1, k2, k3, k4, k5⟩ => ?_
  refine ⟨F, S, ρ, _, _, r, h, fun v x S1 ρ1 H1 g1 r1 vr1 q1 => ?_, fun e cls d S' ρ' H' g' r' => k5 e cls d ρ' σ S' H' g' r'⟩
  obtain ⟨a, S2, ρ2, g2, r2, p2, q2⟩ := VR.stab r1 vr1 q1
  exact ⟨F, S2, ρ2, a, _, r2, p2, q2, fun ρ' σ' S' H' g' r' _ q' => k1 ρ' σ' S' H' ((g1.trans g2).trans g') r' q'⟩

/-! ### what a loop walks -/
def items (a : D) (k : List D → Prop) : Prop := match a with
  | .lst xs => k xs
  | .tup xs => k xs
  | .scr ns => k (ns.map .int)
  | _ => False
/-- a list or a tuple, as it is walked -/
def iSeq (K : PySem.W.Frag) (te : TE) : TI := fun σ H Rr => te σ H fun x H1 => ∃ a, x = .ref a ∧ (((∃ xs, SqL K H1 a xs) ∧ Rr (Itl K a) H1) ∨ ((∃ xs, SqT K H1 a xs) ∧ Rr (Itt K a) H1))
theorem pi_seq {X : Cx} {tg l : Expr} {te : TE} (hl : PE X l te) : PI X tg l (iSeq X.K te) := by
  refine ⟨fun pp s0 σ0 H0 Rr I0 h0 => ?_⟩
  refine thn (hl.run pp s0 σ0 H0 _ I0 h0) fun u s1 ⟨x, H1, I1, r1, a, ex, q⟩ => ?_
  subst ex
  cases r1
  have new : ∀ {o : Obj}, Inv X pp σ0 H1 { s1 with heap := s1.heap.push o } := fun {o} => I1.kept (t' := s1.toks) fun b c e => Heap.get?_push_of_some _ e
  have fp : ∀ b, b ∈ [s1.heap.objs.size] → FpOk X pp H1 b := fun b hb => by
    obtain rfl : b = s1.heap.objs.size := by simpa using hb
    exact I1.fpOk (Nat.le_refl _) (I1.hok.fresh (Nat.le_refl _))
  rcases q with ⟨⟨xs, hq⟩, q⟩ | ⟨⟨xs, hq⟩, q⟩
  · obtain ⟨its, _, pl, _⟩ := I1.list hq
    exact wpAny_pyIter_list pl.isList ⟨_, _, _, _, H1, rfl, new, turn_list a _, ⟨_, Heap.get?_push_size _ rfl, rfl, rfl⟩, fp, q⟩
  · obtain ⟨its, _, pt, _⟩ := I1.tuple hq
    exact wpAny_pyIter_tuple (show s1.heap.IsTuple a its.toArray from pt) ⟨_, _, _, _, H1, rfl, new, turn_tuple a _, ⟨_, Heap.get?_push_size _ rfl, rfl, rfl⟩, fp, q⟩
/-- data that is walked: its items stand still while the told part stands -/
theorem Rp.walk {K : PySem.W.Frag} {S : Hp} {a : D} {v : V} {k : List D → Prop} (h : Rp K S a v) (q : items a k) : ∃ (ds : List D) (p : Addr) (vs : List V), k ds ∧ v = .ref p ∧ RpL K S ds vs ∧ ((∀ H, Same S H → SqL K H p vs) ∨ (∀ H, Same S H → SqT K H p vs)) := by
  cases a with
  | lst xs => obtain ⟨p, vs, e, h1, h2⟩ := h; exact ⟨xs, p, vs, q, e, h2, .inl fun H s => SqL.of (s _ _ h1)⟩
  | tup xs => obtain ⟨p, vs, e, h1, h2⟩ := h; exact ⟨xs, p, vs, q, e, h2, .inr fun H s => sqT_mono s h1⟩
  | scr ns => obtain ⟨p, e, h1⟩ := h; exact ⟨_, p, _, q, e, RpL.int, .inl fun H s => s.seq h1⟩
  | _ => exact False.elim q

/-! ### for -/
def dForN (dg : DTG) (body : DTS) (De : DEnds) : List D → List SV → Prop
  | [], ρ => De.nx ρ
  | a :: as, ρ => dg a ρ fun ρ1 => body { De with nx := dForN dg body De as, ct := dForN dg body De as, bk := De.nx } ρ1
def dFor (de : DTE) (dg : DTG) (body : DTS) : DTS := fun De ρ => de ρ (fun x ρ1 => stab x ρ1 fun a ρ2 => items a fun ds => dForN dg body De ds ρ2) De.ex
def rangeD (lo : Int) (n : Nat) : List D := (List.range n).map fun i => .int (lo + (i : Nat))
/-- a range's arguments: where it begins, how many -/
def rng (as : List D) (k : Int → Nat → Prop) : Prop := match as with
  | [.int n] => -1000000000000 ≤ n ∧ n ≤ 1000000000000 ∧ k 0 n.toNat
  | [.int m, .int n] => -1000000000000 ≤ m ∧ m ≤ 1000000000000 ∧ -1000000000000 ≤ n ∧ n ≤ 1000000000000 ∧ k m (n - m).toNat
  | _ => False
def dForR (dl : DTA) (dg : DTG) (body : DTS) : DTS := fun De ρ => dl ρ (fun as ρ1 => rng as fun lo n => dForN dg body De (rangeD lo n) ρ1) De.ex
section
variable {X : Cx} {W : WX} {tg it : Expr} {es body : List Stmt} {pos : Pos} {de : DTE} {dg : DTG} {db : DTS}
/-- the turns of a for over fixed items -/
theorem for_core {K : PySem.W.Frag} {J : It} {js : List Nat} {F : Fm} {S : Hp} {De : DEnds} {D0 : Ends} {σ : St} {H : Hp} {ρ : List SV} {ds : List D} {vs : List V}
    (r : R K F S ρ σ H) (pl : RpL K S ds vs) (h : dForN dg db De ds ρ)
    (go : ∀ i H', Same S H' → i < vs.length → J.go i H' ∧ ∀ x H2, J.yld i H' x H2 → H2 = H' ∧ vs[i]? = some x) (stop : ∀ H', Same S H' → J.stop vs.length H')
    (k1 : ∀ ρ' σ' S' H', Gr F.B S S' → R K F S' ρ' σ' H' → De.nx ρ' → D0.nx σ' H') (k2 : ∀ v x ρ' σ' S' H', Gr F.B S S' → R K F S' ρ' σ' H' → VR K F S' ρ' σ' H' v x → De.rt x ρ' → D0.rt v H')
    (k5 : ∀ e cls d ρ' σ' S' H', Gr F.B S S' → R K F S' ρ' σ' H' → XR K S' H' e cls d → De.ex e ρ' → W cls d σ' H') :
    ∃ Wt : Nat → Nat → St → Hp → Prop, (∃ m, Wt 0 m σ H) ∧ ∀ i m σ H, Wt i m σ H → (J.stop i H ∧ D0.nx σ H) ∨ (J.go i H ∧ ∃ N : St → Hp → Prop, (∀ σ' H', N σ' H' → ∃ m', m' < m ∧ Wt (i + 1) m' σ' H') ∧ ∀ x H', J.yld i H x H' →
      gD K js dg x σ H' fun σ2 H2 => tSD K W db { D0 with nx := N, ct := N, bk := D0.nx } σ2 H2) := by
  have ln := pl.length
  refine ⟨fun i m σ1 H1 => m = ds.length - i ∧ i ≤ ds.length ∧ ∃ S1 ρ1, Gr F.B S S1 ∧ R K F S1 ρ1 σ1 H1 ∧ dForN dg db De (ds.drop i) ρ1, ⟨_, rfl, Nat.zero_le _, S, ρ, Gr.refl _ _, r, h⟩, ?_⟩
  rintro i m σ1 H1 ⟨rfl, hi, S1, ρ1, g1, r1, w1⟩
  have sH : Same S H1 := g1.s.trans r1.s
  by_cases c : i < ds.length
  · have e : ds.drop i = ds[i] :: ds.drop (i + 1) := List.drop_eq_getElem_cons c
    rw [e] at w1
    obtain ⟨gg, gy⟩ := go i H1 sH (by omega)
    refine .inr ⟨gg, fun σ' H' => ∃ S' ρ', Gr F.B S S' ∧ R K F S' ρ' σ' H' ∧ dForN dg db De (ds.drop (i + 1)) ρ', fun σ' H' q => ⟨ds.length - (i + 1), by omega, rfl, c, q⟩, fun x H2 y => ?_⟩
    obtain ⟨rfl, hx⟩ := gy x H2 y
    obtain ⟨v, hv, hp⟩ := pl.get (i := i) (x := ds[i]) (List.getElem?_eq_getElem c)
    rw [hx] at hv
    cases hv
    refine ⟨F, S1, ρ1, ds[i], _, r1, Rp.mono g1.s hp, w1, fun ρ2 σ2 S2 H3 g2 r2 _ q2 => ?_⟩
    have g12 := g1.trans g2
    exact ⟨F, S2, ρ2, _, r2, q2, fun ρ' σ' S' H' g' r' q' => ⟨S', ρ', g12.trans g', r', q'⟩, fun v x ρ' σ' S' H' g' => k2 v x ρ' σ' S' H' (g12.trans g'), fun ρ' σ' S' H' g' => k1 ρ' σ' S' H' (g12.trans g'),
      fun ρ' σ' S' H' g' r' q' => ⟨S', ρ', g12.trans g', r', q'⟩, fun e cls d ρ' σ' S' H' g' => k5 e cls d ρ' σ' S' H' (g12.trans g')⟩
  · have e : i = ds.length := by omega
    rw [e, List.drop_length] at w1
    refine .inl ⟨?_, k1 ρ1 σ1 S1 H1 g1 r1 w1⟩
    rw [e, ← ln]
    exact stop H1 sH
theorem goL {K : PySem.W.Frag} {S : Hp} {p : Addr} {vs : List V} (h : ∀ H, Same S H → SqL K H p vs) (i : Nat) (H' : Hp) (s : Same S H') (hi : i < vs.length) : (Itl K p).go i H' ∧ ∀ x H2, (Itl K p).yld i H' x H2 → H2 = H' ∧ vs[i]? = some x :=
  ⟨⟨vs, vs[i], h H' s, List.getElem?_eq_getElem hi⟩, fun x H2 y => ⟨y.1, y.2 vs (h H' s)⟩⟩
theorem goT {K : PySem.W.Frag} {S : Hp} {p : Addr} {vs : List V} (h : ∀ H, Same S H → SqT K H p vs) (i : Nat) (H' : Hp) (s : Same S H') (hi : i < vs.length) : (Itt K p).go i H' ∧ ∀ x H2, (Itt K p).yld i H' x H2 → H2 = H' ∧ vs[i]? = some x :=
  ⟨⟨vs, vs[i], h H' s, List.getElem?_eq_getElem hi⟩, fun x H2 y => ⟨y.1, y.2 vs (h H' s)⟩⟩
theorem d_for (hp : PassesOwn (model X.prog X.w) X.A X.env X.xe) (hc : X.calm = true) (hi : DE X W it de) {js : List Nat} (hg : DG X tg js dg) (hb : DSs X W body db) (hs : ∀ x, foldedSetIterable it X.env x = pure x := by intro _; rfl) : DS X W (.For tg it body [] pos) (dFor de dg db) := by
  refine ps_imp (ps_for hp hc (pi_seq hi) hg hb hs) fun D σ H ⟨F, S, ρ, De, r, h, k1, k2, k3, k4, k5⟩ => ?_
  refine ⟨F, S, ρ, _, _, r, h, fun v x S1 ρ1 H1 g1 r1 vr1 q1 => ?_, fun e cls d S' ρ' H' g' r' => k5 e cls d ρ' σ S' H' g' r'⟩
  obtain ⟨a, S2, ρ2, g2, r2, p2, q2⟩ := VR.stab r1 vr1 q1
  obtain ⟨ds, p, vs, q3, e, pl, ht⟩ := p2.walk q2
  have g12 := g1.trans g2
  refine ⟨p, e, ?_⟩
  have kk1 := fun ρ' σ' S' H' g' => k1 ρ' σ' S' H' (g12.trans g')
  have kk2 := fun v x ρ' σ' S' H' g' => k2 v x ρ' σ' S' H' (g12.trans g')
  have kk5 := fun e cls d ρ' σ' S' H' g' => k5 e cls d ρ' σ' S' H' (g12.trans g')
  rcases ht with ht | ht
  · exact .inl ⟨⟨vs, ht _ r2.s⟩, for_core r2 pl q3 (goL ht) (fun H' s => ⟨vs, ht H' s, Nat.le_refl _⟩) kk1 kk2 kk5⟩
  · exact .inr ⟨⟨vs, ht _ r2.s⟩, for_core r2 pl q3 (goT ht) (fun H' s => ⟨vs, ht H' s, Nat.le_refl _⟩) kk1 kk2 kk5⟩
end
section
variable {X : Cx} {W : WX} {tg : Expr} {body : List Stmt} {pos p1 p2 : Pos} {dl : DTA} {dg : DTG} {db : DTS}
theorem RpL.range {K : PySem.W.Frag} {S : Hp} (f : Nat → Int) : ∀ l : List Nat, RpL K S (l.map fun i => D.int (f i)) (l.map fun i => V.int (f i))
  | [] => rfl
  | _ :: l => ⟨_, _, rfl, rfl, RpL.range f l⟩
def rangeV (lo : Int) (n : Nat) : List V := (List.range n).map fun i => .int (lo + (i : Nat))
theorem goR {lo : Int} {n : Nat} (i : Nat) (H' : Hp) (hi : i < (rangeV lo n).length) : (Itr lo n).go i H' ∧ ∀ x H2, (Itr lo n).yld i H' x H2 → H2 = H' ∧ (rangeV lo n)[i]? = some x := by
  have hn : i < n := by simpa [rangeV] using hi
  refine ⟨hn, fun x H2 y => ⟨y.1, ?_⟩⟩
  unfold rangeV
  rw [y.2, List.getElem?_map, List.getElem?_range hn]
  all_goals rfl
theorem stopR {lo : Int} {n : Nat} {H' : Hp} : (Itr lo n).stop (rangeV lo n).length H' := by
  show n ≤ (rangeV lo n).length
  simp [rangeV]
/-- a range's arguments as values -/
theorem rng_ok {K : PySem.W.Frag} {S : Hp} {as : List D} {vs : List V} {k : Int → Nat → Prop} (p : RpL K S as vs) (q : rng as k) :
    (∃ n : Int, vs = [.int n] ∧ -(2 ^ 62) ≤ n ∧ n < 2 ^ 62 ∧ k 0 n.toNat ∧ as.length = 1) ∨ (∃ m n : Int, vs = [.int m, .int n] ∧ (-(2 ^ 62) ≤ m ∧ m < 2 ^ 62 ∧ -(2 ^ 62) ≤ n ∧ n < 2 ^ 62) ∧ k m (n - m).toNat ∧ as.length = 2) := by
  unfold rng at q
  split at q
  · obtain ⟨v, w, e, e1, e2⟩ := p
    have e1 : v = .int _ := e1
    have e2 : w = [] := e2
    exact .inl ⟨_, by rw [e, e1, e2], by omega, by omega, q.2.2, rfl⟩
  · obtain ⟨v, w, e, e1, v2, w2, e2, e3, e4⟩ := p
    have e1 : v = .int _ := e1
    have e3 : v2 = .int _ := e3
    have e4 : w2 = [] := e4
    exact .inr ⟨_, _, by rw [e, e1, e2, e3, e4], ⟨by omega, by omega, by omega, by omega⟩, q.2.2.2.2, rfl⟩
  · exact q.elim
theorem d_forR1 {a : Expr} (hp : PassesOwn (model X.prog X.w) X.A X.env X.xe) (hc : X.calm = true) (hm : X.mg "range" = none) (ha : DA X W [a] dl) {js : List Nat} (hg : DG X tg js dg) (hb : DSs X W body db) (hgl : Gl X "range" := by rfl) (hs : starEach [a] X.env = [(false, eval a X.env)] := by rfl) :
    DS X W (.For tg (.Call (.Name "range" p1) [a] [] p2) body [] pos) (fun De ρ => dForR (fun ρ Q E => dl ρ (fun as ρ1 => as.length = 1 ∧ Q as ρ1) E) dg db De ρ) := by
  refine ps_imp (ps_for hp hc (pi_range1 hgl hm ha hs) hg hb) fun D σ H ⟨F, S, ρ, De, r, h, k1, k2, k3, k4, k5⟩ => ?_
  refine ⟨F, S, ρ, _, _, r, h, fun vs xs S1 ρ1 H1 g1 r1 p1 q1 => ?_, fun e cls d S' ρ' H' g' r' => k5 e cls d ρ' σ S' H' g' r'⟩
  rcases rng_ok p1 q1.2 with ⟨n, e, b1, b2, q, _⟩ | ⟨m, n, e, b, q, l⟩
  · exact ⟨n, e, b1, b2, for_core r1 (RpL.range (fun i => (0 : Int) + (i : Nat)) _) q (fun i H' _ hi => goR i H' hi) (fun H' _ => stopR) (fun ρ' σ' S' H' g' => k1 ρ' σ' S' H' (g1.trans g')) (fun v x ρ' σ' S' H' g' => k2 v x ρ' σ' S' H' (g1.trans g')) (fun e cls d ρ' σ' S' H' g' => k5 e cls d ρ' σ' S' H' (g1.trans g'))⟩
  · have l1 : xs.length = 1 := q1.1
    omega
theorem d_forR2 {a b : Expr} (hp : PassesOwn (model X.prog X.w) X.A X.env X.xe) (hc : X.calm = true) (hm : X.mg "range" = none) (ha : DA X W [a, b] dl) {js : List Nat} (hg : DG X tg js dg) (hb : DSs X W body db) (hgl : Gl X "range" := by rfl) (hs : starEach [a, b] X.env = [(false, eval a X.env), (false, eval b X.env)] := by rfl)
    (hs2 : starEach [b] X.env = [(false, eval b X.env)] := by rfl) : DS X W (.For tg (.Call (.Name "range" p1) [a, b] [] p2) body [] pos) (fun De ρ => dForR (fun ρ Q E => dl ρ (fun as ρ1 => as.length = 2 ∧ Q as ρ1) E) dg db De ρ) := by
  refine ps_imp (ps_for hp hc (pi_range2 hgl hm ha hs hs2) hg hb) fun D σ H ⟨F, S, ρ, De, r, h, k1, k2, k3, k4, k5⟩ => ?_
  refine ⟨F, S, ρ, _, _, r, h, fun vs xs S1 ρ1 H1 g1 r1 p1 q1 => ?_, fun e cls d S' ρ' H' g' r' => k5 e cls d ρ' σ S' H' g' r'⟩
  rcases rng_ok p1 q1.2 with ⟨n, e, b1, b2, q, l⟩ | ⟨m, n, e, b, q, _⟩
  · have l1 : xs.length = 2 := q1.1
    omega
  · exact ⟨m, n, e, b, for_core r1 (RpL.range (fun i => m + (i : Nat)) _) q (fun i H' _ hi => goR i H' hi) (fun H' _ => stopR) (fun ρ' σ' S' H' g' => k1 ρ' σ' S' H' (g1.trans g')) (fun v x ρ' σ' S' H' g' => k2 v x ρ' σ' S' H' (g1.trans g')) (fun e cls d ρ' σ' S' H' g' => k5 e cls d ρ' σ' S' H' (g1.trans g'))⟩
end
end DW
/-! DWd: comprehensions; defs, their calls, methods, makings. -/
namespace DW
open PySem L2

/-! ### frames: what else must stay -/
section
variable {K : PySem.W.Frag} {F : Fm} {S S' H H' : Hp} {ρ ρ' : List SV} {σ : St} {p : Addr} {u : HO}
def Fm.and (F : Fm) (p : Addr) (u : HO) : Fm := ⟨upd F.B p u, F.vs, F.n⟩
theorem R.keep (r : R K F S ρ σ H) (h : H p = some u) (hn : NoSl ρ σ p) : R K (F.and p u) S ρ σ H := by
  refine ⟨r.len, r.ln, fun a w e => ?_, r.s, fun i x h1 => ?_, r.ap⟩
  · by_cases q : a = p
    · rw [q] at e ⊢
      have e' : some u = some w := (upd_same (H := F.B)).symm.trans e
      rw [h, e']
    · have e' : F.B a = some w := (upd_ne (H := F.B) (o := u) q).symm.trans e
      exact r.b a w e'
  · obtain ⟨ov, e1, h2⟩ := r.at_ i x h1
    refine ⟨ov, e1, h2.move (Same.refl S) fun q e2 hb hs => ⟨?_, hs, fun _ z => z⟩⟩
    have : q ≠ p := fun z => hn i x ov h1 e1 (z ▸ e2)
    exact (upd_ne (H := F.B) (o := u) this).trans hb
theorem R.drop (r : R K (F.and p u) S ρ σ H) (hb : F.B p = none) : R K F S ρ σ H := by
  refine ⟨r.len, r.ln, fun a w e => r.b a w ?_, r.s, fun i x h1 => ?_, r.ap⟩
  · have : a ≠ p := fun z => by rw [z, hb] at e; cases e
    exact (upd_ne (H := F.B) (o := u) this).trans e
  · obtain ⟨ov, e1, h2⟩ := r.at_ i x h1
    refine ⟨ov, e1, h2.move (Same.refl S) fun q e2 hq hs => ⟨?_, hs, fun _ z => z⟩⟩
    by_cases z : q = p
    · rw [z]; exact hb
    · exact (upd_ne (H := F.B) (o := u) z).symm.trans hq
theorem Gr.drop (g : Gr (F.and p u).B S S') (hb : F.B p = none) : Gr F.B S S' := ⟨g.s, fun a w h k => by
  rcases g.n a w h k with h' | h'
  · refine .inl ?_
    by_cases z : a = p
    · rw [z]; exact hb
    · exact (upd_ne (H := F.B) (o := u) z).symm.trans h'
  · exact .inr h'⟩
theorem R.kept (r : R K (F.and p u) S ρ σ H) : H p = some u := r.b p u upd_same
theorem Gr.kept (g : Gr (F.and p u).B S S') (r : R K (F.and p u) S' ρ σ H) (nt : ∀ xs, u ≠ .tup xs) (h : S p = none) : S' p = none := g.free h (by
  show upd F.B p u p ≠ none
  rw [upd_same]; exact fun z => nomatch z) fun xs z => nt xs (Option.some.inj (r.kept.symm.trans (r.s p _ z)))
theorem R.noSl (r : R K (F.and p u) S ρ σ H) : NoSl ρ σ p := fun i x ov h1 h2 e => by
  obtain ⟨hb, _⟩ := r.held h1 h2 e
  have hb : upd F.B p u p = none := hb
  rw [upd_same] at hb
  cases hb
/-- the slots of a block's own names forgotten -/
def wipeD (ρ : List SV) : List Nat → List SV
  | [] => ρ
  | v :: vs => (wipeD ρ vs).set v .un
theorem R.setUn (r : R K F S ρ σ H) (i : Nat) (ov : Option V) : R K F S (ρ.set i .un) (σ.set i ov) H := by
  refine ⟨by rw [List.length_set, List.length_set]; exact r.len, by rw [List.length_set]; exact r.ln, r.b, r.s, fun j z e => ?_, fun a b x y ow oz q ha hb sa sb xa yb => ?_⟩
  · rcases set_at e with ⟨rfl, rfl, hr⟩ | ⟨hj, e⟩
    · exact ⟨_, List.getElem?_set_self (by rw [← r.len]; exact hr), trivial⟩
    · rw [List.getElem?_set_ne hj]
      exact r.at_ j z e
  · rcases set_at ha with ⟨rfl, rfl, _⟩ | ⟨n1, ha⟩
    · exact False.elim xa
    · rcases set_at hb with ⟨rfl, rfl, _⟩ | ⟨n2, hb⟩
      · exact False.elim yb
      · rw [List.getElem?_set_ne n1] at sa
        rw [List.getElem?_set_ne n2] at sb
        exact r.ap a b x y ow oz q ha hb sa sb xa yb
theorem R.wipe (r : R K F S ρ σ H) : ∀ vs : List Nat, R K F S (wipeD ρ vs) (L2.wipe σ vs) H
  | [] => r
  | v :: vs => (R.wipe r vs).setUn v none
/-- what is kept of a slot behind a block -/
def keepD : Option SV → SV
  | some (.d x) => .d x
  | _ => .un
theorem keepD_d {x : D} : keepD (some (.d x)) = .d x := rfl
theorem keepD_un : keepD (some .un) = .un := rfl
theorem keepD_ow {o : OO} : keepD (some (.ow o)) = .un := rfl
theorem keepD_rf {o : OO} : keepD (some (.rf o)) = .un := rfl
theorem keepD_mm {μ : List (Addr × OO)} : keepD (some (.mm μ)) = .un := rfl
theorem keepD_has {o : Option SV} {ov : Option V} {q : Addr} (h : Has (keepD o) ov q) : False := by
  unfold keepD at h
  split at h <;> exact h
/-- behind a block: its own names' slots are as they were -/
def backD (ρ ρ0 : List SV) : List Nat → List SV
  | [] => ρ
  | v :: vs => (backD ρ ρ0 vs).set v (keepD ρ0[v]?)
theorem wipe_in {σ : St} {i : Nat} : ∀ {vs : List Nat} (h : i ∈ vs) (hi : i < σ.length), (L2.wipe σ vs)[i]? = some none
  | [], h, _ => absurd h (by simp)
  | v :: vs, h, hi => by
    unfold L2.wipe
    by_cases e : v = i
    · rw [e, List.getElem?_set_self (by rw [wipe_length]; exact hi)]
    · rw [List.getElem?_set_ne e]
      refine wipe_in ?_ hi
      rcases List.mem_cons.mp h with q | q
      · exact absurd q.symm e
      · exact q
theorem wipe_out {σ : St} {i : Nat} : ∀ {vs : List Nat} (h : i ∉ vs), (L2.wipe σ vs)[i]? = σ[i]?
  | [], _ => rfl
  | v :: vs, h => by
    rw [List.mem_cons, not_or] at h
    unfold L2.wipe
    rw [List.getElem?_set_ne (fun z => h.1 z.symm)]
    exact wipe_out h.2
theorem wipe_wipe {σ : St} {us : List Nat} : ∀ (vs : List Nat), (∀ j, j ∈ vs → j ∈ us) → L2.wipe (L2.wipe σ us) vs = L2.wipe σ us
  | [], _ => rfl
  | v :: vs, hv => by
    have ih := wipe_wipe (σ := σ) (us := us) vs fun j hj => hv j (List.mem_cons_of_mem _ hj)
    show (L2.wipe (L2.wipe σ us) vs).set v none = L2.wipe σ us
    rw [ih]
    refine List.ext_getElem? fun j => ?_
    by_cases ej : v = j
    · subst ej
      by_cases hl : v < σ.length
      · rw [List.getElem?_set_self (by rw [wipe_length]; exact hl), wipe_in (hv v List.mem_cons_self) hl]
      · rw [List.getElem?_eq_none (by rw [List.length_set, wipe_length]; omega), List.getElem?_eq_none (by rw [wipe_length]; omega)]
    · rw [List.getElem?_set_ne ej]
theorem back_len (ρ ρ0 : List SV) : ∀ vs : List Nat, (backD ρ ρ0 vs).length = ρ.length
  | [] => rfl
  | v :: vs => by unfold backD; rw [List.length_set, back_len ρ ρ0 vs]
theorem back_out {ρ ρ0 : List SV} {i : Nat} : ∀ {vs : List Nat}, i ∉ vs → (backD ρ ρ0 vs)[i]? = ρ[i]?
  | [], _ => rfl
  | v :: vs, h => by
    rw [List.mem_cons, not_or] at h
    unfold backD
    rw [List.getElem?_set_ne (fun z => h.1 z.symm)]
    exact back_out h.2
theorem back_in {ρ ρ0 : List SV} {i : Nat} : ∀ {vs : List Nat}, i ∈ vs → i < ρ.length → (backD ρ ρ0 vs)[i]? = some (keepD ρ0[i]?)
  | [], h, _ => absurd h (by simp)
  | v :: vs, h, hi => by
    unfold backD
    by_cases e : v = i
    · rw [e, List.getElem?_set_self (by rw [back_len]; exact hi)]
    · rw [List.getElem?_set_ne e]
      refine back_in ?_ hi
      rcases List.mem_cons.mp h with q | q
      · exact absurd q.symm e
      · exact q
theorem R.back {S0 H0 : Hp} {ρ0 : List SV} {vs : List Nat} (r : R K F S ρ (L2.wipe σ vs) H) (r0 : R K F S0 ρ0 σ H0) (g : Gr F.B S0 S) : R K F S (backD ρ ρ0 vs) σ H := by
  have ln : ρ.length = σ.length := by rw [r.len, wipe_length]
  have own : ∀ {i : Nat} {x : SV} {ov : Option V} {q : Addr}, (backD ρ ρ0 vs)[i]? = some x → Has x ov q → i ∉ vs ∧ ρ[i]? = some x := fun {i x ov q} h ho => by
    by_cases hv : i ∈ vs
    · have hi : i < ρ.length := by
        have := (List.getElem?_eq_some_iff.mp h).1
        rw [back_len] at this; exact this
      rw [back_in hv hi] at h
      cases h
      exact (keepD_has ho).elim
    · exact ⟨hv, (back_out hv).symm.trans h⟩
  refine ⟨by rw [back_len]; exact ln, by rw [back_len]; exact r.ln, r.b, r.s, fun i x h => ?_, fun i j x y ov ow p hx hy sx sy ox oy => ?_⟩
  · have hi : i < ρ.length := by
      have := (List.getElem?_eq_some_iff.mp h).1
      rw [back_len] at this; exact this
    have hs : i < σ.length := by rw [← ln]; exact hi
    by_cases hv : i ∈ vs
    · rw [back_in hv hi] at h
      refine ⟨σ[i], List.getElem?_eq_getElem hs, ?_⟩
      cases q : ρ0[i]? with
      | none =>
        simp only [q] at h
        cases h
        exact trivial
      | some z =>
        simp only [q] at h
        cases z with
        | d a =>
          cases h
          obtain ⟨ov, e1, w, e2, e3⟩ := r0.at_ i _ q
          rw [List.getElem?_eq_getElem hs] at e1
          cases e1
          exact ⟨w, e2, Rp.mono g.s e3⟩
        | _ =>
          cases h
          exact trivial
    · rw [back_out hv] at h
      obtain ⟨ov, e1, e2⟩ := r.at_ i x h
      rw [wipe_out hv] at e1
      exact ⟨ov, e1, e2⟩
  · obtain ⟨n1, g1⟩ := own hx ox
    obtain ⟨n2, g2⟩ := own hy oy
    exact r.ap i j x y ov ow p g1 g2 (by rw [wipe_out n1]; exact sx) (by rw [wipe_out n2]; exact sy) ox oy
end

/-! ### list comprehensions: nothing in the block raises -/
def dLcN (dg : DTG) (dt : DTT) (de : DTE) (vs : List Nat) (Q : List D → List SV → Prop) : List D → List D → List SV → Prop
  | [], acc, ρ => Q acc ρ
  | a :: as, acc, ρ => dg a ρ fun ρ1 => dt ρ1 (fun k ρ2 => if k = true then de ρ2 (fun y ρ3 => stab y ρ3 fun c ρ4 => acc.length < sizeLine ∧ dLcN dg dt de vs Q as (acc ++ [c]) (wipeD ρ4 vs)) (fun _ _ => False) else dLcN dg dt de vs Q as acc (wipeD ρ2 vs)) (fun _ _ => False)
def dYes : DTT := fun ρ Q _ => Q true ρ
def dLc (di : DTE) (dg : DTG) (dt : DTT) (de : DTE) (vs : List Nat) : DTE := fun ρ Q E => di ρ (fun x ρ1 => stab x ρ1 fun a ρ2 => items a fun ds => dLcN dg dt de vs (fun acc ρ3 => Q (.fr (.l acc)) (backD ρ3 ρ2 vs)) ds [] (wipeD ρ2 vs)) E
def dLcR (dl : DTA) (dg : DTG) (dt : DTT) (de : DTE) (vs : List Nat) : DTE := fun ρ Q E => dl ρ (fun as ρ2 => rng as fun lo n => dLcN dg dt de vs (fun acc ρ3 => Q (.fr (.l acc)) (backD ρ3 ρ2 vs)) (rangeD lo n) [] (wipeD ρ2 vs)) E
abbrev W0 : WX := fun _ _ _ _ => False
def DTs (X : Cx) (es : List Expr) (dt : DTT) : Prop := PTs X es (tDT X.K W0 dt)
theorem d_tests_nil {X : Cx} : DTs X [] dYes := ⟨fun pp s σ H Q I ⟨F, S, ρ, Qd, Ee, r, h, kq, ke⟩ => pts_nil.run pp s σ H Q I (kq true S ρ H (Gr.refl _ _) r h)⟩
theorem d_tests_one {X : Cx} {c : Expr} {dt : DTT} (h : DT X W0 c dt) : DTs X [c] dt := pts_one h
section
variable {K : PySem.W.Frag} {F : Fm} {S H : Hp} {ρ : List SV} {σ : St}
theorem lc_turns {J : It} {js : List Nat} {dg : DTG} {dt : DTT} {de : DTE} {us : List Nat} {ds : List D} {vs : List V} {Qd : List D → List SV → Prop} {QQ : VK} (r0 : R K F S ρ σ H) (pl : RpL K S ds vs) (hjs : ∀ j, j ∈ js → j ∈ us)
    (h : dLcN dg dt de us (fun acc ρ3 => Qd acc (backD ρ3 ρ us)) ds [] (wipeD ρ us))
    (go : ∀ i H', Same S H' → i < vs.length → J.go i H' ∧ ∀ x H2, J.yld i H' x H2 → H2 = H' ∧ vs[i]? = some x) (stop : ∀ H', Same S H' → J.stop vs.length H')
    (kq : ∀ v acc S' ρ' H', Gr F.B S S' → R K F S' ρ' σ H' → VR K F S' ρ' σ H' v (.fr (.l acc)) → Qd acc ρ' → QQ v H') : ∀ L, H L = none → ∃ Wt : Nat → Nat → Hp → Prop, (∃ m, Wt 0 m (upd H L (.lst []))) ∧ ∀ i m H, Wt i m H →
      (J.stop i H ∧ QQ (.ref L) H) ∨ (J.go i H ∧ ∃ Nx : Hp → Prop, (∀ H', Nx H' → ∃ m', m' < m ∧ Wt (i + 1) m' H') ∧ ∀ x H', J.yld i H x H' → gD K js dg x (L2.wipe σ us) H' fun σ2 H2 => L2.wipe σ2 us = L2.wipe σ us ∧ tDT K W0 dt σ2 H2 fun b H3 =>
        if b = true then tD K W0 de σ2 H3 fun y H4 => ∃ acc, H4 L = some (.lst acc) ∧ acc.length < sizeLine ∧ Nx (upd H4 L (.lst (acc ++ [y]))) else Nx H3) := by
  intro L hL
  have ln := pl.length
  have bL := r0.newB hL
  have nL := NoSl.new r0 hL
  have nLw : ∀ {ρ' : List SV} {σ' : St}, NoSl ρ' σ' L → NoSl ρ' σ' L := fun h => h
  -- between two turns: the list at L holds acc, outside of all that is told
  refine ⟨fun i m H1 => m = ds.length - i ∧ i ≤ ds.length ∧ ∃ S1 ρ1 acc ws, Gr F.B S S1 ∧ R K F S1 ρ1 (L2.wipe σ us) H1 ∧ S1 L = none ∧ NoSl ρ1 (L2.wipe σ us) L ∧ H1 L = some (.lst ws) ∧ RpL K S1 acc ws ∧ dLcN dg dt de us (fun acc ρ3 => Qd acc (backD ρ3 ρ us)) (ds.drop i) acc ρ1,
    ⟨_, rfl, Nat.zero_le _, S, wipeD ρ us, [], [], Gr.refl _ _, ?_, bL.2, ?_, upd_same, rfl, h⟩, ?_⟩
  · exact (r0.beside bL.1 bL.2 nL).wipe us
  · exact NoSl.new (r0.wipe us) hL
  rintro i m H1 ⟨rfl, hi, S1, ρ1, acc, ws, g1, r1, s1, n1, hw, pa, w1⟩
  have sH : Same S H1 := g1.s.trans r1.s
  by_cases c : i < ds.length
  · have e : ds.drop i = ds[i] :: ds.drop (i + 1) := List.drop_eq_getElem_cons c
    rw [e] at w1
    obtain ⟨gg, gy⟩ := go i H1 sH (by omega)
    refine .inr ⟨gg, fun H' => ∃ S' ρ' acc ws, Gr F.B S S' ∧ R K F S' ρ' (L2.wipe σ us) H' ∧ S' L = none ∧ NoSl ρ' (L2.wipe σ us) L ∧ H' L = some (.lst ws) ∧ RpL K S' acc ws ∧ dLcN dg dt de us (fun acc ρ3 => Qd acc (backD ρ3 ρ us)) (ds.drop (i + 1)) acc ρ',
      fun H' q => ⟨ds.length - (i + 1), by omega, rfl, c, q⟩, fun x H2 y => ?_⟩
    obtain ⟨rfl, hx⟩ := gy x H2 y
    obtain ⟨v, hv, hp⟩ := pl.get (i := i) (x := ds[i]) (List.getElem?_eq_getElem c)
    rw [hx] at hv
    cases hv
    have r1' := r1.keep hw n1
    refine ⟨F.and L (.lst ws), S1, ρ1, ds[i], _, r1', Rp.mono g1.s hp, w1, fun ρ2 σ2 S2 H3 g2 r2 hwipe q2 => ⟨(hwipe us hjs).trans (wipe_wipe us fun _ h => h), ?_⟩⟩
    have ew := hwipe us hjs
    rw [wipe_wipe us fun _ h => h] at ew
    have fin : ∀ {S' ρ' H'}, Gr (F.and L (.lst ws)).B S1 S' → R K (F.and L (.lst ws)) S' ρ' σ2 H' → ∃ r' : R K F S' (wipeD ρ' us) (L2.wipe σ us) H', S' L = none ∧ NoSl (wipeD ρ' us) (L2.wipe σ us) L := fun {S' ρ' H'} g' r' => by
      have rw' := r'.wipe us
      rw [ew] at rw'
      exact ⟨rw'.drop bL.1, g'.kept r' (fun _ z => nomatch z) s1, rw'.noSl⟩
    refine ⟨F.and L (.lst ws), S2, ρ2, _, _, r2, q2, fun k S3 ρ3 H4 g3 r3 q3 => ?_, fun _ _ _ _ _ _ _ _ _ z => z.elim⟩
    have g13 := g2.trans g3
    cases k with
    | false =>
      obtain ⟨ra, rb, rc⟩ := fin g13 r3
      exact ⟨S3, _, acc, ws, g1.trans (g13.drop bL.1), ra, rb, rc, r3.kept, RpL.mono g13.s pa, q3⟩
    | true =>
      refine ⟨F.and L (.lst ws), S3, ρ3, _, _, r3, q3, fun w z S4 ρ4 H5 g4 r4 vr4 q4 => ?_, fun _ _ _ _ _ _ _ _ _ z => z.elim⟩
      obtain ⟨a', S5, ρ5, g5, r5, p5, q5⟩ := VR.stab r4 vr4 q4
      have g15 := (g13.trans g4).trans g5
      obtain ⟨ra, rb, rc⟩ := fin g15 r5
      refine ⟨ws, r5.kept, by rw [pa.length]; exact q5.1, S5, _, acc ++ [a'], ws ++ [w], g1.trans (g15.drop bL.1), ra.beside bL.1 rb rc, rb, rc, upd_same, RpL.append (RpL.mono g15.s pa) (RpL.one p5), q5.2⟩
  · have e : i = ds.length := by omega
    rw [e, List.drop_length] at w1
    refine .inl ⟨?_, ?_⟩
    · rw [e, ← ln]
      exact stop H1 sH
    · have rb := r1.back r0 g1
      refine kq _ acc S1 _ H1 g1 rb ⟨L, rfl, bL.1, s1, fun i x ov h es ho => ?_, ws, hw, pa⟩ w1
      have hv : i ∉ us := fun hv => by
        have hi2 : i < ρ1.length := by
          have := (List.getElem?_eq_some_iff.mp h).1
          rw [back_len] at this; exact this
        rw [back_in hv hi2] at h
        cases h
        exact (keepD_has ho).elim
      rw [back_out hv] at h
      exact n1 i x ov h (by rw [wipe_out hv]; exact es) ho
end
section
variable {X : Cx} {W : WX} {elt tg iter : Expr} {ifs : List Expr} {scope : Scope} {own : List (Str × Nat)} {pos : Pos} {di de : DTE} {dg : DTG} {dt : DTT} {js : List Nat}
theorem d_lc (hc : X.calm = true) (hN : X.N.Nodup) (hi : DE X W iter di) (ok : BlkOk X.N X.env.scope scope own) (hjs : ∀ j, j ∈ js → j ∈ own.map (·.2))
    (hg : ∀ (s : Shared) (H : Hp) (C : Addr) (cl : List (Str × Addr)) (fp : List Addr), DG (X.blk s H scope (compEnvC scope cl C X.env) fp) tg js dg) (ht : ∀ (s : Shared) (H : Hp) (C : Addr) (cl : List (Str × Addr)) (fp : List Addr), DTs (X.blk s H scope (compEnvC scope cl C X.env) fp) ifs dt)
    (he : ∀ (s : Shared) (H : Hp) (C : Addr) (cl : List (Str × Addr)) (fp : List Addr), DE (X.blk s H scope (compEnvC scope cl C X.env) fp) W0 elt de) (hs : ∀ x, foldedSetIterable iter X.env x = pure x := by intro _; rfl) :
    DE X W (.ListComp elt [⟨tg, iter, ifs, 0⟩] scope pos) (dLc di dg dt de (own.map (·.2))) := by
  refine pe_imp (pe_lc (g := gD X.K js dg) (tt := tDT X.K W0 dt) (te := tD X.K W0 de) hc hN (pi_seq hi) ok hg ht he hs) fun σ H QQ ⟨F, S, ρ, Q, Ee, r, h, kq, ke⟩ => ?_
  refine ⟨F, S, ρ, _, Ee, r, h, fun v x S1 ρ1 H1 g1 r1 vr1 q1 => ?_, ke⟩
  obtain ⟨a, S2, ρ2, g2, r2, p2, q2⟩ := VR.stab r1 vr1 q1
  obtain ⟨ds, p, vs, q3, e, pl, hw⟩ := p2.walk q2
  have g12 := g1.trans g2
  refine ⟨p, e, ?_⟩
  have kk : ∀ v acc S' ρ' H', Gr F.B S2 S' → R X.K F S' ρ' σ H' → VR X.K F S' ρ' σ H' v (.fr (.l acc)) → Q (.fr (.l acc)) ρ' → QQ v H' := fun v acc S' ρ' H' g' r' vr' q' => kq v _ S' ρ' H' (g12.trans g') r' vr' q'
  rcases hw with hw | hw
  · exact .inl ⟨⟨vs, hw _ r2.s⟩, lc_turns r2 pl hjs q3 (goL hw) (fun H' s => ⟨vs, hw H' s, Nat.le_refl _⟩) kk⟩
  · exact .inr ⟨⟨vs, hw _ r2.s⟩, lc_turns r2 pl hjs q3 (goT hw) (fun H' s => ⟨vs, hw H' s, Nat.le_refl _⟩) kk⟩
/-- y = [..] where the machine stores within the comprehension's frame -/
theorem d_setLc {i : Nat} {y : Str} {py spos : Pos} (hc : X.calm = true) (hN : X.N.Nodup) (hy : X.N[i]? = some y) (hyl : X.env.scope.names.lookup y = some .local) (hsw : swapsWith (.ListComp elt [⟨tg, iter, ifs, 0⟩] scope pos) (some (.Name y py)) spos.line X.env = pure true)
    (hi : DE X W iter di) (ok : BlkOk X.N X.env.scope scope own) (hjs : ∀ j, j ∈ js → j ∈ own.map (·.2))
    (hg : ∀ (s : Shared) (H : Hp) (C : Addr) (cl : List (Str × Addr)) (fp : List Addr), DG (X.blk s H scope (compEnvC scope cl C X.env) fp) tg js dg) (ht : ∀ (s : Shared) (H : Hp) (C : Addr) (cl : List (Str × Addr)) (fp : List Addr), DTs (X.blk s H scope (compEnvC scope cl C X.env) fp) ifs dt)
    (he : ∀ (s : Shared) (H : Hp) (C : Addr) (cl : List (Str × Addr)) (fp : List Addr), DE (X.blk s H scope (compEnvC scope cl C X.env) fp) W0 elt de) (hs : ∀ x, foldedSetIterable iter X.env x = pure x := by intro _; rfl) :
    DS X W (.Assign [.Name y py] (.ListComp elt [⟨tg, iter, ifs, 0⟩] scope pos) spos) (dSet i (dLc di dg dt de (own.map (·.2)))) := by
  refine ps_imp (ps_setLc (g := gD X.K js dg) (tt := tDT X.K W0 dt) (te := tD X.K W0 de) hc hN hy hyl hsw (pi_seq hi) ok hg ht he hs) fun D σ H ⟨F, S, ρ, De, r, h, k1, k2, k3, k4, k5⟩ => ?_
  refine ⟨F, S, ρ, _, _, r, h, fun v x S1 ρ1 H1 g1 r1 vr1 q1 => ?_, fun e cls d S' ρ' H' g' r' => k5 e cls d ρ' σ S' H' g' r'⟩
  obtain ⟨a, S2, ρ2, g2, r2, p2, q2⟩ := VR.stab r1 vr1 q1
  obtain ⟨ds, p, vs, q3, e, pl, hw⟩ := p2.walk q2
  have g12 := g1.trans g2
  refine ⟨p, e, ?_⟩
  have kk : ∀ v acc S' ρ' H', Gr F.B S2 S' → R X.K F S' ρ' σ H' → VR X.K F S' ρ' σ H' v (.fr (.l acc)) → storeS i (.fr (.l acc)) ρ' De.nx → gName i v σ H' D.nx := fun v acc S' ρ' H' g' r' vr' q' => by
    obtain ⟨S4, ρ4, g4, r4, q4⟩ := VR.store r' vr' q'
    exact k1 ρ4 _ S4 H' ((g12.trans g').trans g4) r4 q4
  rcases hw with hw | hw
  · exact .inl ⟨⟨vs, hw _ r2.s⟩, lc_turns r2 pl hjs q3 (goL hw) (fun H' s => ⟨vs, hw H' s, Nat.le_refl _⟩) kk⟩
  · exact .inr ⟨⟨vs, hw _ r2.s⟩, lc_turns r2 pl hjs q3 (goT hw) (fun H' s => ⟨vs, hw H' s, Nat.le_refl _⟩) kk⟩
end
end DW
/-! DWe: comprehensions over ranges; defs, their calls, methods, makings. -/
namespace DW
open PySem L2

section
variable {X : Cx} {W : WX} {elt tg : Expr} {ifs : List Expr} {scope : Scope} {own : List (Str × Nat)} {pos p1 p2 : Pos} {dl : DTA} {de : DTE} {dg : DTG} {dt : DTT} {js : List Nat}
theorem d_lcR1 {a : Expr} (hc : X.calm = true) (hN : X.N.Nodup) (hm : X.mg "range" = none) (ha : DA X W [a] dl) (ok : BlkOk X.N X.env.scope scope own) (hjs : ∀ j, j ∈ js → j ∈ own.map (·.2))
    (hg : ∀ (s : Shared) (H : Hp) (C : Addr) (cl : List (Str × Addr)) (fp : List Addr), DG (X.blk s H scope (compEnvC scope cl C X.env) fp) tg js dg) (ht : ∀ (s : Shared) (H : Hp) (C : Addr) (cl : List (Str × Addr)) (fp : List Addr), DTs (X.blk s H scope (compEnvC scope cl C X.env) fp) ifs dt)
    (he : ∀ (s : Shared) (H : Hp) (C : Addr) (cl : List (Str × Addr)) (fp : List Addr), DE (X.blk s H scope (compEnvC scope cl C X.env) fp) W0 elt de) (hgl : Gl X "range" := by rfl) (hst : starEach [a] X.env = [(false, eval a X.env)] := by rfl)
    (hs : ∀ x, foldedSetIterable (.Call (.Name "range" p1) [a] [] p2) X.env x = pure x := by intro _; rfl) :
    DE X W (.ListComp elt [⟨tg, .Call (.Name "range" p1) [a] [] p2, ifs, 0⟩] scope pos) (dLcR (fun ρ Q E => dl ρ (fun as ρ1 => as.length = 1 ∧ Q as ρ1) E) dg dt de (own.map (·.2))) := by
  refine pe_imp (pe_lc (g := gD X.K js dg) (tt := tDT X.K W0 dt) (te := tD X.K W0 de) hc hN (pi_range1 hgl hm ha hst) ok hg ht he hs) fun σ H QQ ⟨F, S, ρ, Q, Ee, r, h, kq, ke⟩ => ?_
  refine ⟨F, S, ρ, _, Ee, r, h, fun vs xs S1 ρ1 H1 g1 r1 p1 q1 => ?_, ke⟩
  rcases rng_ok p1 q1.2 with ⟨n, e, b1, b2, q, _⟩ | ⟨m, n, e, b, q, l⟩
  · exact ⟨n, e, b1, b2, lc_turns r1 (RpL.range (fun i => (0 : Int) + (i : Nat)) _) hjs q (fun i H' _ hi => goR i H' hi) (fun H' _ => stopR) fun v acc S' ρ' H' g' r' vr' q' => kq v _ S' ρ' H' (g1.trans g') r' vr' q'⟩
  · have l1 : xs.length = 1 := q1.1
    omega
theorem d_lcR2 {a b : Expr} (hc : X.calm = true) (hN : X.N.Nodup) (hm : X.mg "range" = none) (ha : DA X W [a, b] dl) (ok : BlkOk X.N X.env.scope scope own) (hjs : ∀ j, j ∈ js → j ∈ own.map (·.2))
    (hg : ∀ (s : Shared) (H : Hp) (C : Addr) (cl : List (Str × Addr)) (fp : List Addr), DG (X.blk s H scope (compEnvC scope cl C X.env) fp) tg js dg) (ht : ∀ (s : Shared) (H : Hp) (C : Addr) (cl : List (Str × Addr)) (fp : List Addr), DTs (X.blk s H scope (compEnvC scope cl C X.env) fp) ifs dt)
    (he : ∀ (s : Shared) (H : Hp) (C : Addr) (cl : List (Str × Addr)) (fp : List Addr), DE (X.blk s H scope (compEnvC scope cl C X.env) fp) W0 elt de) (hgl : Gl X "range" := by rfl) (hst : starEach [a, b] X.env = [(false, eval a X.env), (false, eval b X.env)] := by rfl)
    (hst2 : starEach [b] X.env = [(false, eval b X.env)] := by rfl) (hs : ∀ x, foldedSetIterable (.Call (.Name "range" p1) [a, b] [] p2) X.env x = pure x := by intro _; rfl) :
    DE X W (.ListComp elt [⟨tg, .Call (.Name "range" p1) [a, b] [] p2, ifs, 0⟩] scope pos) (dLcR (fun ρ Q E => dl ρ (fun as ρ1 => as.length = 2 ∧ Q as ρ1) E) dg dt de (own.map (·.2))) := by
  refine pe_imp (pe_lc (g := gD X.K js dg) (tt := tDT X.K W0 dt) (te := tD X.K W0 de) hc hN (pi_range2 hgl hm ha hst hst2) ok hg ht he hs) fun σ H QQ ⟨F, S, ρ, Q, Ee, r, h, kq, ke⟩ => ?_
  refine ⟨F, S, ρ, _, Ee, r, h, fun vs xs S1 ρ1 H1 g1 r1 p1 q1 => ?_, ke⟩
  rcases rng_ok p1 q1.2 with ⟨n, e, b1, b2, q, l⟩ | ⟨m, n, e, b, q, _⟩
  · have l1 : xs.length = 2 := q1.1
    omega
  · exact ⟨m, n, e, b, lc_turns r1 (RpL.range (fun i => m + (i : Nat)) _) hjs q (fun i H' _ hi => goR i H' hi) (fun H' _ => stopR) fun v acc S' ρ' H' g' r' vr' q' => kq v _ S' ρ' H' (g1.trans g') r' vr' q'⟩
end

/-! ### defs: what they do, purely -/
/-- a def by its arguments: what it gives, what it leaves of the things handed in by reference -/
abbrev DSp := List SV → (DV → List SV → Prop) → (DExc → List SV → Prop) → Prop
def outS (n : Nat) (ρ : List SV) : List SV := (ρ.take n).map fun y => match y with
  | .rf o => .rf o
  | .mm μ => .mm μ
  | _ => .un
/-- what a def hands back -/
def outV (x : DV) (ρ : List SV) (k : DV → Prop) : Prop := match x with
  | .d a => k (.d a)
  | .fr o => k (.fr o)
  | .sl i => match ρ[i]? with
    | some (.d a) => k (.d a)
    | some (.ow o) => k (.fr o)
    | _ => False
  | .me p => k (.d (.ptr p))
def dRun (n m : Nat) (body : DTS) : DSp := fun as Q E => body { nx := fun ρ => Q (.d .non) (outS n ρ), rt := fun x ρ => outV x ρ fun y => Q y (outS n ρ), ex := fun e ρ => E e (outS n ρ) } (as ++ List.replicate m .un)
def spD (K : PySem.W.Frag) (n : Nat) (G : DSp) : Sp := fun vs H QQ EE => vs.length = n ∧ ∃ (B S : Hp) (as : List SV) (Q : DV → List SV → Prop) (Ee : DExc → List SV → Prop), R K ⟨B, vs, n⟩ S as (vs.map some) H ∧ G as Q Ee ∧
  (∀ v x S' as' H', Gr B S S' → R K ⟨B, vs, n⟩ S' as' (vs.map some) H' → VR K ⟨B, vs, n⟩ S' as' (vs.map some) H' v x → (∀ i, x ≠ .sl i) → (∀ p, x ≠ .me p) → Q x as' → QQ v H') ∧
  (∀ e cls d S' as' H', Gr B S S' → R K ⟨B, vs, n⟩ S' as' (vs.map some) H' → XR K S' H' e cls d → Ee e as' → EE cls d H')

section
variable {K : PySem.W.Frag} {B S S' H H' : Hp} {vs : List V} {ρ : List SV} {σ : St} {n : Nat}
theorem out_at {i : Nat} {x : SV} (h : (outS n ρ)[i]? = some x) : i < n ∧ ((x = .un ∧ ∃ y, ρ[i]? = some y) ∨ (∃ o, x = .rf o ∧ ρ[i]? = some (.rf o)) ∨ ∃ μ, x = .mm μ ∧ ρ[i]? = some (.mm μ)) := by
  unfold outS at h
  rw [List.getElem?_map] at h
  cases q : (ρ.take n)[i]? with
  | none => rw [q] at h; cases h
  | some y =>
    rw [q] at h
    have hi : i < n := by
      have := (List.getElem?_eq_some_iff.mp q).1
      rw [List.length_take] at this
      omega
    rw [List.getElem?_take_of_lt hi] at q
    refine ⟨hi, ?_⟩
    cases y with
    | rf o => cases h; exact .inr (.inl ⟨o, rfl, q⟩)
    | mm μ => cases h; exact .inr (.inr ⟨μ, rfl, q⟩)
    | _ => cases h; exact .inl ⟨rfl, _, q⟩
theorem out_has {F : Fm} {i : Nat} {x : SV} {ov : Option V} {q : Addr} (r : R K F S ρ σ H) (hv : F.vs = vs) (h : (outS n ρ)[i]? = some x) (h2 : (vs.map some)[i]? = some ov) (e : Has x ov q) : ∃ y ow, ρ[i]? = some y ∧ σ[i]? = some ow ∧ Has y ow q ∧ (∃ o, y = .rf o) ∨ ∃ y ow, ρ[i]? = some y ∧ σ[i]? = some ow ∧ Has y ow q ∧ ∃ μ, y = .mm μ := by
  obtain ⟨hi, q1⟩ := out_at h
  rcases q1 with ⟨rfl, _⟩ | ⟨o, rfl, q1⟩ | ⟨μ, rfl, q1⟩
  · exact False.elim e
  · obtain ⟨ow, e1, p, e2, e3, _⟩ := r.at_ i _ q1
    rw [hv] at e3
    rw [List.getElem?_map, e3] at h2
    cases h2
    have e : some (V.ref p) = some (V.ref q) := e
    cases e
    exact ⟨.rf o, ow, .inl ⟨q1, e1, e2, o, rfl⟩⟩
  · obtain ⟨ow, e1, _⟩ := r.at_ i _ q1
    exact ⟨.mm μ, ow, .inr ⟨.mm μ, ow, q1, e1, e, μ, rfl⟩⟩
/-- behind a def's end: the frame is gone, what was handed in by reference is told -/
theorem R.out {m : Nat} (r : R K ⟨B, vs, m⟩ S ρ σ H) (hn : vs.length = n) (hl : n ≤ m) : R K ⟨B, vs, n⟩ S (outS n ρ) (vs.map some) H := by
  have hm : ρ.length = m := r.ln
  have lo : (outS n ρ).length = n := by
    unfold outS
    rw [List.length_map, List.length_take]
    omega
  have back : ∀ {i : Nat} {x : SV} {ov : Option V} {q : Addr}, (outS n ρ)[i]? = some x → (vs.map some)[i]? = some ov → Has x ov q → ∃ y ow, ρ[i]? = some y ∧ σ[i]? = some ow ∧ Has y ow q := fun {i x ov q} h h2 e => by
    obtain ⟨y, ow, z | ⟨y, ow, z⟩⟩ := out_has r rfl h h2 e
    · exact ⟨y, ow, z.1, z.2.1, z.2.2.1⟩
    · exact ⟨y, ow, z.1, z.2.1, z.2.2.1⟩
  refine ⟨by rw [lo, List.length_map, hn], lo, r.b, r.s, fun i x h => ?_, fun i j x y ov ow p hx hy sx sy ox oy => ?_⟩
  · obtain ⟨hi, q⟩ := out_at h
    have hv : (vs.map some)[i]? = some (some vs[i]) := by
      rw [List.getElem?_map, List.getElem?_eq_getElem (by omega)]
      rfl
    rcases q with ⟨rfl, _⟩ | ⟨o, rfl, q⟩ | ⟨μ, rfl, q⟩
    · exact ⟨some vs[i], hv, trivial⟩
    · obtain ⟨ov, e1, p, e2, e3, h1, h2, h3⟩ := r.at_ i _ q
      refine ⟨some (.ref p), ?_, p, rfl, e3, h1, h2, h3⟩
      have e3 : vs[i]? = some (.ref p) := e3
      rw [List.getElem?_map, e3]
      rfl
    · obtain ⟨ov, e1, z⟩ := r.at_ i _ q
      exact ⟨_, hv, z⟩
  · obtain ⟨y1, w1, a1, b1, c1⟩ := back hx sx ox
    obtain ⟨y2, w2, a2, b2, c2⟩ := back hy sy oy
    exact r.ap i j _ _ _ _ _ a1 a2 b1 b2 c1 c2
theorem VR.out {m : Nat} {v : V} {x : DV} {k : DV → Prop} (r : R K ⟨B, vs, m⟩ S ρ σ H) (h : VR K ⟨B, vs, m⟩ S ρ σ H v x) (hn : vs.length = n) (q : outV x ρ k) : ∃ y, k y ∧ VR K ⟨B, vs, n⟩ S (outS n ρ) (vs.map some) H v y ∧ (∀ i, y ≠ .sl i) ∧ ∀ p, y ≠ .me p := by
  have far : ∀ {p : Addr}, (∀ (i : Nat) (y : SV) (ow : Option V), ρ[i]? = some y → σ[i]? = some ow → ((∃ o, y = .rf o) ∨ ∃ μ, y = .mm μ) → ¬ Has y ow p) → NoSl (outS n ρ) (vs.map some) p := fun {p} hp i y ov hy hv e => by
    obtain ⟨y, ow, z | ⟨y, ow, z⟩⟩ := out_has r rfl hy hv e
    · exact hp i y ow z.1 z.2.1 (.inl z.2.2.2) z.2.2.1
    · exact hp i y ow z.1 z.2.1 (.inr z.2.2.2) z.2.2.1
  cases x with
  | d a => exact ⟨_, q, h, (fun _ z => nomatch z), fun _ z => nomatch z⟩
  | me p => exact ⟨.d (.ptr p), q, h, (fun _ z => nomatch z), fun _ z => nomatch z⟩
  | fr o =>
    obtain ⟨p, e, h1, h2, h3, h4⟩ := h
    exact ⟨_, q, ⟨p, e, h1, h2, far (fun i y ow h5 h6 _ => h3 i y ow h5 h6), h4⟩, (fun _ z => nomatch z), fun _ z => nomatch z⟩
  | sl i =>
    have h' : σ[i]? = some (some v) := h
    unfold outV at q
    cases e : ρ[i]? with
    | none => simp only [e] at q
    | some y =>
      cases y with
      | un => simp only [e] at q
      | mm _ => simp only [e] at q
      | rf o => simp only [e] at q
      | d a =>
        simp only [e] at q
        obtain ⟨ov, e1, w, e2, h2⟩ := r.at_ i _ e
        rw [h', e2] at e1
        cases e1
        exact ⟨_, q, h2, (fun _ z => nomatch z), fun _ z => nomatch z⟩
      | ow o =>
        simp only [e] at q
        obtain ⟨p, e1, h1, h2, h4⟩ := r.own e rfl
        rw [h'] at e1
        cases e1
        refine ⟨_, q, ⟨p, rfl, h1, h2, far (fun j y ow h5 h6 hk h7 => ?_), h4⟩, (fun _ z => nomatch z), fun _ z => nomatch z⟩
        have := r.ap i j _ _ _ _ p e h5 h' h6 rfl h7
        subst this
        rw [e] at h5
        cases h5
        rcases hk with ⟨_, z⟩ | ⟨_, z⟩ <;> cases z
theorem R.start {as : List SV} {N : List Str} (r : R K ⟨B, vs, n⟩ S as (vs.map some) H) (hN : vs.length ≤ N.length) : R K ⟨B, vs, N.length⟩ S (as ++ List.replicate (N.length - vs.length) .un) (start N vs) H := by
  have ln : as.length = vs.length := by rw [r.len, List.length_map]
  unfold L2.start
  have old : ∀ {i : Nat} {x : SV}, (as ++ List.replicate (N.length - vs.length) .un)[i]? = some x → (as[i]? = some x ∧ i < as.length) ∨ (x = .un ∧ as.length ≤ i ∧ i < as.length + (N.length - vs.length)) := fun {i x} h => by
    by_cases c : i < as.length
    · rw [List.getElem?_append_left c] at h
      exact .inl ⟨h, c⟩
    · rw [List.getElem?_append_right (by omega), List.getElem?_replicate] at h
      split at h
      · cases h
        exact .inr ⟨rfl, by omega, by omega⟩
      · cases h
  have slot : ∀ {i : Nat}, i < as.length → (vs.map some ++ List.replicate (N.length - vs.length) none)[i]? = (vs.map some)[i]? := fun {i} c => List.getElem?_append_left (by rw [List.length_map]; omega)
  refine ⟨by simp [ln], by rw [List.length_append, List.length_replicate, ln]; show _ = N.length; omega, r.b, r.s, fun i x h => ?_, fun i j x y ov ow p hx hy sx sy ox oy => ?_⟩
  · rcases old h with ⟨h, c⟩ | ⟨rfl, c1, c2⟩
    · rw [slot c]
      exact r.at_ i x h
    · refine ⟨none, ?_, trivial⟩
      rw [List.getElem?_append_right (by rw [List.length_map]; omega), List.getElem?_replicate, if_pos (by rw [List.length_map]; omega)]
  · rcases old hx with ⟨hx, c⟩ | ⟨rfl, _⟩
    · rcases old hy with ⟨hy, c'⟩ | ⟨rfl, _⟩
      · rw [slot c] at sx
        rw [slot c'] at sy
        exact r.ap i j x y ov ow p hx hy sx sy ox oy
      · exact False.elim oy
    · exact False.elim ox
end
open PySem.Spec PyProof.Rows in
/-- a def by its body, what it lets out being without context -/
theorem fun_okN {P : Program} {w : World} {K : PySem.W.Frag} {mg : Str → Option Value} {base : Heap} {nm ql : Str} {sd : Stmt} {f : Addr} {fd : FuncData} {N ps : List Str} {k : Nat} {sp : Sp} (F : Fun K nm ql sd f fd) (S : FnScope N ps (defScope sd))
    (hl : ∀ vs H Q E, sp vs H Q E → vs.length = ps.length)
    (hb : ∀ (cd : Value) (A : Around) (outer : List Env) (s : Shared) (H : Hp) (vs : List V) (Q : VK) (E : XK), Room k (A.deeper (envOfC ql (defScope sd) s.heap.objs.size f cd)) → sp vs H Q E →
      ∃ t, PSs (cxOf (L2N.CX P w) P w K mg base N ql (defScope sd) f cd A outer s H E) (defBody sd) t ∧ t { nx := fun _ G => Q .non G, rt := Q } (start N vs) H) :
    FnOk P w K mg base (L2N.CX P w) (k + 1) f fd ps sp := by
  obtain ⟨a1, a2, a3, a4, a5, a6, cd, a8, a9, e, look, code⟩ := F.ex
  subst e
  exact fn_of look code S hl (hb cd)
theorem takesN {X : Cx} : L2N.Takes X W0 := fun u s h => by
  obtain ⟨_, _, _, _, _, _, _, _, _, _, _, _, _, _, _, _, z⟩ := h
  exact z.elim
open PySem.Spec PyProof.Rows in
/-- THE RULE for a def by its body's pure reading -/
theorem fn_D {P : Program} {w : World} {K : PySem.W.Frag} {mg : Str → Option Value} {base : Heap} {x qual : Str} {st : Stmt} {f : Addr} {fd : FuncData} {N ps : List Str} {k : Nat} {body : DTS} (F : Fun K x qual st f fd) (S : FnScope N ps (defScope st))
    (h : ∀ (cdv : Value) (A : Around) (outer : List Env) (s : Shared) (H : Hp) (E : XK), Room k (A.deeper (envOfC qual (defScope st) s.heap.objs.size f cdv)) →
      DSs (cxOf (L2N.CX P w) P w K mg base N qual (defScope st) f cdv A outer s H E) (fun cls d _ H' => E cls d H') (defBody st) body) :
    FnOk P w K mg base (L2N.CX P w) (k + 1) f fd ps (spD K ps.length (dRun ps.length (N.length - ps.length) body)) := by
  refine fun_okN F S (fun vs H Q E q => q.1) fun cdv A outer s H vs Q E hr ⟨hl, B, S0, as, Qd, Ee, r, g, kq, ke⟩ => ⟨_, h cdv A outer s H E hr, ?_⟩
  have hN : vs.length ≤ N.length := by
    have e := congrArg List.length S.pre
    rw [List.length_take] at e
    omega
  have r0 := R.start (N := N) r hN
  rw [hl] at r0 hN
  refine ⟨_, S0, _, _, r0, g, fun ρ' σ' S' H' g' r' q' => ?_, fun v x ρ' σ' S' H' g' r' vr' q' => ?_, fun _ _ _ _ _ _ z => z.elim, fun _ _ _ _ _ _ z => z.elim, fun e cls d ρ' σ' S' H' g' r' xr' q' => ?_⟩
  · exact kq .non (.d .non) S' _ H' g' (R.out r' hl hN) rfl (fun _ z => nomatch z) (fun _ z => nomatch z) q'
  · obtain ⟨y, q2, vr2, ny⟩ := VR.out (n := ps.length) (k := fun y => Qd y (outS ps.length ρ')) r' vr' hl q'
    exact kq v y S' _ H' g' (R.out r' hl hN) vr2 ny.1 ny.2 q2
  · exact ke e cls d S' _ H' g' (R.out r' hl hN) xr' q'

/-! ### calls -/
section
variable {X : Cx} {CX : CXT} {k : Nat} {f C : Addr} {fd : FuncData} {ps : List Str} {sp : Sp} {E : St → XK} {m : Str} {p pos apos : Pos} {e o : Expr} {es : List Expr} {ta : TE} {t : TA}
/-- o.m(..), what is raised wished for at the caller's slots -/
def tMethQ (C : Addr) (m : Str) (sp : Sp) (E : St → XK) (ta : TE) (t : TA) : TE := fun σ H Q => ta σ H fun x H1 => ∃ a dx fs, x = .ref a ∧ H1 a = some (.ins C dx fs) ∧ fs.lookup m = none ∧ t σ H1 fun vs H2 => sp (x :: vs) H2 Q (E σ)
theorem pe_methQ {pl : Sem Bool} (he : PE X o ta) (c : Cls X.K C) (hm : Meth X.K C m f) (F : FnOk X.prog X.w X.K X.mg X.base CX k f fd ps sp) (hr : Room k X.A) (hb : Binds X.K fd ps []) (hx : ∀ σ, PassesAt CX X σ (E σ)) (ha : PA X (e :: es) t)
    (hst : starEach (e :: es) X.env = (false, eval e X.env) :: starEach es X.env := by rfl) (hpl : (backTo pos (starEach es X.env)).any (·.1) = false := by rfl)
    (ht : eval (.Call (.Attribute o m apos) (e :: es) [] pos) X.env = (do let ov ← eval o X.env; standAt apos.atName; let (f, first) ← holding [ov] (getMethod ov m pl); callWith pos f first (backTo pos (starEach (e :: es) X.env)) (backToKw pos (keywordEach [] X.env))) := by rfl) :
    PE X (.Call (.Attribute o m apos) (e :: es) [] pos) (tMethQ C m sp E ta t) := by
  refine ⟨fun pp s0 σ0 H0 QQ I0 h0 => ?_⟩
  refine PySem.W.methodCall_KW (pl := pl) (thn (he.run pp s0 σ0 H0 _ I0 h0) fun u s1 ⟨x, H1, I1, rx, a, dx, fs, ex, ea, l, q⟩ => ?_) ht
  subst ex
  obtain rfl : u = Value.ref a := rx
  refine getmeth_ok I1 ea c hm l (PySem.W.callWith_K (first := [.ref a]) (h₀ := X.base) I0.ok.mod.kin hm.kp (thn (ha.run pos pp s1 σ0 H1 _ I1 q) fun us s2 ⟨vs, H2, I2, r, q2⟩ => ⟨I2.kIn, ?_⟩) hst hpl)
  exact run_fnS (us := .ref a :: us) (vs := .ref a :: vs) F hr hb (hx σ0) I2 (.cons rfl r) q2
theorem pe_methQ0 {pl : Sem Bool} (he : PE X o ta) (c : Cls X.K C) (hm : Meth X.K C m f) (F : FnOk X.prog X.w X.K X.mg X.base CX k f fd ps sp) (hr : Room k X.A) (hb : Binds X.K fd ps []) (hx : ∀ σ, PassesAt CX X σ (E σ))
    (ht : eval (.Call (.Attribute o m apos) [] [] pos) X.env = (do let ov ← eval o X.env; standAt apos.atName; let (f, first) ← holding [ov] (getMethod ov m pl); callWith pos f first (backTo pos (starEach [] X.env)) (backToKw pos (keywordEach [] X.env))) := by rfl) :
    PE X (.Call (.Attribute o m apos) [] [] pos) (tMethQ C m sp E ta tNil) := by
  refine ⟨fun pp s0 σ0 H0 QQ I0 h0 => ?_⟩
  refine PySem.W.methodCall_KW (pl := pl) (thn (he.run pp s0 σ0 H0 _ I0 h0) fun u s1 ⟨x, H1, I1, rx, a, dx, fs, ex, ea, l, q⟩ => ?_) ht
  subst ex
  obtain rfl : u = Value.ref a := rx
  exact getmeth_ok I1 ea c hm l (PySem.W.callWith_K0 (first := [.ref a]) I1.kIn hm.kp (run_fnS (us := [.ref a]) (vs := [.ref a]) F hr hb (hx σ0) I1 (.cons rfl .nil) q))
/-- C(..), what is raised wished for at the caller's slots -/
def tMakeQ (C : Addr) (sp : Sp) (E : St → XK) (t : TA) : TE := fun σ H Q => t σ H fun vs H1 => ∀ x dx, H1 x = none → H1 dx = none → dx ≠ x → sp (.ref x :: vs) (upd (upd H1 dx (.own x)) x (.ins C dx [])) (fun v H2 => v = .non ∧ Q (.ref x) H2) (E σ)
theorem run_makeQ {pp : List (Addr × Obj)} {σ : St} {H : Hp} {s : Shared} {Q : VK} {us : List Value} {vs : List V} (M : Mk X.K C f) (F : FnOk X.prog X.w X.K X.mg X.base (L2N.CX X.prog X.w) k f fd ps sp) (hr : Room (k + 1) X.A) (hb : Binds X.K fd ps []) {W : WX} (tk : L2N.Takes X W) (I : Inv X pp σ H s) (r : Vals vs us)
    (h : ∀ x dx, H x = none → H dx = none → dx ≠ x → sp (.ref x :: vs) (upd (upd H dx (.own x)) x (.ins C dx [])) (fun v H2 => v = .non ∧ Q (.ref x) H2) (WE W σ)) :
    wpAny (model X.prog X.w) X.A (call (.ref C) us) (EP X pp σ Q) X.xe s := by
  have hq := h (s.heap.objs.size + 1) s.heap.objs.size (I.hok.fresh (Nat.le_succ _)) (I.hok.fresh (Nat.le_refl _)) (Nat.ne_of_lt (Nat.lt_succ_self _))
  have I2 := Inv.made (C := C) I
  have r2 : Vals (V.ref (s.heap.objs.size + 1) :: vs) (Value.ref (s.heap.objs.size + 1) :: us) := .cons rfl r
  have hl : ((Value.ref (s.heap.objs.size + 1) :: us) ++ ([] : List Value)).length = ps.length := by
    have q := r2.length
    rw [F.len _ _ _ _ hq] at q
    rw [List.append_nil]
    exact q.symm
  have bt := hb _ (Value.ref (s.heap.objs.size + 1) :: us) I2.kIn hl
  rw [List.append_nil] at bt
  refine wpAny_call (make_map (f := f) I.kIn M.makes M.init (beq_iff_eq.mp M.fn) (codeAny_mono (F.run _ X.stack _ _ ⟨Value.ref (s.heap.objs.size + 1) :: us, []⟩ _ _ _ (WE W σ) (hr.make C us []) (I2.env0.make C us []) bt r2 hq) fun rs s' hq' => ?_))
  cases rs with
  | error er => exact L2N.passAt tk σ pp _ _ er s' I2 hq'
  | ok fl =>
    cases fl with
    | ret u =>
      obtain ⟨v, H', I3, rv, ev, q3⟩ := I2.after hq'
      subst ev
      exact ⟨rv, V.ref (s.heap.objs.size + 1), H', I3, rfl, q3⟩
    | next => exact hq'.elim
    | brk => exact hq'.elim
    | cont => exact hq'.elim
theorem pe_makeQ {x : Str} {W : WX} (M : Mk X.K C f) (F : FnOk X.prog X.w X.K X.mg X.base (L2N.CX X.prog X.w) k f fd ps sp) (hr : Room (k + 1) X.A) (hm : X.mg x = some (.ref C)) (hb : Binds X.K fd ps []) (tk : L2N.Takes X W) (ha : PA X (e :: es) t) (hg : Gl X x := by rfl)
    (hdb : (x == ("__debug__" : Str)) = false := by decide) (he : starEach (e :: es) X.env = (false, eval e X.env) :: starEach es X.env := by rfl) (hpl : (backTo pos (starEach es X.env)).any (·.1) = false := by rfl) :
    PE X (.Call (.Name x p) (e :: es) [] pos) (tMakeQ C sp (WE W) t) :=
  ⟨fun pp s0 σ0 H0 QQ I0 h0 => wpAny_Call_Name_kw (ld_glob I0 hg hm (PySem.W.callWith_K (h₀ := X.base) I0.ok.mod.kin M.kp (thn (ha.run pos pp s0 σ0 H0 _ I0 h0) fun us s1 ⟨vs, H1, I1, r, q⟩ => ⟨I1.kIn, run_makeQ M F hr hb tk I1 r q⟩) he hpl) hdb)⟩
end

/-! ### calls by pure readings -/
def dCall (n : Nat) (G : DSp) (dl : DTA) : DTE := fun ρ Q E => dl ρ (fun as ρ1 => as.length = n ∧ G (as.map .d) (fun x _ => Q x ρ1) (fun e _ => E e ρ1)) E
/-- what a def leaves of the thing handed in by reference, back into the slot i -/
def putR (i : Nat) (y : SV) (ρ : List SV) (bs : List SV) (k : List SV → Prop) : Prop := match bs with
  | .rf o :: _ => k (ρ.set i (y.re o))
  | _ => False
/-- the slot i holds a thing -/
def hasO (ρ : List SV) (i : Nat) : Prop := match ρ[i]? with
  | some (.ow _) => True
  | some (.rf _) => True
  | _ => False
def dCallR (n i : Nat) (G : DSp) (dl : DTA) : DTE := fun ρ Q E => hasO ρ i ∧ dl ρ (fun as ρ1 => as.length + 1 = n ∧ match ρ1[i]? with
  | some (.ow o) => G (.rf o :: as.map .d) (fun x bs => putR i (.ow o) ρ1 bs (Q x)) (fun e bs => putR i (.ow o) ρ1 bs (E e))
  | some (.rf o) => G (.rf o :: as.map .d) (fun x bs => putR i (.rf o) ρ1 bs (Q x)) (fun e bs => putR i (.rf o) ρ1 bs (E e))
  | _ => False) E
/-- a method of told data -/
def dMeth (n : Nat) (C0 : Addr) (m : Str) (G : DSp) (de : DTE) (dl : DTA) : DTE := fun ρ Q E => de ρ (fun x ρ1 => stab x ρ1 fun a ρ2 => match a with
  | .ins C fs => C = C0 ∧ fs.lookup m = none ∧ dl ρ2 (fun as ρ3 => as.length + 1 = n ∧ G (.d (.ins C fs) :: as.map .d) (fun x _ => Q x ρ3) (fun e _ => E e ρ3)) E
  | _ => False) E
/-- a method of the instance in slot i, by reference -/
def dMethR (n : Nat) (C0 : Addr) (m : Str) (i : Nat) (G : DSp) (dl : DTA) : DTE := fun ρ Q E => match ρ[i]? with
  | some (.ow (.i C fs)) => C = C0 ∧ fs.lookup m = none ∧ dl ρ (fun as ρ1 => as.length + 1 = n ∧ ρ1[i]? = some (.ow (.i C fs)) ∧ G (.rf (.i C fs) :: as.map .d) (fun x bs => putR i (.ow (.i C fs)) ρ1 bs (Q x)) (fun e bs => putR i (.ow (.i C fs)) ρ1 bs (E e))) E
  | some (.rf (.i C fs)) => C = C0 ∧ fs.lookup m = none ∧ dl ρ (fun as ρ1 => as.length + 1 = n ∧ ρ1[i]? = some (.rf (.i C fs)) ∧ G (.rf (.i C fs) :: as.map .d) (fun x bs => putR i (.rf (.i C fs)) ρ1 bs (Q x)) (fun e bs => putR i (.rf (.i C fs)) ρ1 bs (E e))) E
  | _ => False
def madeQ (x : DV) (bs : List SV) (k : OO → Prop) : Prop := match x, bs with
  | .d .non, .rf o :: _ => k o
  | _, _ => False
def madeE (bs : List SV) (k : Prop) : Prop := match bs with
  | .rf _ :: _ => k
  | _ => False
def dMake (n : Nat) (C0 : Addr) (G : DSp) (dl : DTA) : DTE := fun ρ Q E => dl ρ (fun as ρ1 => as.length + 1 = n ∧ G (.rf (.i C0 []) :: as.map .d) (fun x bs => madeQ x bs fun o => Q (.fr o) ρ1) (fun e bs => madeE bs (E e ρ1))) E
section
variable {K : PySem.W.Frag} {F : Fm} {S H : Hp} {ρ : List SV} {σ : St}
theorem RpL.slots : ∀ {as : List D} {vs : List V}, RpL K S as vs → ∀ {H B : Hp} (i : Nat) (x : SV), (as.map SV.d)[i]? = some x → ∃ ov, (vs.map some)[i]? = some ov ∧ ∀ arg, SR K B S H ov arg x := fun {as vs} h H B i x e => by
  rw [List.getElem?_map] at e
  cases q : as[i]? with
  | none => rw [q] at e; cases e
  | some a =>
    rw [q] at e
    cases e
    obtain ⟨v, h1, h2⟩ := h.get q
    exact ⟨some v, by rw [List.getElem?_map, h1]; rfl, fun _ => ⟨v, rfl, h2⟩⟩
theorem own_d {as : List D} {i : Nat} {x : SV} {ov : Option V} {q : Addr} (e : (as.map SV.d)[i]? = some x) (ho : Has x ov q) : False := by
  rw [List.getElem?_map] at e
  cases q : as[i]? with
  | none => rw [q] at e; cases e
  | some a => rw [q] at e; cases e; cases ho
/-- a call with told arguments -/
theorem call_ok {n : Nat} {G : DSp} {as : List D} {vs : List V} {Q : DV → List SV → Prop} {E : DExc → List SV → Prop} {QQ : VK} {EE : XK} (r : R K F S ρ σ H) (p : RpL K S as vs) (hn : vs.length = n) (h : G (as.map .d) (fun x _ => Q x ρ) (fun e _ => E e ρ))
    (kq : ∀ v x S' H', Gr F.B S S' → R K F S' ρ σ H' → VR K F S' ρ σ H' v x → Q x ρ → QQ v H') (ke : ∀ e cls d S' H', Gr F.B S S' → R K F S' ρ σ H' → XR K S' H' e cls d → E e ρ → EE cls d H') : spD K n G vs H QQ EE := by
  have r1 : R K ⟨H, vs, n⟩ S (as.map .d) (vs.map some) H := ⟨by rw [List.length_map, List.length_map, p.length], by rw [List.length_map, ← hn, p.length], Same.refl H, r.s, fun i x e => by
    obtain ⟨ov, e1, e2⟩ := p.slots (H := H) (B := H) i x e
    exact ⟨ov, e1, e2 _⟩, fun i j x y ov ow q ha hb _ _ xa yb => (own_d ha xa).elim⟩
  have up : ∀ {S' : Hp} {bs : List SV} {H' : Hp}, Gr H S S' → R K ⟨H, vs, n⟩ S' bs (vs.map some) H' → Gr F.B S S' ∧ R K F S' ρ σ H' := fun {S' bs H'} g' r' => by
    have sm : Same H H' := r'.b
    refine ⟨⟨g'.s, fun a u h1 h2 => (g'.n a u h1 h2).imp (fun z => r.b.free z) id⟩, r.len, r.ln, r.b.trans sm, r'.s, fun i x e => ?_, r.ap⟩
    obtain ⟨ov, e1, e2⟩ := r.at_ i x e
    refine ⟨ov, e1, e2.mono g'.s fun q ho hq => ?_⟩
    obtain ⟨_, _, o, h3⟩ := e2.held ho
    obtain ⟨u, hu, nt⟩ := h3.nt
    exact ⟨g'.free hq (by show H q ≠ none; rw [hu]; exact fun z => nomatch z) fun xs z => nt xs (Option.some.inj ((sm q u hu).symm.trans (r'.s q _ z))), by rw [hu, sm q u hu]⟩
  refine ⟨hn, H, S, _, _, _, r1, h, fun v x S' bs H' g' r' vr' nx ny q' => ?_, fun e cls d S' bs H' g' r' xr' q' => ?_⟩
  · obtain ⟨g2, r2⟩ := up g' r'
    refine kq v x S' H' g2 r2 ?_ q'
    cases x with
    | d a => exact vr'
    | fr o =>
      obtain ⟨q, e1, h1, h2, _, h4⟩ := vr'
      exact ⟨q, e1, r.b.free h1, h2, NoSl.new r h1, h4⟩
    | sl i => exact absurd rfl (nx i)
    | me p => exact absurd rfl (ny p)
  · obtain ⟨g2, r2⟩ := up g' r'
    exact ke e cls d S' H' g2 r2 xr' q'
/-- the heap without what stands at p -/
def hide (H : Hp) (p : Addr) : Hp := fun a => if a = p then none else H a
theorem hide_ne {H : Hp} {p a : Addr} (h : a ≠ p) : hide H p a = H a := if_neg h
theorem hide_same {H : Hp} {p : Addr} : hide H p p = none := if_pos rfl
/-- a call with a thing by reference ahead of told arguments -/
theorem callR_ok {n i : Nat} {y : SV} {o : OO} {G : DSp} {as : List D} {v0 : V} {vs : List V} {Q : DV → List SV → Prop} {E : DExc → List SV → Prop} {QQ : VK} {EE : XK} (r : R K F S ρ σ H) (hy : ρ[i]? = some y) (ho : y.oo = some o) (hv : σ[i]? = some (some v0)) (p : RpL K S as vs) (hn : vs.length + 1 = n)
    (h : G (.rf o :: as.map .d) (fun x bs => ∃ o' cs, bs = .rf o' :: cs ∧ Q x (ρ.set i (y.re o'))) (fun e bs => ∃ o' cs, bs = .rf o' :: cs ∧ E e (ρ.set i (y.re o'))))
    (kq : ∀ v x S' ρ' H', Gr F.B S S' → R K F S' ρ' σ H' → VR K F S' ρ' σ H' v x → Q x ρ' → QQ v H') (ke : ∀ e cls d S' ρ' H', Gr F.B S S' → R K F S' ρ' σ H' → XR K S' H' e cls d → E e ρ' → EE cls d H') : spD K n G (v0 :: vs) H QQ EE := by
  obtain ⟨a, ha, hb, hs, hor⟩ := r.own hy ho
  rw [hv] at ha
  cases ha
  have hr : i < ρ.length := (List.getElem?_eq_some_iff.mp hy).1
  have sh : Same S (hide H a) := fun c w e => by rw [hide_ne (ne_of_none e hs)]; exact r.s c w e
  have r1 : R K ⟨hide H a, .ref a :: vs, n⟩ S (.rf o :: as.map .d) ((V.ref a :: vs).map some) H := by
    refine ⟨by rw [List.length_cons, List.length_map, List.length_map, List.length_cons, p.length], by rw [List.length_cons, List.length_map, ← hn, p.length], fun c w e => ?_, r.s, fun j x e => ?_, fun j k x z ov ow q hj hk sj sk xj xk => ?_⟩
    · by_cases z : c = a
      · have e' : hide H a c = some w := e
        rw [z, hide_same] at e'
        cases e'
      · exact (hide_ne z).symm.trans e
    · cases j with
      | zero =>
        cases e
        exact ⟨_, rfl, a, rfl, rfl, hide_same, hs, hor⟩
      | succ j =>
        obtain ⟨ov, e1, e2⟩ := p.slots (H := H) (B := hide H a) j x (by simpa using e)
        exact ⟨ov, by simpa using e1, e2 _⟩
    · cases j with
      | zero =>
        cases k with
        | zero => rfl
        | succ k => exact (own_d (as := as) (i := k) (by simpa using hk) xk).elim
      | succ j => exact (own_d (as := as) (i := j) (by simpa using hj) xj).elim
  have up : ∀ {S' : Hp} {cs : List SV} {o' : OO} {H' : Hp}, Gr (hide H a) S S' → R K ⟨hide H a, .ref a :: vs, n⟩ S' (.rf o' :: cs) ((V.ref a :: vs).map some) H' →
      Gr F.B S S' ∧ R K F S' (ρ.set i (y.re o')) σ H' ∧ (∀ q, hide H a q = none → q ≠ a → S' q = none → NoSl (ρ.set i (y.re o')) σ q) := fun {S' cs o' H'} g' r' => by
    have sm : Same (hide H a) H' := r'.b
    obtain ⟨ov, e1, pp, e2, e3, b1, s1, or1⟩ := r'.at_ 0 (.rf o') rfl
    have e1 : some (some (V.ref a)) = some ov := e1
    cases e1
    cases e2
    have sB : Same F.B (hide H a) := fun c w e => by rw [hide_ne (ne_of_none e hb)]; exact r.b c w e
    have old : ∀ {j : Nat} {x : SV}, j ≠ i → (ρ.set i (y.re o'))[j]? = some x → ρ[j]? = some x := fun {j x} hj e => by
      rw [List.getElem?_set_ne (Ne.symm hj)] at e; exact e
    have own' : ∀ {j : Nat} {x : SV} {ov : Option V} {q : Addr}, (ρ.set i (y.re o'))[j]? = some x → σ[j]? = some ov → Has x ov q → ∃ x0, ρ[j]? = some x0 ∧ Has x0 ov q := fun {j x ov q} e es ex => by
      by_cases hj : j = i
      · subst hj
        rw [List.getElem?_set_self hr] at e
        cases e
        refine ⟨y, hy, ?_⟩
        cases y with
        | un => cases ho
        | d _ => cases ho
        | mm _ => cases ho
        | ow _ => exact ex
        | rf _ => exact ex
      · exact ⟨x, old hj e, ex⟩
    refine ⟨⟨g'.s, fun c w h1 h2 => ?_⟩, ⟨by rw [List.length_set]; exact r.len, by rw [List.length_set]; exact r.ln, sB.trans sm, r'.s, fun j x e => ?_, fun j k x z ov ow q hj hk sj sk xj xk => ?_⟩, fun q hq hqa hsq j x ov e es ex => ?_⟩
    · rcases g'.n c w h1 h2 with this | z
      · refine .inl ?_
        by_cases z : c = a
        · rw [z]; exact hb
        · rw [hide_ne z] at this
          exact r.b.free this
      · exact .inr z
    · by_cases hj : j = i
      · subst hj
        rw [List.getElem?_set_self hr] at e
        cases e
        refine ⟨_, hv, ?_⟩
        cases y with
        | un => cases ho
        | d _ => cases ho
        | mm _ => cases ho
        | ow _ => exact ⟨a, rfl, hb, s1, or1⟩
        | rf _ =>
          obtain ⟨ov, e4, pq, e5, e6, _⟩ := r.at_ j _ hy
          rw [hv] at e4
          cases e4
          cases e5
          exact ⟨a, rfl, e6, hb, s1, or1⟩
      · have e' := old hj e
        obtain ⟨ov, h5, h6⟩ := r.at_ j x e'
        refine ⟨ov, h5, h6.mono g'.s fun q hoq hq => ?_⟩
        have hqa : q ≠ a := fun z => hj (r.ap j i x y ov _ a e' hy h5 hv (z ▸ hoq) (Has.oo ho rfl))
        obtain ⟨_, _, oo, h8⟩ := h6.held hoq
        obtain ⟨u, hu, nt⟩ := h8.nt
        have hh : hide H a q = some u := by rw [hide_ne hqa]; exact hu
        exact ⟨g'.free hq (by show hide H a q ≠ none; rw [hh]; exact fun z => nomatch z) fun xs z => nt xs (Option.some.inj ((sm q u hh).symm.trans (r'.s q _ z))), by rw [hu, sm q u hh]⟩
    · obtain ⟨x1, a1, a2⟩ := own' hj sj xj
      obtain ⟨x2, a3, a4⟩ := own' hk sk xk
      exact r.ap j k x1 x2 ov ow q a1 a3 sj sk a2 a4
    · obtain ⟨x1, a1, a2⟩ := own' e es ex
      obtain ⟨_, _, oo, h8⟩ := r.held a1 es a2
      obtain ⟨u, hu⟩ := h8.there
      rw [hide_ne hqa, hu] at hq
      cases hq
  refine ⟨by rw [List.length_cons]; exact hn, hide H a, S, _, _, _, r1, h, fun v x S' bs H' g' r' vr' nx ny q' => ?_, fun e cls d S' bs H' g' r' xr' q' => ?_⟩
  · obtain ⟨o', cs, rfl, q'⟩ := q'
    obtain ⟨g2, r2, ns⟩ := up g' r'
    refine kq v x S' _ H' g2 r2 ?_ q'
    cases x with
    | d b => exact vr'
    | fr ob =>
      obtain ⟨q, e1, h1, h2, h3, h4⟩ := vr'
      have hqa : q ≠ a := fun z => h3 0 (.rf o') _ rfl rfl (by rw [z]; rfl)
      have h1' : hide H a q = none := h1
      exact ⟨q, e1, r.b.free ((hide_ne hqa).symm.trans h1'), h2, ns q h1' hqa h2, h4⟩
    | sl j => exact absurd rfl (nx j)
    | me p => exact absurd rfl (ny p)
  · obtain ⟨o', cs, rfl, q'⟩ := q'
    obtain ⟨g2, r2, _⟩ := up g' r'
    exact ke e cls d S' _ H' g2 r2 xr' q'
/-- a making: the new instance by reference ahead of told arguments -/
theorem make_ok {n : Nat} {C x dx : Addr} {G : DSp} {as : List D} {vs : List V} {Q : OO → Prop} {E : DExc → Prop} {QQ : VK} {EE : XK} (r : R K F S ρ σ H) (hx : H x = none) (hdx : H dx = none) (hne : dx ≠ x) (p : RpL K S as vs) (hn : vs.length + 1 = n)
    (h : G (.rf (.i C []) :: as.map .d) (fun z bs => ∃ o' cs, bs = .rf o' :: cs ∧ z = .d .non ∧ Q o') (fun e bs => ∃ o' cs, bs = .rf o' :: cs ∧ E e))
    (kq : ∀ o' S' H', Gr F.B S S' → R K F S' ρ σ H' → VR K F S' ρ σ H' (.ref x) (.fr o') → Q o' → QQ (.ref x) H') (ke : ∀ e cls d S' H', Gr F.B S S' → R K F S' ρ σ H' → XR K S' H' e cls d → E e → EE cls d H') :
    spD K n G (.ref x :: vs) (upd (upd H dx (.own x)) x (.ins C dx [])) (fun v H2 => v = .non ∧ QQ (.ref x) H2) EE := by
  have r0 : R K F S ρ σ (upd (upd H dx (.own x)) x (.ins C dx [])) := by
    have b1 := r.newB hdx
    have r2 := r.beside (u := .own x) b1.1 b1.2 (NoSl.new r hdx)
    have hx2 : upd H dx (.own x) x = none := by rw [upd_ne (Ne.symm hne)]; exact hx
    have b2 := r2.newB hx2
    exact r2.beside b2.1 b2.2 (NoSl.new r2 hx2)
  have hB : upd H dx (.own x) x = none := by rw [upd_ne (Ne.symm hne)]; exact hx
  have sH : Same H (upd H dx (.own x)) := fun c w e => by rw [upd_ne (ne_of_none e hdx)]; exact e
  have hSx : S x = none := r.s.free hx
  have r1 : R K ⟨upd H dx (.own x), .ref x :: vs, n⟩ S (.rf (.i C []) :: as.map .d) ((V.ref x :: vs).map some) (upd (upd H dx (.own x)) x (.ins C dx [])) := by
    refine ⟨by rw [List.length_cons, List.length_map, List.length_map, List.length_cons, p.length], by rw [List.length_cons, List.length_map, ← hn, p.length], fun c w e => ?_, r0.s, fun j z e => ?_, fun j k z z2 ov ow q hj hk sj sk xj xk => ?_⟩
    · have : c ≠ x := fun q => by
        have e' : upd H dx (.own x) c = some w := e
        rw [q, hB] at e'
        cases e'
      rw [upd_ne this]; exact e
    · cases j with
      | zero =>
        cases e
        exact ⟨_, rfl, x, rfl, rfl, hB, hSx, dx, [], upd_same, rfl⟩
      | succ j =>
        obtain ⟨ov, e1, e2⟩ := p.slots (H := upd (upd H dx (.own x)) x (.ins C dx [])) (B := upd H dx (.own x)) j z (by simpa using e)
        exact ⟨ov, by simpa using e1, e2 _⟩
    · cases j with
      | zero =>
        cases k with
        | zero => rfl
        | succ k => exact (own_d (as := as) (i := k) (by simpa using hk) xk).elim
      | succ j => exact (own_d (as := as) (i := j) (by simpa using hj) xj).elim
  have up : ∀ {S' : Hp} {bs : List SV} {H' : Hp}, Gr (upd H dx (.own x)) S S' → R K ⟨upd H dx (.own x), .ref x :: vs, n⟩ S' bs ((V.ref x :: vs).map some) H' → Gr F.B S S' ∧ R K F S' ρ σ H' := fun {S' bs H'} g' r' => by
    have sm : Same (upd H dx (.own x)) H' := r'.b
    refine ⟨⟨g'.s, fun c u h1 h2 => (g'.n c u h1 h2).imp (fun z => r.b.free (sH.free z)) id⟩, r.len, r.ln, (r.b.trans sH).trans sm, r'.s, fun j z e => ?_, r.ap⟩
    obtain ⟨ov, e1, e2⟩ := r.at_ j z e
    refine ⟨ov, e1, e2.mono g'.s fun q ho hq => ?_⟩
    obtain ⟨_, _, o, h3⟩ := e2.held ho
    obtain ⟨u, hu, nt⟩ := h3.nt
    have hu2 := sH q u hu
    exact ⟨g'.free hq (by show upd H dx (.own x) q ≠ none; rw [hu2]; exact fun z => nomatch z) fun xs z => nt xs (Option.some.inj ((sm q u hu2).symm.trans (r'.s q _ z))), by rw [hu, sm q u hu2]⟩
  refine ⟨by rw [List.length_cons]; exact hn, _, S, _, _, _, r1, h, fun v z S' bs H' g' r' vr' nx ny q' => ?_, fun e cls d S' bs H' g' r' xr' q' => ?_⟩
  · obtain ⟨o', cs, rfl, rfl, q'⟩ := q'
    obtain ⟨g2, r2⟩ := up g' r'
    obtain ⟨ov, e1, pp, e2, e3, b1, s1, or1⟩ := r'.at_ 0 (.rf o') rfl
    have e1 : some (some (V.ref x)) = some ov := e1
    cases e1
    cases e2
    exact ⟨vr', kq o' S' H' g2 r2 ⟨x, rfl, r.b.free hx, s1, NoSl.new r hx, or1⟩ q'⟩
  · obtain ⟨o', cs, rfl, q'⟩ := q'
    obtain ⟨g2, r2⟩ := up g' r'
    exact ke e cls d S' H' g2 r2 xr' q'
end

theorem putR_eq (i : Nat) (y : SV) (ρ bs : List SV) (k : List SV → Prop) : putR i y ρ bs k = ∃ o cs, bs = .rf o :: cs ∧ k (ρ.set i (y.re o)) := by
  unfold putR
  split
  · exact propext ⟨fun h => ⟨_, _, rfl, h⟩, fun ⟨_, _, e, h⟩ => by cases e; exact h⟩
  · rename_i hno
    exact propext ⟨fun h => h.elim, fun ⟨_, _, e, _⟩ => (hno _ _ e).elim⟩
theorem made_eq (x : DV) (bs : List SV) (k : OO → Prop) : madeQ x bs k = ∃ o cs, bs = .rf o :: cs ∧ x = .d .non ∧ k o := by
  unfold madeQ
  split
  · exact propext ⟨fun h => ⟨_, _, rfl, rfl, h⟩, fun ⟨_, _, e, _, h⟩ => by cases e; exact h⟩
  · rename_i hno
    exact propext ⟨fun h => h.elim, fun ⟨_, _, e, e2, _⟩ => (hno _ _ e2 e).elim⟩
theorem madeE_eq (bs : List SV) (k : Prop) : madeE bs k = ∃ o cs, bs = SV.rf o :: cs ∧ k := by
  unfold madeE
  split
  · exact propext ⟨fun h => ⟨_, _, rfl, h⟩, fun ⟨_, _, e, h⟩ => h⟩
  · rename_i hno
    exact propext ⟨fun h => h.elim, fun ⟨_, _, e, _⟩ => (hno _ _ e).elim⟩
section
variable {X : Cx} {W : WX} {k : Nat} {f C : Addr} {fd : FuncData} {ps : List Str} {G : DSp} {x m : Str} {p pos apos : Pos} {e o : Expr} {es : List Expr} {dl : DTA} {de : DTE}
theorem d_call (F0 : FnOk X.prog X.w X.K X.mg X.base (L2N.CX X.prog X.w) k f fd ps (spD X.K ps.length G)) (hr : Room k X.A) (hm : X.mg x = some (.ref f)) (hk : PySem.W.keepIn X.K (.ref f) = true) (hb : Binds X.K fd ps []) (tk : L2N.Takes X W) (ha : DA X W (e :: es) dl) (hg : Gl X x := by rfl)
    (hdb : (x == ("__debug__" : Str)) = false := by decide) (he : starEach (e :: es) X.env = (false, eval e X.env) :: starEach es X.env := by rfl) (hpl : (backTo pos (starEach es X.env)).any (·.1) = false := by rfl) :
    DE X W (.Call (.Name x p) (e :: es) [] pos) (dCall ps.length G dl) := by
  refine pe_imp (pe_callS (E := WE W) F0 hr hg hm hk hb (fun σ => L2N.passAt tk σ) ha hdb he hpl) fun σ H QQ ⟨F, S, ρ, Q, Ee, r, h, kq, ke⟩ => ?_
  refine ⟨F, S, ρ, _, Ee, r, h, fun vs xs S1 ρ1 H1 g1 r1 p1 q1 => ?_, ke⟩
  exact call_ok (Q := Q) (E := Ee) r1 p1 (by rw [p1.length]; exact q1.1) q1.2 (fun v x S' H' g' r' vr' q' => kq v x S' ρ1 H' (g1.trans g') r' vr' q') fun e cls d S' H' g' r' xr' q' => ke e cls d S' ρ1 H' (g1.trans g') r' xr' q'
theorem hasO_at {K : PySem.W.Frag} {F : Fm} {S H : Hp} {ρ : List SV} {σ : St} {i : Nat} (r : R K F S ρ σ H) (h : hasO ρ i) : ∃ v, σ[i]? = some (some v) := by
  unfold hasO at h
  cases c : ρ[i]? with
  | none => simp only [c] at h
  | some y =>
    cases y with
    | un => simp only [c] at h
    | mm _ => simp only [c] at h
    | d _ => simp only [c] at h
    | ow o =>
      obtain ⟨p, e, _⟩ := r.own c rfl
      exact ⟨_, e⟩
    | rf o =>
      obtain ⟨p, e, _⟩ := r.own c rfl
      exact ⟨_, e⟩
theorem d_callR (i : Nat) {y : Str} {py : Pos} (F0 : FnOk X.prog X.w X.K X.mg X.base (L2N.CX X.prog X.w) k f fd ps (spD X.K ps.length G)) (hr : Room k X.A) (hm : X.mg x = some (.ref f)) (hk : PySem.W.keepIn X.K (.ref f) = true) (hb : Binds X.K fd ps []) (tk : L2N.Takes X W) (ha : DA X W es dl)
    (hN : X.N[i]? = some y := by rfl) (hv : Vis X.env.scope y := by first | exact Or.inl rfl | exact Or.inr (Or.inl rfl) | exact Or.inr (Or.inr rfl)) (hd : (y == ("__debug__" : Str)) = false := by decide) (hcd : (y == ("__classdict__" : Str)) = false := by decide) (hg : Gl X x := by rfl)
    (hdb : (x == ("__debug__" : Str)) = false := by decide) (he : starEach (.Name y py :: es) X.env = (false, eval (.Name y py) X.env) :: starEach es X.env := by rfl) (hpl : (backTo pos (starEach es X.env)).any (·.1) = false := by rfl) :
    DE X W (.Call (.Name x p) (.Name y py :: es) [] pos) (dCallR ps.length i G dl) := by
  refine pe_imp (pe_callS (E := WE W) F0 hr hg hm hk hb (fun σ => L2N.passAt tk σ) (pa_cons (pv i hN hv hd hcd) ha he) hdb he hpl) fun σ H QQ ⟨F, S, ρ, Q, Ee, r, h, kq, ke⟩ => ?_
  obtain ⟨v, hv⟩ := hasO_at r h.1
  refine ⟨v, hv, F, S, ρ, _, Ee, r, h.2, fun vs xs S1 ρ1 H1 g1 r1 p1 q1 => ?_, ke⟩
  have kq' : ∀ w z S' ρ' H', Gr F.B S1 S' → R X.K F S' ρ' σ H' → VR X.K F S' ρ' σ H' w z → Q z ρ' → QQ w H' := fun w z S' ρ' H' g' r' vr' q' => kq w z S' ρ' H' (g1.trans g') r' vr' q'
  have ke' : ∀ er cls d S' ρ' H', Gr F.B S1 S' → R X.K F S' ρ' σ H' → XR X.K S' H' er cls d → Ee er ρ' → W cls d σ H' := fun er cls d S' ρ' H' g' r' xr' q' => ke er cls d S' ρ' H' (g1.trans g') r' xr' q'
  have ln : vs.length + 1 = ps.length := by rw [p1.length]; exact q1.1
  have q2 := q1.2
  cases c : ρ1[i]? with
  | none => simp only [c] at q2
  | some y1 =>
    cases y1 with
    | un => simp only [c] at q2
    | mm _ => simp only [c] at q2
    | d _ => simp only [c] at q2
    | ow o =>
      simp only [c, putR_eq] at q2
      exact callR_ok r1 c rfl hv p1 ln q2 kq' ke'
    | rf o =>
      simp only [c, putR_eq] at q2
      exact callR_ok r1 c rfl hv p1 ln q2 kq' ke'
theorem d_meth {pl : Sem Bool} (c : Cls X.K C) (hm : Meth X.K C m f) (F0 : FnOk X.prog X.w X.K X.mg X.base (L2N.CX X.prog X.w) k f fd ps (spD X.K ps.length G)) (hr : Room k X.A) (hb : Binds X.K fd ps []) (tk : L2N.Takes X W) (ho : DE X W o de) (ha : DA X W (e :: es) dl)
    (hst : starEach (e :: es) X.env = (false, eval e X.env) :: starEach es X.env := by rfl) (hpl : (backTo pos (starEach es X.env)).any (·.1) = false := by rfl)
    (ht : eval (.Call (.Attribute o m apos) (e :: es) [] pos) X.env = (do let ov ← eval o X.env; standAt apos.atName; let (f, first) ← holding [ov] (getMethod ov m pl); callWith pos f first (backTo pos (starEach (e :: es) X.env)) (backToKw pos (keywordEach [] X.env))) := by rfl) :
    DE X W (.Call (.Attribute o m apos) (e :: es) [] pos) (dMeth ps.length C m G de dl) := by
  refine pe_imp (pe_methQ (E := WE W) ho c hm F0 hr hb (fun σ => L2N.passAt tk σ) ha hst hpl ht) fun σ H QQ ⟨F, S, ρ, Q, Ee, r, h, kq, ke⟩ => ?_
  refine ⟨F, S, ρ, _, Ee, r, h, fun v x S1 ρ1 H1 g1 r1 vr1 q1 => ?_, ke⟩
  obtain ⟨a, S2, ρ2, g2, r2, p2, q2⟩ := VR.stab r1 vr1 q1
  cases a with
  | ins C' fs =>
    obtain ⟨rfl, l, q3⟩ := q2
    obtain ⟨pa, dx, ws, e1, e2, e3⟩ := id p2
    refine ⟨pa, dx, ws, e1, r2.s _ _ e2, (e3.lookup (f := m)).2 l, F, S2, ρ2, _, Ee, r2, q3, fun vs xs S3 ρ3 H3 g3 r3 p3 q4 => ?_, fun e cls d S' ρ' H' g' r' => ke e cls d S' ρ' H' ((g1.trans g2).trans g') r'⟩
    have g13 := (g1.trans g2).trans g3
    exact call_ok (as := .ins C' fs :: xs) (Q := Q) (E := Ee) r3 (RpL.cons (Rp.mono g3.s p2) p3) (by rw [List.length_cons, p3.length]; exact q4.1) q4.2 (fun v x S' H' g' r' vr' q' => kq v x S' ρ3 H' (g13.trans g') r' vr' q') fun e cls d S' H' g' r' xr' q' => ke e cls d S' ρ3 H' (g13.trans g') r' xr' q'
  | _ => exact False.elim q2
theorem d_meth0 {pl : Sem Bool} (c : Cls X.K C) (hm : Meth X.K C m f) (F0 : FnOk X.prog X.w X.K X.mg X.base (L2N.CX X.prog X.w) k f fd ps (spD X.K ps.length G)) (hr : Room k X.A) (hb : Binds X.K fd ps []) (tk : L2N.Takes X W) (ho : DE X W o de)
    (ht : eval (.Call (.Attribute o m apos) [] [] pos) X.env = (do let ov ← eval o X.env; standAt apos.atName; let (f, first) ← holding [ov] (getMethod ov m pl); callWith pos f first (backTo pos (starEach [] X.env)) (backToKw pos (keywordEach [] X.env))) := by rfl) :
    DE X W (.Call (.Attribute o m apos) [] [] pos) (dMeth ps.length C m G de dANil) := by
  refine pe_imp (pe_methQ0 (E := WE W) ho c hm F0 hr hb (fun σ => L2N.passAt tk σ) ht) fun σ H QQ ⟨F, S, ρ, Q, Ee, r, h, kq, ke⟩ => ?_
  refine ⟨F, S, ρ, _, Ee, r, h, fun v x S1 ρ1 H1 g1 r1 vr1 q1 => ?_, ke⟩
  obtain ⟨a, S2, ρ2, g2, r2, p2, q2⟩ := VR.stab r1 vr1 q1
  cases a with
  | ins C' fs =>
    obtain ⟨rfl, l, q4⟩ := q2
    obtain ⟨pa, dx, ws, e1, e2, e3⟩ := id p2
    have g13 := g1.trans g2
    exact ⟨pa, dx, ws, e1, r2.s _ _ e2, (e3.lookup (f := m)).2 l, call_ok (as := [.ins C' fs]) (Q := Q) (E := Ee) r2 (RpL.one p2) q4.1 q4.2 (fun v x S' H' g' r' vr' q' => kq v x S' ρ2 H' (g13.trans g') r' vr' q') fun e cls d S' H' g' r' xr' q' => ke e cls d S' ρ2 H' (g13.trans g') r' xr' q'⟩
  | _ => exact False.elim q2
theorem methR_at {K : PySem.W.Frag} {F : Fm} {S H : Hp} {ρ : List SV} {σ : St} {Q : DV → List SV → Prop} {E : DExc → List SV → Prop} {n i : Nat} (r : R K F S ρ σ H) (h : dMethR n C m i G dl ρ Q E) : ∃ (y : SV) (fs : List (Str × D)) (a dx : Addr) (ws : List (Str × V)), ρ[i]? = some y ∧ y.oo = some (.i C fs) ∧ σ[i]? = some (some (.ref a)) ∧ H a = some (.ins C dx ws) ∧ ws.lookup m = none ∧
    dl ρ (fun as ρ1 => as.length + 1 = n ∧ ρ1[i]? = some y ∧ G (.rf (.i C fs) :: as.map .d) (fun x bs => ∃ o' cs, bs = .rf o' :: cs ∧ Q x (ρ1.set i (y.re o'))) (fun e bs => ∃ o' cs, bs = .rf o' :: cs ∧ E e (ρ1.set i (y.re o')))) E := by
  unfold dMethR at h
  cases c : ρ[i]? with
  | none => simp only [c] at h
  | some y =>
    cases y with
    | un => simp only [c] at h
    | mm _ => simp only [c] at h
    | d _ => simp only [c] at h
    | ow o =>
      cases o with
      | i C' fs =>
        simp only [c, putR_eq] at h
        obtain ⟨rfl, l, q⟩ := h
        obtain ⟨a, e1, _, _, dx, ws, e2, e3⟩ := r.own c rfl
        exact ⟨_, fs, a, dx, ws, rfl, rfl, e1, e2, (e3.lookup (f := m)).2 l, q⟩
      | l _ => simp only [c] at h
      | k _ => simp only [c] at h
      | t _ => simp only [c] at h
      | tL _ => simp only [c] at h
      | tb _ _ => simp only [c] at h
    | rf o =>
      cases o with
      | i C' fs =>
        simp only [c, putR_eq] at h
        obtain ⟨rfl, l, q⟩ := h
        obtain ⟨a, e1, _, _, dx, ws, e2, e3⟩ := r.own c rfl
        exact ⟨_, fs, a, dx, ws, rfl, rfl, e1, e2, (e3.lookup (f := m)).2 l, q⟩
      | l _ => simp only [c] at h
      | k _ => simp only [c] at h
      | t _ => simp only [c] at h
      | tL _ => simp only [c] at h
      | tb _ _ => simp only [c] at h
theorem d_methR (i : Nat) {y : Str} {py : Pos} {pl : Sem Bool} (c : Cls X.K C) (hm : Meth X.K C m f) (F0 : FnOk X.prog X.w X.K X.mg X.base (L2N.CX X.prog X.w) k f fd ps (spD X.K ps.length G)) (hr : Room k X.A) (hb : Binds X.K fd ps []) (tk : L2N.Takes X W) (ha : DA X W (e :: es) dl)
    (hN : X.N[i]? = some y := by rfl) (hv : Vis X.env.scope y := by first | exact Or.inl rfl | exact Or.inr (Or.inl rfl) | exact Or.inr (Or.inr rfl)) (hd : (y == ("__debug__" : Str)) = false := by decide) (hcd : (y == ("__classdict__" : Str)) = false := by decide)
    (hst : starEach (e :: es) X.env = (false, eval e X.env) :: starEach es X.env := by rfl) (hpl : (backTo pos (starEach es X.env)).any (·.1) = false := by rfl)
    (ht : eval (.Call (.Attribute (.Name y py) m apos) (e :: es) [] pos) X.env = (do let ov ← eval (.Name y py) X.env; standAt apos.atName; let (f, first) ← holding [ov] (getMethod ov m pl); callWith pos f first (backTo pos (starEach (e :: es) X.env)) (backToKw pos (keywordEach [] X.env))) := by rfl) :
    DE X W (.Call (.Attribute (.Name y py) m apos) (e :: es) [] pos) (dMethR ps.length C m i G dl) := by
  refine pe_imp (pe_methQ (E := WE W) (pv i hN hv hd hcd) c hm F0 hr hb (fun σ => L2N.passAt tk σ) ha hst hpl ht) fun σ H QQ ⟨F, S, ρ, Q, Ee, r, h, kq, ke⟩ => ?_
  obtain ⟨y1, fs, a, dx, ws, c1, c2, c3, c4, c5, q⟩ := methR_at r h
  refine ⟨_, c3, a, dx, ws, rfl, c4, c5, F, S, ρ, _, Ee, r, q, fun vs xs S1 ρ1 H1 g1 r1 p1 q1 => ?_, ke⟩
  exact callR_ok r1 q1.2.1 c2 c3 p1 (by rw [p1.length]; exact q1.1) q1.2.2 (fun w z S' ρ' H' g' r' vr' q' => kq w z S' ρ' H' (g1.trans g') r' vr' q') fun er cls d S' ρ' H' g' r' xr' q' => ke er cls d S' ρ' H' (g1.trans g') r' xr' q'
theorem d_methR0 (i : Nat) {y : Str} {py : Pos} {pl : Sem Bool} (c : Cls X.K C) (hm : Meth X.K C m f) (F0 : FnOk X.prog X.w X.K X.mg X.base (L2N.CX X.prog X.w) k f fd ps (spD X.K ps.length G)) (hr : Room k X.A) (hb : Binds X.K fd ps []) (tk : L2N.Takes X W)
    (hN : X.N[i]? = some y := by rfl) (hv : Vis X.env.scope y := by first | exact Or.inl rfl | exact Or.inr (Or.inl rfl) | exact Or.inr (Or.inr rfl)) (hd : (y == ("__debug__" : Str)) = false := by decide) (hcd : (y == ("__classdict__" : Str)) = false := by decide)
    (ht : eval (.Call (.Attribute (.Name y py) m apos) [] [] pos) X.env = (do let ov ← eval (.Name y py) X.env; standAt apos.atName; let (f, first) ← holding [ov] (getMethod ov m pl); callWith pos f first (backTo pos (starEach [] X.env)) (backToKw pos (keywordEach [] X.env))) := by rfl) :
    DE X W (.Call (.Attribute (.Name y py) m apos) [] [] pos) (dMethR ps.length C m i G dANil) := by
  refine pe_imp (pe_methQ0 (E := WE W) (pv i hN hv hd hcd) c hm F0 hr hb (fun σ => L2N.passAt tk σ) ht) fun σ H QQ ⟨F, S, ρ, Q, Ee, r, h, kq, ke⟩ => ?_
  obtain ⟨y1, fs, a, dx, ws, c1, c2, c3, c4, c5, q⟩ := methR_at r h
  exact ⟨_, c3, a, dx, ws, rfl, c4, c5, callR_ok (as := []) r q.2.1 c2 c3 rfl q.1 q.2.2 kq ke⟩
theorem d_make (M : Mk X.K C f) (F0 : FnOk X.prog X.w X.K X.mg X.base (L2N.CX X.prog X.w) k f fd ps (spD X.K ps.length G)) (hr : Room (k + 1) X.A) (hm : X.mg x = some (.ref C)) (hb : Binds X.K fd ps []) (tk : L2N.Takes X W) (ha : DA X W (e :: es) dl) (hg : Gl X x := by rfl)
    (hdb : (x == ("__debug__" : Str)) = false := by decide) (he : starEach (e :: es) X.env = (false, eval e X.env) :: starEach es X.env := by rfl) (hpl : (backTo pos (starEach es X.env)).any (·.1) = false := by rfl) :
    DE X W (.Call (.Name x p) (e :: es) [] pos) (dMake ps.length C G dl) := by
  refine pe_imp (pe_makeQ M F0 hr hm hb tk ha hg hdb he hpl) fun σ H QQ ⟨F, S, ρ, Q, Ee, r, h, kq, ke⟩ => ?_
  refine ⟨F, S, ρ, _, Ee, r, h, fun vs xs S1 ρ1 H1 g1 r1 p1 q1 ob dx hx hdx hne => ?_, ke⟩
  have q2 := q1.2
  simp only [made_eq, madeE_eq] at q2
  exact make_ok (Q := fun o => Q (.fr o) ρ1) (E := fun e => Ee e ρ1) r1 hx hdx hne p1 (by rw [p1.length]; exact q1.1) q2 (fun o' S' H' g' r' vr' q' => kq _ _ S' ρ1 H' (g1.trans g') r' vr' q') fun er cls d S' H' g' r' xr' q' => ke er cls d S' ρ1 H' (g1.trans g') r' xr' q'
end
end DW
/-! DWf: operators, comparisons, subscripts, built-ins, methods of lists, by pure forms. -/
namespace DW
open PySem L2

/-! ### data as the library's -/
mutual
def D.py : D → PyData
  | .non => .none
  | .bl b => .bool b
  | .int i => .int i
  | .str x => .str x
  | .lst xs => .list (D.pyL xs)
  | .tup xs => .tuple (D.pyL xs)
  | .scr ns => .list (ns.map .int)
  | .dct _ => .none
  | .ins _ _ => .none
  | .ptr _ => .none
  | .tkd _ => .none
  | .exc _ _ _ _ => .none
def D.pyL : List D → List PyData
  | [] => []
  | x :: xs => x.py :: D.pyL xs
end
mutual
/-- plain data, nested at most n deep -/
def D.pl : D → Nat → Bool
  | .non, _ => true
  | .bl _, _ => true
  | .int _, _ => true
  | .str x, _ => PyData.strOk x
  | .lst _, 0 => false
  | .lst xs, n + 1 => D.plL xs n
  | .tup _, 0 => false
  | .tup xs, n + 1 => D.plL xs n
  | .scr _, 0 => false
  | .scr _, _ + 1 => true
  | .dct _, _ => false
  | .ins _ _, _ => false
  | .ptr _, _ => false
  | .tkd _, _ => false
  | .exc _ _ _ _, _ => false
def D.plL : List D → Nat → Bool
  | [], _ => true
  | x :: xs, n => x.pl n && D.plL xs n
end
theorem canAll_ints : ∀ ns : List Int, PyData.canLayAll0 (ns.map .int) = true
  | [] => by simp [PyData.canLayAll0]
  | n :: ns => by simp [PyData.canLayAll0, PyData.canLay0, canAll_ints ns]
theorem depAll_ints : ∀ ns : List Int, PyData.depthAll (ns.map .int) = 0
  | [] => by simp [PyData.depthAll]
  | n :: ns => by
    have ih := depAll_ints ns
    simp [PyData.depthAll, PyData.depth, ih]
mutual
theorem D.pl_can : ∀ (x : D) (n : Nat), x.pl n = true → x.py.canLay0 = true ∧ x.py.depth ≤ n
  | .non, _, _ => by simp [D.py, PyData.canLay0, PyData.depth]
  | .bl _, _, _ => by simp [D.py, PyData.canLay0, PyData.depth]
  | .int _, _, _ => by simp [D.py, PyData.canLay0, PyData.depth]
  | .str x, _, h => by
    have h' : PyData.strOk x = true := by simpa [D.pl] using h
    simp [D.py, PyData.canLay0, PyData.depth, h']
  | .lst xs, 0, h => by simp [D.pl] at h
  | .lst xs, n + 1, h => by
    obtain ⟨a, b⟩ := D.plL_can xs n (by simpa [D.pl] using h)
    simp only [D.py, PyData.canLay0, PyData.depth]
    exact ⟨a, by omega⟩
  | .tup xs, 0, h => by simp [D.pl] at h
  | .tup xs, n + 1, h => by
    obtain ⟨a, b⟩ := D.plL_can xs n (by simpa [D.pl] using h)
    simp only [D.py, PyData.canLay0, PyData.depth]
    exact ⟨a, by omega⟩
  | .scr ns, 0, h => by simp [D.pl] at h
  | .scr ns, n + 1, _ => by
    simp only [D.py, PyData.canLay0, PyData.depth]
    exact ⟨canAll_ints ns, by rw [depAll_ints]; omega⟩
  | .dct _, _, h => by simp [D.pl] at h
  | .ins _ _, _, h => by simp [D.pl] at h
  | .ptr _, _, h => by simp [D.pl] at h
  | .tkd _, _, h => by simp [D.pl] at h
  | .exc _ _ _ _, _, h => by simp [D.pl] at h
theorem D.plL_can : ∀ (xs : List D) (n : Nat), D.plL xs n = true → PyData.canLayAll0 (D.pyL xs) = true ∧ PyData.depthAll (D.pyL xs) ≤ n
  | [], _, _ => by simp [D.pyL, PyData.canLayAll0, PyData.depthAll]
  | x :: xs, n, h => by
    have h' : x.pl n = true ∧ D.plL xs n = true := by simpa [D.plL] using h
    obtain ⟨a, b⟩ := D.pl_can x n h'.1
    obtain ⟨c, d⟩ := D.plL_can xs n h'.2
    simp only [D.pyL, PyData.canLayAll0, PyData.depthAll, a, c]
    exact ⟨rfl, by omega⟩
end
theorem D.shaped {x : D} {n : Nat} (hn : n ≤ 64) (h : x.pl n = true) : SeqAt.shaped x.py = true := by
  obtain ⟨a, b⟩ := D.pl_can x n h
  show (x.py.canLay0 && decide (x.py.depth ≤ 64)) = true
  rw [a, decide_eq_true (by omega)]
  rfl
theorem DpAll_ints {K : PySem.W.Frag} {H : Hp} : ∀ ns : List Int, DpAll K H (ns.map V.int) (ns.map .int)
  | [] => .nil
  | n :: ns => .cons (.int n) (DpAll_ints ns)
mutual
theorem Rp.dp {K : PySem.W.Frag} {H : Hp} : ∀ (x : D) (n : Nat) (v : V), Rp K H x v → x.pl n = true → Dp K H v x.py
  | .non, _, _, h, _ => by
    have e : _ = V.non := h
    rw [e]; exact .non
  | .bl b, _, _, h, _ => by
    have e : _ = V.bl b := h
    rw [e]; exact .bl b
  | .int i, _, _, h, _ => by
    have e : _ = V.int i := h
    rw [e]; exact .int i
  | .str x, _, _, h, _ => by
    have e : _ = V.str x := h
    rw [e]; exact .str x
  | .lst xs, 0, _, _, q => by simp [D.pl] at q
  | .lst xs, n + 1, _, ⟨a, vs, e, h1, h2⟩, q => by
    rw [e]
    exact .lst (SqL.of h1) (RpL.dp xs n vs h2 (by simpa [D.pl] using q))
  | .tup xs, 0, _, _, q => by simp [D.pl] at q
  | .tup xs, n + 1, _, ⟨a, vs, e, h1, h2⟩, q => by
    rw [e]
    exact .tup (SqT.of h1) (RpL.dp xs n vs h2 (by simpa [D.pl] using q))
  | .scr ns, _, _, ⟨a, e, h1⟩, _ => by
    rw [e]
    exact .lst h1 (DpAll_ints ns)
  | .dct _, _, _, _, q => by simp [D.pl] at q
  | .ins _ _, _, _, _, q => by simp [D.pl] at q
  | .ptr _, _, _, _, q => by simp [D.pl] at q
  | .tkd _, _, _, _, q => by simp [D.pl] at q
  | .exc _ _ _ _, _, _, _, q => by simp [D.pl] at q
theorem RpL.dp {K : PySem.W.Frag} {H : Hp} : ∀ (xs : List D) (n : Nat) (vs : List V), RpL K H xs vs → D.plL xs n = true → DpAll K H vs (D.pyL xs)
  | [], _, _, h, _ => by
    have e : _ = ([] : List V) := h
    rw [e]; exact .nil
  | x :: xs, n, _, ⟨v, ws, e, h1, h2⟩, q => by
    have q' : x.pl n = true ∧ D.plL xs n = true := by simpa [D.plL] using q
    rw [e]
    exact .cons (Rp.dp x n v h1 q'.1) (RpL.dp xs n ws h2 q'.2)
end
/-- == of data -/
def D.eqv (a b : D) : Bool := PyData.eqv a.py b.py

/-! ### numbers, texts, lists by operators -/
def fAdd (a b : D) (k : DV → Prop) : Prop := match a, b with
  | .int i, .int j => k (.d (.int (i + j)))
  | .str x, .str y => x.length + y.length ≤ sizeLine ∧ k (.d (.str (x ++ y)))
  | .lst xs, .lst ys => xs.length + ys.length ≤ sizeLine ∧ k (.fr (.l (xs ++ ys)))
  | .tup xs, .tup ys => xs ≠ [] ∧ xs.length + ys.length ≤ sizeLine ∧ k (.d (.tup (xs ++ ys)))
  | _, _ => False
def fSub (a b : D) (k : DV → Prop) : Prop := match a, b with
  | .int i, .int j => k (.d (.int (i - j)))
  | _, _ => False
def fMul (a b : D) (k : DV → Prop) : Prop := match a, b with
  | .int i, .int j => (i.natAbs < 2 ^ 64 ∨ j.natAbs < 2 ^ 64 ∨ (i.natAbs < 2 ^ 400000 ∧ j.natAbs < 2 ^ 400000)) ∧ k (.d (.int (i * j)))
  | .lst xs, .int j => j ≤ 100000 ∧ -100000 ≤ j ∧ xs.length * j.toNat ≤ sizeLine ∧ k (.fr (.l (List.replicate j.toNat xs).flatten))
  | _, _ => False
def fDiv (a b : D) (k : DV → Prop) : Prop := match a, b with
  | .int i, .int j => ((j ≠ 0 ∧ j.natAbs < 1073741824) ∨ (0 < j ∧ j.natAbs < 2 ^ 8000)) ∧ k (.d (.int (i.fdiv j)))
  | _, _ => False
def fMod (a b : D) (k : DV → Prop) : Prop := match a, b with
  | .int i, .int j => j ≠ 0 ∧ k (.d (.int (i.fmod j)))
  | _, _ => False
def fPow (a b : D) (k : DV → Prop) : Prop := match a, b with
  | .int i, .int j => 0 ≤ j ∧ j ≤ 1000000 ∧ i.natAbs < 2 ^ 64 ∧ k (.d (.int (i ^ j.toNat)))
  | _, _ => False
def fNeg (a : D) (k : DV → Prop) : Prop := match a with
  | .int i => k (.d (.int (-i)))
  | _ => False
def fCmp (p : Int → Int → Bool) (a b : D) (k : DV → Prop) : Prop := match a, b with
  | .int i, .int j => k (.d (.bl (p i j)))
  | _, _ => False
abbrev fLt := fCmp fun i j => decide (i < j)
abbrev fLe := fCmp fun i j => decide (i ≤ j)
abbrev fGt := fCmp fun i j => decide (j < i)
abbrev fGe := fCmp fun i j => decide (j ≤ i)
def fEq (a b : D) (k : DV → Prop) : Prop := a.pl 8 = true ∧ b.pl 8 = true ∧ k (.d (.bl (D.eqv a b)))
def fNe (a b : D) (k : DV → Prop) : Prop := a.pl 8 = true ∧ b.pl 8 = true ∧ k (.d (.bl (!D.eqv a b)))
def D.isN : D → Bool
  | .non => true
  | _ => false
def fIsN (a b : D) (k : DV → Prop) : Prop := match b with
  | .non => k (.d (.bl a.isN))
  | _ => False
def fNotN (a b : D) (k : DV → Prop) : Prop := match b with
  | .non => k (.d (.bl (!a.isN)))
  | _ => False

section
variable {X : Cx} {K : PySem.W.Frag} {S H : Hp}
theorem Res.int {i : Int} : Res K S H (.int i) (.d (.int i)) H := .d (c := .int i) rfl
theorem Res.str {i : Str} : Res K S H (.str i) (.d (.str i)) H := .d (c := .str i) rfl
theorem Res.bl {i : Bool} : Res K S H (.bl i) (.d (.bl i)) H := .d (c := .bl i) rfl
theorem Res.non : Res K S H .non (.d .non) H := .d (c := .non) rfl
theorem Res.lst {p : Addr} {vs : List V} {xs : List D} (n : H p = none) (h : RpL K S xs vs) : Res K S H (.ref p) (.fr (.l xs)) (upd H p (.lst vs)) := .fr (o := .l xs) n ⟨vs, upd_same, h⟩
theorem Res.dct {p : Addr} {vs : List (Key × V)} {xs : List (Key × D)} (n : H p = none) (h : RpK K S xs vs) : Res K S H (.ref p) (.fr (.k xs)) (upd H p (.dK vs)) := .fr (o := .k xs) n ⟨vs, upd_same, h⟩
theorem Res.tup {p : Addr} {vs : List V} {xs : List D} (n : H p = none) (h : RpL K S xs vs) : Res K S H (.ref p) (.d (.tup xs)) (upd H p (.tup vs)) := .new (c := .tup xs) n fun S' e q => ⟨p, vs, rfl, q, RpL.mono e h⟩
abbrev rAddA (K : PySem.W.Frag) : R2 := fun x y H Q => (rI0 fun i j => .int (i + j)) x y H Q ∨ (∃ i j, x = .str i ∧ y = .str j ∧ i.length + j.length ≤ sizeLine ∧ Q (.str (i ++ j)) H) ∨ rCat x y H Q ∨ rCatT K x y H Q
theorem op_addA : OpR X (binaryOp .Add) (rAddA X.K) := op_add.or (op_add_str.or (op_cat.or op_catT))
theorem ok_add : OpOk K fAdd (rAddA K) := by
  intro S H a b x y Qz QQ sh ha hb h kq
  unfold fAdd at h
  split at h
  · exact .inl ⟨_, _, ha, hb, kq _ _ H Res.int h⟩
  · exact .inr (.inl ⟨_, _, ha, hb, h.1, kq _ _ H Res.str h.2⟩)
  · obtain ⟨p, vs, e1, h1, h2⟩ := ha
    obtain ⟨q, ws, e2, h3, h4⟩ := hb
    refine .inr (.inr (.inl ⟨p, q, vs, ws, e1, e2, h1, h3, by rw [h2.length, h4.length]; exact h.1, fun l hl => kq _ _ _ (Res.lst hl (RpL.append h2 h4)) h.2⟩))
  · obtain ⟨p, vs, e1, h1, h2⟩ := ha
    obtain ⟨q, ws, e2, h3, h4⟩ := hb
    refine .inr (.inr (.inr ⟨p, q, vs, ws, e1, e2, sqT_mono sh h1, sqT_mono sh h3, fun z => h.1 ?_, by rw [h2.length, h4.length]; exact h.2.1, fun z => ?_, fun _ l hl => kq _ _ _ (Res.tup hl (RpL.append h2 h4)) h.2.2⟩))
    · have := h2.length
      rw [z] at this
      exact List.length_eq_zero_iff.mp this.symm
    · have l0 := h4.length
      rw [z] at l0
      have : _ = [] := List.length_eq_zero_iff.mp l0.symm
      have hh := h.2.2
      rw [this, List.append_nil] at hh
      exact kq _ _ H (.d (c := .tup _) ⟨p, vs, rfl, h1, h2⟩) hh
  · exact h.elim
theorem ok_sub : OpOk K fSub (rI0 fun i j => .int (i - j)) := by
  intro S H a b x y Qz QQ sh ha hb h kq
  unfold fSub at h
  split at h
  · exact ⟨_, _, ha, hb, kq _ _ H Res.int h⟩
  · exact h.elim
abbrev rMulA : R2 := fun x y H Q => (rI CMul fun i j => .int (i * j)) x y H Q ∨ (rI CMulW fun i j => .int (i * j)) x y H Q ∨ rRep x y H Q
theorem op_mulA : OpR X (binaryOp .Mult) rMulA := op_mul.or (op_mulW.or op_rep)
theorem ok_mul : OpOk K fMul rMulA := by
  intro S H a b x y Qz QQ sh ha hb h kq
  unfold fMul at h
  split at h
  · rcases h.1 with c | c | c
    · exact .inl ⟨_, _, ha, hb, .inl (by omega), kq _ _ H Res.int h.2⟩
    · exact .inl ⟨_, _, ha, hb, .inr (by omega), kq _ _ H Res.int h.2⟩
    · exact .inr (.inl ⟨_, _, ha, hb, wide_mul c.1 c.2 (by decide) (by decide) (by decide), kq _ _ H Res.int h.2⟩)
  · obtain ⟨p, vs, e1, h1, h2⟩ := ha
    refine .inr (.inr ⟨p, _, vs, e1, hb, h1, by omega, by omega, by rw [h2.length]; exact h.2.2.1, fun l hl => kq _ _ _ (Res.lst hl (RpL.flatten _ h2)) h.2.2.2⟩)
  · exact h.elim
abbrev rDivA : R2 := fun x y H Q => (rI CDivN fun i j => .int (i.fdiv j)) x y H Q ∨ (rI CDivW fun i j => .int (i / j)) x y H Q
theorem op_divA : OpR X (binaryOp .FloorDiv) rDivA := op_fdivN.or op_fdivW
theorem ok_div : OpOk K fDiv rDivA := by
  intro S H a b x y Qz QQ sh ha hb h kq
  unfold fDiv at h
  split at h
  · rename_i i j
    rcases h.1 with c | c
    · exact .inl ⟨_, _, ha, hb, c, kq _ _ H Res.int h.2⟩
    · have e : i / j = i.fdiv j := (Int.fdiv_eq_ediv_of_nonneg i (by omega)).symm
      exact .inr ⟨_, _, ha, hb, wide_div c.1 c.2 (by decide) (by decide), by show QQ (.int (i / j)) H; rw [e]; exact kq _ _ H Res.int h.2⟩
  · exact h.elim
theorem ok_mod : OpOk K fMod (rI (fun _ j => j ≠ 0) fun i j => .int (i.fmod j)) := by
  intro S H a b x y Qz QQ sh ha hb h kq
  unfold fMod at h
  split at h
  · exact ⟨_, _, ha, hb, h.1, kq _ _ H Res.int h.2⟩
  · exact h.elim
theorem ok_pow : OpOk K fPow (rI CPow fun i j => .int (i ^ j.toNat)) := by
  intro S H a b x y Qz QQ sh ha hb h kq
  unfold fPow at h
  split at h
  · exact ⟨_, _, ha, hb, ⟨h.1, h.2.1, h.2.2.1⟩, kq _ _ H Res.int h.2.2.2⟩
  · exact h.elim
theorem ok_cmp (p : Int → Int → Bool) : OpOk K (fCmp p) (rI0 fun i j => .bl (p i j)) := by
  intro S H a b x y Qz QQ sh ha hb h kq
  unfold fCmp at h
  split at h
  · exact ⟨_, _, ha, hb, kq _ _ H Res.bl h⟩
  · exact h.elim
theorem ok_eq : OpOk K fEq (rEqD K) := fun S H a b x y Qz QQ sh ha hb h kq => ⟨a.py, b.py, Rp.dp a 8 x (ha.all sh) h.1, Rp.dp b 8 y (hb.all sh) h.2.1, D.shaped (by decide) h.1, D.shaped (by decide) h.2.1, kq _ _ H Res.bl h.2.2⟩
theorem ok_ne : OpOk K fNe (rNeD K) := fun S H a b x y Qz QQ sh ha hb h kq => ⟨a.py, b.py, Rp.dp a 8 x (ha.all sh) h.1, Rp.dp b 8 y (hb.all sh) h.2.1, D.shaped (by decide) h.1, D.shaped (by decide) h.2.1, kq _ _ H Res.bl h.2.2⟩
theorem non_iff {a : D} {x : V} (h : Rp1 K S H a x) : decide (x = .non) = a.isN := by
  cases a with
  | non => have e : x = .non := h; rw [e]; rfl
  | bl b => have e : x = .bl b := h; rw [e]; rfl
  | int i => have e : x = .int i := h; rw [e]; rfl
  | str z => have e : x = .str z := h; rw [e]; rfl
  | lst xs => obtain ⟨p, _, e, _⟩ := h; rw [e]; rfl
  | tup xs => obtain ⟨p, _, e, _⟩ := h; rw [e]; rfl
  | scr xs => obtain ⟨p, e, _⟩ := h; rw [e]; rfl
  | dct xs => obtain ⟨p, _, e, _⟩ := h; rw [e]; rfl
  | ins C fs => obtain ⟨p, _, _, e, _⟩ := h; rw [e]; rfl
  | ptr a => have e : x = .ref a := h; rw [e]; rfl
  | tkd xs => obtain ⟨p, _, e, _⟩ := h; rw [e]; rfl
  | exc c a d fs => have e : x = .ref a := h.1; rw [e]; rfl
theorem ok_isN : OpOk K fIsN (fun x y H Q => y = .non ∧ Q (.bl (decide (x = .non))) H) := by
  intro S H a b x y Qz QQ sh ha hb h kq
  cases b with
  | non => exact ⟨hb, by rw [non_iff ha]; exact kq _ _ H Res.bl h⟩
  | _ => exact False.elim h
theorem ok_notN : OpOk K fNotN (fun x y H Q => y = .non ∧ Q (.bl (!decide (x = .non))) H) := by
  intro S H a b x y Qz QQ sh ha hb h kq
  cases b with
  | non => exact ⟨hb, by rw [non_iff ha]; exact kq _ _ H Res.bl h⟩
  | _ => exact False.elim h
end

/-! ### in -/
def D.flat : D → Bool
  | .int _ => true
  | .str _ => true
  | .bl _ => true
  | .non => true
  | _ => false
def keyD : D → Option Key
  | .int i => some (.inl i)
  | .str x => some (.inr x)
  | _ => none
def valD (kvs : List (Key × D)) (k : Key) : Option D := (kvs.find? fun kv => decide (kv.1 = k)).map (·.2)
def keysT : List D → Option (List Key)
  | [] => some []
  | x :: xs => match keyD x, keysT xs with
    | some k, some ks => some (k :: ks)
    | _, _ => none
def keyT : D → Option (List Key)
  | .tup xs => keysT xs
  | _ => none
def valT (kvs : List (List Key × D)) (k : List Key) : Option D := (kvs.find? fun kv => decide (kv.1 = k)).map (·.2)
def fInB (neg : Bool) (a b : D) (k : DV → Prop) : Prop := match b with
  | .lst xs => a.pl 7 = true ∧ (D.lst xs).pl 8 = true ∧ k (.d (.bl (if neg then !(xs.any fun z => D.eqv z a) else xs.any fun z => D.eqv z a)))
  | .tup xs => a.flat = true ∧ xs.all D.flat = true ∧ k (.d (.bl (if neg then !(xs.any fun z => D.eqv z a) else xs.any fun z => D.eqv z a)))
  | .dct kvs => match keyD a with
    | some q => k (.d (.bl (if neg then !(valD kvs q).isSome else (valD kvs q).isSome)))
    | none => False
  | .tkd kvs => match keyT a with
    | some q => k (.d (.bl (if neg then !(valT kvs q).isSome else (valT kvs q).isSome)))
    | none => False
  | _ => False
abbrev fIn := fInB false
abbrev fNotIn := fInB true
section
variable {X : Cx} {K : PySem.W.Frag} {S H : Hp}
theorem RpK.val {kvs : List (Key × D)} : ∀ {ws : List (Key × V)} {q : Key}, RpK K S kvs ws → (∀ a, valD kvs q = some a → ∃ v, valV ws q = some v ∧ Rp K S a v) ∧ (valD kvs q = none → valV ws q = none) := by
  induction kvs with
  | nil =>
    intro ws q h
    rw [h]
    exact ⟨fun a e => (by cases e), fun _ => rfl⟩
  | cons p kvs ih =>
    intro ws q h
    obtain ⟨k, a0⟩ := p
    obtain ⟨v, us, e, h1, h2⟩ := h
    rw [e]
    by_cases c : k = q
    · rw [valV_pos (p := (k, v)) c]
      have ev : valD ((k, a0) :: kvs) q = some a0 := by simp [valD, List.find?_cons, c]
      rw [ev]
      exact ⟨fun a ea => ⟨v, rfl, (by cases ea; exact h1)⟩, fun z => (by cases z)⟩
    · rw [valV_neg (p := (k, v)) c]
      have ev : valD ((k, a0) :: kvs) q = valD kvs q := by simp [valD, List.find?_cons, c]
      rw [ev]
      exact ih h2
theorem RpT.val {kvs : List (List Key × D)} : ∀ {ws : List (List Key × V)} {q : List Key}, RpT K S kvs ws → (∀ a, valT kvs q = some a → ∃ v, valV ws q = some v ∧ Rp K S a v) ∧ (valT kvs q = none → valV ws q = none) := by
  induction kvs with
  | nil =>
    intro ws q h
    rw [h]
    exact ⟨fun a e => (by cases e), fun _ => rfl⟩
  | cons p kvs ih =>
    intro ws q h
    obtain ⟨k, a0⟩ := p
    obtain ⟨v, us, e, h1, h2⟩ := h
    rw [e]
    by_cases c : k = q
    · rw [valV_pos (p := (k, v)) c]
      have ev : valT ((k, a0) :: kvs) q = some a0 := by simp [valT, List.find?_cons, c]
      rw [ev]
      exact ⟨fun a ea => ⟨v, rfl, (by cases ea; exact h1)⟩, fun z => (by cases z)⟩
    · rw [valV_neg (p := (k, v)) c]
      have ev : valT ((k, a0) :: kvs) q = valT kvs q := by simp [valT, List.find?_cons, c]
      rw [ev]
      exact ih h2
theorem RpT.valS {kvs : List (List Key × D)} {ws : List (List Key × V)} {q : List Key} (h : RpT K S kvs ws) : (valV ws q).isSome = (valT kvs q).isSome := by
  cases c : valT kvs q with
  | none =>
    rw [(h.val (q := q)).2 c]
    all_goals rfl
  | some a =>
    obtain ⟨v, e, _⟩ := (h.val (q := q)).1 a c
    rw [e]
    all_goals rfl
theorem RpK.valS {kvs : List (Key × D)} {ws : List (Key × V)} {q : Key} (h : RpK K S kvs ws) : (valV ws q).isSome = (valD kvs q).isSome := by
  cases c : valD kvs q with
  | none =>
    rw [(h.val (q := q)).2 c]
    all_goals rfl
  | some a =>
    obtain ⟨v, e, _⟩ := (h.val (q := q)).1 a c
    rw [e]
    all_goals rfl
theorem keyD_kV {a : D} {q : Key} {x : V} (h : keyD a = some q) (hx : Rp1 K S H a x) : x = kV q := by
  cases a with
  | int i => cases h; exact hx
  | str z => cases h; exact hx
  | _ => cases h
theorem keysT_kV : ∀ {xs : List D} {q : List Key} {vs : List V}, keysT xs = some q → RpL K S xs vs → vs = q.map kV
  | [], _, _, h, r => by cases h; exact r
  | x :: xs, q, _, h, ⟨v, ws, e, h1, h2⟩ => by
    unfold keysT at h
    cases c : keyD x with
    | none => simp only [c] at h; cases h
    | some k =>
      cases c2 : keysT xs with
      | none => simp only [c, c2] at h; cases h
      | some ks =>
        simp only [c, c2] at h
        cases h
        have hv : v = kV k := by
          cases x with
          | int i => cases c; exact h1
          | str z => cases c; exact h1
          | _ => cases c
        rw [e, hv, keysT_kV c2 h2]
        rfl
theorem keyT_at {a : D} {q : List Key} {x : V} (sh : Same S H) (h : keyT a = some q) (hx : Rp1 K S H a x) : ∃ b, x = .ref b ∧ H b = some (.tup (q.map kV)) := by
  cases a with
  | tup xs =>
    obtain ⟨p, vs, e, h1, h2⟩ := hx
    exact ⟨p, e, by rw [sh _ _ h1, keysT_kV h h2]⟩
  | _ => cases h
theorem DGet.tR {b p : Addr} {kvs : List (List Key × V)} {k : List Key} (e : Rd H p (.dT kvs)) (eb : H b = some (.tup (k.map kV))) : DGet H p (.ref b) (valV kvs k) := .inr ⟨kvs, k, b, e, rfl, eb, rfl⟩
def rInA (K : PySem.W.Frag) (neg : Bool) : R2 := fun x y H Q => (∃ d ds, Dp K H x d ∧ Dp K H y (.list ds) ∧ SeqAt.shaped d = true ∧ SeqAt.shaped (.list ds) = true ∧ Q (.bl (if neg then !(ds.any fun z => PyData.eqv z d) else ds.any fun z => PyData.eqv z d)) H) ∨
  rIn K neg x y H Q ∨ (∃ a o, y = .ref a ∧ DGet H a x o ∧ Q (.bl (if neg then !o.isSome else o.isSome)) H)
theorem op_inA (hu : X.A.units + 65 < cLine) : OpR X (compareOp .In) (rInA X.K false) := by
  intro pp s σ H x y v u Q I rx ry h
  rcases h with h | h | ⟨a, o, rfl, g, q⟩
  · exact op_inD hu pp s σ H x y v u Q I rx ry h
  · exact op_in_seq pp s σ H x y v u Q I rx ry h
  · obtain rfl : u = Value.ref a := ry
    exact d_in (by omega) I g rx fun s3 I3 => ⟨.bl o.isSome, H, I3, rfl, q⟩
theorem op_notInA (hu : X.A.units + 65 < cLine) : OpR X (compareOp .NotIn) (rInA X.K true) := by
  intro pp s σ H x y v u Q I rx ry h
  rcases h with h | h | ⟨a, o, rfl, g, q⟩
  · exact op_notInD hu pp s σ H x y v u Q I rx ry h
  · exact op_notIn_seq pp s σ H x y v u Q I rx ry h
  · obtain rfl : u = Value.ref a := ry
    exact d_notIn (by omega) I g rx fun s3 I3 => ⟨.bl (!o.isSome), H, I3, rfl, q⟩
theorem flat_V {a : D} {x : V} (h : a.flat = true) (hx : Rp K S a x) : flatV x = true := by
  cases a with
  | int i => have e : x = .int i := hx; rw [e]; rfl
  | str i => have e : x = .str i := hx; rw [e]; rfl
  | bl i => have e : x = .bl i := hx; rw [e]; rfl
  | non => have e : x = .non := hx; rw [e]; rfl
  | _ => cases h
theorem flat_eqv {a b : D} {x y : V} (h : a.flat = true) (h' : b.flat = true) (hx : Rp K S a x) (hy : Rp K S b y) : eqV y x = D.eqv b a := by
  cases a with
  | int i =>
    have e : x = .int i := hx
    cases b with
    | int j => have e' : y = .int j := hy; rw [e, e']; show decide _ = (_ == _); rw [Bool.beq_eq_decide_eq]
    | str j => have e' : y = .str j := hy; rw [e, e']; rfl
    | bl j => have e' : y = .bl j := hy; rw [e, e']; cases j <;> rfl
    | non => have e' : y = .non := hy; rw [e, e']; rfl
    | _ => cases h'
  | str i =>
    have e : x = .str i := hx
    cases b with
    | int j => have e' : y = .int j := hy; rw [e, e']; rfl
    | str j => have e' : y = .str j := hy; rw [e, e']; rfl
    | bl j => have e' : y = .bl j := hy; rw [e, e']; rfl
    | non => have e' : y = .non := hy; rw [e, e']; rfl
    | _ => cases h'
  | bl i =>
    have e : x = .bl i := hx
    cases b with
    | int j => have e' : y = .int j := hy; rw [e, e']; cases i <;> rfl
    | str j => have e' : y = .str j := hy; rw [e, e']; rfl
    | bl j => have e' : y = .bl j := hy; rw [e, e']; cases i <;> cases j <;> rfl
    | non => have e' : y = .non := hy; rw [e, e']; rfl
    | _ => cases h'
  | non =>
    have e : x = .non := hx
    cases b with
    | int j => have e' : y = .int j := hy; rw [e, e']; rfl
    | str j => have e' : y = .str j := hy; rw [e, e']; rfl
    | bl j => have e' : y = .bl j := hy; rw [e, e']; rfl
    | non => have e' : y = .non := hy; rw [e, e']; rfl
    | _ => cases h'
  | _ => cases h
theorem any_py {a : D} : ∀ xs : List D, ((D.pyL xs).any fun z => PyData.eqv z a.py) = xs.any fun z => D.eqv z a
  | [] => by simp [D.pyL]
  | x :: xs => by
    have ih := any_py (a := a) xs
    simp only [D.pyL, List.any_cons, ih]
    rfl
theorem inV_any {a : D} {x : V} (h : a.flat = true) (hx : Rp K S a x) : ∀ {xs : List D} {vs : List V}, xs.all D.flat = true → RpL K S xs vs → vs.all flatV = true ∧ inV x vs = xs.any fun z => D.eqv z a
  | [], vs, _, p => by
    have e : vs = [] := p
    rw [e]
    exact ⟨rfl, rfl⟩
  | b :: xs, _, ha, ⟨v, ws, e, h1, h2⟩ => by
    rw [List.all_cons, Bool.and_eq_true] at ha
    obtain ⟨i1, i2⟩ := inV_any h hx ha.2 h2
    rw [e]
    refine ⟨?_, ?_⟩
    · rw [List.all_cons, flat_V ha.1 h1, i1]
      all_goals rfl
    · have i2' : (ws.any fun y => eqV y x) = xs.any fun z => D.eqv z a := i2
      show ((v :: ws).any fun y => eqV y x) = _
      rw [List.any_cons, List.any_cons, i2', flat_eqv h ha.1 hx h1]
theorem flat_all {a : D} {x : V} (h : a.flat = true) (hx : Rp1 K S H a x) : Rp K S a x := by
  cases a with
  | lst _ => cases h
  | dct _ => cases h
  | ins _ _ => cases h
  | tkd _ => cases h
  | _ => exact hx
theorem ok_in (neg : Bool) : OpOk K (fInB neg) (rInA K neg) := by
  intro S H a b x y Qz QQ sh ha hb h kq
  cases b with
  | lst xs =>
    obtain ⟨h1, h2, h3⟩ := h
    have e1 : (D.lst xs).py = .list (D.pyL xs) := by simp [D.py]
    refine .inl ⟨a.py, D.pyL xs, Rp.dp a 7 x (ha.all sh) h1, by rw [← e1]; exact Rp.dp _ 8 y (hb.all sh) h2, D.shaped (by decide) h1, by rw [← e1]; exact D.shaped (by decide) h2, ?_⟩
    rw [any_py]
    exact kq _ _ H Res.bl h3
  | tup xs =>
    obtain ⟨h1, h2, h3⟩ := h
    obtain ⟨p, vs, e, h4, h5⟩ := hb
    have fx := flat_all h1 ha
    obtain ⟨i1, i2⟩ := inV_any h1 fx h2 h5
    refine .inr (.inl ⟨p, vs, e, .inr (sqT_mono sh h4), flat_V h1 fx, i1, ?_⟩)
    rw [i2]
    exact kq _ _ H Res.bl h3
  | dct kvs =>
    obtain ⟨p, ws, e, h4, h5⟩ := hb
    have h' : match keyD a with
      | some q => Qz (.d (.bl (if neg then !(valD kvs q).isSome else (valD kvs q).isSome)))
      | none => False := h
    cases c : keyD a with
    | none => simp only [c] at h'
    | some q =>
      simp only [c] at h'
      refine .inr (.inr ⟨p, _, e, (by rw [keyD_kV c ha]; exact (Or.inl ⟨_, q, h4, rfl, rfl⟩)), ?_⟩)
      rw [h5.valS]
      exact kq _ _ H Res.bl h'
  | tkd kvs =>
    obtain ⟨p, ws, e, h4, h5⟩ := hb
    have h' : match keyT a with
      | some q => Qz (.d (.bl (if neg then !(valT kvs q).isSome else (valT kvs q).isSome)))
      | none => False := h
    cases c : keyT a with
    | none => simp only [c] at h'
    | some q =>
      simp only [c] at h'
      obtain ⟨b, eb, hb2⟩ := keyT_at sh c ha
      refine .inr (.inr ⟨p, _, e, (by rw [eb]; exact DGet.tR (k := q) h4 hb2), ?_⟩)
      rw [h5.valS]
      exact kq _ _ H Res.bl h'
  | _ => exact False.elim h
end

/-! ### subscripts -/
/-- the i-th item, from the end where i is negative -/
def fIx (a b : D) (k : DV → Prop) : Prop := match a, b with
  | .lst xs, .int i => match atI xs i with
    | some c => k (.d c)
    | none => False
  | .tup xs, .int i => match atI xs i with
    | some c => k (.d c)
    | none => False
  | .scr ns, .int i => match atI ns i with
    | some n => k (.d (.int n))
    | none => False
  | .str z, .int i => z.length ≤ sizeLine ∧ match atI z.cps.toList i with
    | some c => k (.d (.str ⟨#[c]⟩))
    | none => False
  | .dct kvs, b => match keyD b with
    | some q => match valD kvs q with
      | some c => k (.d c)
      | none => False
    | none => False
  | .tkd kvs, b => match keyT b with
    | some q => match valT kvs q with
      | some c => k (.d c)
      | none => False
    | none => False
  | _, _ => False
section
variable {X : Cx} {K : PySem.W.Frag} {S H : Hp}
theorem RpL.atI {xs : List D} {vs : List V} {i : Int} {c : D} (h : RpL K S xs vs) (e : L2.atI xs i = some c) : ∃ v, L2.atI vs i = some v ∧ Rp K S c v := by
  unfold L2.atI at e ⊢
  rw [h.length]
  cases q : ixN xs.length i with
  | none => rw [q] at e; cases e
  | some j =>
    rw [q] at e
    exact h.get e
theorem atI_map {α β : Type} (f : α → β) (xs : List α) (i : Int) : L2.atI (xs.map f) i = (L2.atI xs i).map f := by
  unfold L2.atI
  rw [List.length_map]
  cases ixN xs.length i with
  | none => rfl
  | some j => simp
def rIxD : R2 := fun x y H Q => ∃ a v, x = .ref a ∧ DGet H a y (some v) ∧ Q v H
open PyProof.Rows PySem.Spec in
theorem tail_go {prog : Program} {w : World} {A : Around} {E : Value → Shared → Prop} {s : Shared} {e1 e2 : Expr} {o i : Value} {T id : String} {Q : Value → Shared → Prop} (hT : s.TypeIs o T) (hl : typeLookup (.type T) "__getitem__" = pure (some (.builtin id)))
    (h : wpAny (model prog w) A (getItem o i) Q E s) (hs : subscripted e2 false o i = operate [o, i] (getItem o i)) : wpAny (model prog w) A (subscriptTail e1 e2 o i) Q E s := by
  have fin : wpAny (model prog w) A (subscripted e2 false o i) (fun r s3 => wpAny (model prog w) A (letTemporaryGo e1 o r >>= fun _ => pure r) Q E s3) E s := by
    rw [hs]
    refine wpAny_operating (wpAny_mono h (fun r s3 h3 => ?_) fun _ _ z => z)
    exact wpAny_bind (wpAny_letTemporaryGo (wpAny_pure h3))
  unfold subscriptTail
  apply wpAny_bind
  rw [getitemInPython_of_ne hT.not_modules]
  apply wpAny_bind
  refine wpAny_specialOf hT hl ?_
  first
    | exact wpAny_pure (wpAny_bind fin)
    | (apply wpAny_bind; exact wpAny_pure (wpAny_bind fin))
    | (apply wpAny_bind; exact fin)
theorem ix_dct (hu : X.A.units + 1 < cLine) : IxR X rIxD := by
  intro value slice pp s σ H x y v u Q I rx ry ⟨a, z, ex, g, q⟩ hs
  subst ex
  obtain rfl : v = Value.ref a := rx
  exact tail_go (dict_typeIs I g) PySem.F.slot_dict_getitem.lookup (d_getItem hu I g ry fun w s3 I3 rw' => ⟨z, H, I3, rw', q⟩) hs
abbrev rIxA (K : PySem.W.Frag) : R2 := fun x y H Q => rIx K x y H Q ∨ rIxD x y H Q
theorem ix_all (hu : X.A.units + 1 < cLine) : IxR X (rIxA X.K) := ix_seq.or (ix_dct hu)
theorem ok_ix : OpOk K fIx (rIxA K) := by
  intro S H a b x y Qz QQ sh ha hb h kq
  cases a with
  | lst xs =>
    cases b with
    | int i =>
      obtain ⟨p, vs, e, h1, h2⟩ := ha
      have h : match L2.atI xs i with | some c => Qz (.d c) | none => False := h
      cases c : L2.atI xs i with
      | none => simp only [c] at h
      | some z =>
        simp only [c] at h
        obtain ⟨v, e1, e2⟩ := h2.atI c
        exact .inl (.inl ⟨p, vs, i, v, e, hb, SqL.of h1, e1, kq v _ H (.d e2) h⟩)
    | _ => exact False.elim h
  | tup xs =>
    cases b with
    | int i =>
      obtain ⟨p, vs, e, h1, h2⟩ := ha
      have h : match L2.atI xs i with | some c => Qz (.d c) | none => False := h
      cases c : L2.atI xs i with
      | none => simp only [c] at h
      | some z =>
        simp only [c] at h
        obtain ⟨v, e1, e2⟩ := h2.atI c
        exact .inl (.inr (.inl ⟨p, vs, i, v, e, hb, sqT_mono sh h1, e1, kq v _ H (.d e2) h⟩))
    | _ => exact False.elim h
  | scr ns =>
    cases b with
    | int i =>
      obtain ⟨p, e, h1⟩ := ha
      have h : match L2.atI ns i with | some c => Qz (.d (.int c)) | none => False := h
      cases c : L2.atI ns i with
      | none => simp only [c] at h
      | some z =>
        simp only [c] at h
        exact .inl (.inl ⟨p, _, i, .int z, e, hb, sh.seq h1, (by rw [atI_map, c]; rfl), kq _ _ H Res.int h⟩)
    | _ => exact False.elim h
  | str z =>
    cases b with
    | int i =>
      have h : z.length ≤ sizeLine ∧ match L2.atI z.cps.toList i with | some c => Qz (.d (.str ⟨#[c]⟩)) | none => False := h
      cases c : L2.atI z.cps.toList i with
      | none => simp only [c] at h; exact h.2.elim
      | some w =>
        simp only [c] at h
        exact .inl (.inr (.inr ⟨z, i, w, ha, hb, h.1, c, kq _ _ H Res.str h.2⟩))
    | _ => exact False.elim h
  | dct kvs =>
    obtain ⟨p, ws, e, h4, h5⟩ := ha
    have h : match keyD b with | some q => (match valD kvs q with | some c => Qz (.d c) | none => False) | none => False := by
      cases b <;> exact h
    cases c : keyD b with
    | none => simp only [c] at h
    | some q =>
      simp only [c] at h
      cases c2 : valD kvs q with
      | none => simp only [c2] at h
      | some z =>
        simp only [c2] at h
        obtain ⟨v, e1, e2⟩ := (h5.val (q := q)).1 z c2
        refine .inr ⟨p, v, e, ?_, kq v _ H (.d e2) h⟩
        rw [keyD_kV c hb, ← e1]
        exact (Or.inl ⟨_, q, h4, rfl, rfl⟩)
  | tkd kvs =>
    obtain ⟨p, ws, e, h4, h5⟩ := ha
    have h : match keyT b with | some q => (match valT kvs q with | some c => Qz (.d c) | none => False) | none => False := by
      cases b <;> exact h
    cases c : keyT b with
    | none => simp only [c] at h
    | some q =>
      simp only [c] at h
      cases c2 : valT kvs q with
      | none => simp only [c2] at h
      | some z =>
        simp only [c2] at h
        obtain ⟨v, e1, e2⟩ := (h5.val (q := q)).1 z c2
        obtain ⟨bb, eb, hb2⟩ := keyT_at sh c hb
        refine .inr ⟨p, v, e, ?_, kq v _ H (.d e2) h⟩
        rw [eb, ← e1]
        exact DGet.tR (k := q) h4 hb2
  | _ => exact False.elim h
end
section
variable {X : Cx} {W : WX} {a b : Expr} {pos : Pos} {da db : DTE} {f : D → D → (DV → Prop) → Prop} {r : R2}
theorem d_ixR (hr : IxR X r) (hf : OpOk X.K f r) (ha : DE X W a da) (hb : DE X W b db) (hs : PlainIx b) : DE X W (.Subscript a b pos) (dBin f da db) := pe_imp (pe_ix hr ha hb hs) fun _ _ _ h => bin_ok hf h
theorem d_ix (hu : X.A.units + 1 < cLine) (ha : DE X W a da) (hb : DE X W b db) (hs : PlainIx b := by intro _ _; rfl) : DE X W (.Subscript a b pos) (dBin fIx da db) := d_ixR (ix_all hu) ok_ix ha hb hs
theorem d_add (ha : DE X W a da) (hb : DE X W b db) : DE X W (.BinOp a .Add b pos) (dBin fAdd da db) := d_bin op_addA ok_add ha hb
theorem d_sub (ha : DE X W a da) (hb : DE X W b db) : DE X W (.BinOp a .Sub b pos) (dBin fSub da db) := d_bin op_sub ok_sub ha hb
theorem d_mul (ha : DE X W a da) (hb : DE X W b db) : DE X W (.BinOp a .Mult b pos) (dBin fMul da db) := d_bin op_mulA ok_mul ha hb
theorem d_div (ha : DE X W a da) (hb : DE X W b db) : DE X W (.BinOp a .FloorDiv b pos) (dBin fDiv da db) := d_bin op_divA ok_div ha hb
theorem d_mod (ha : DE X W a da) (hb : DE X W b db) : DE X W (.BinOp a .Mod b pos) (dBin fMod da db) := d_bin op_modN ok_mod ha hb
theorem d_pow (ha : DE X W a da) (hb : DE X W b db) : DE X W (.BinOp a .Pow b pos) (dBin fPow da db) := d_bin op_pow ok_pow ha hb
end
/-- a one-place operation -/
theorem un_ok {K : PySem.W.Frag} {W : WX} {da : DTE} {f : D → (DV → Prop) → Prop} {r : V → Hp → VK → Prop} (ho : UnOk K f r) {σ : St} {H : Hp} {QQ : VK} (h : tD K W (dUn f da) σ H QQ) : tD K W da σ H (fun x H1 => r x H1 QQ) := by
  obtain ⟨F, S, ρ, Q, Ee, rr, h, kq, ke⟩ := h
  refine ⟨F, S, ρ, _, Ee, rr, h, fun v x S1 ρ1 H1 g1 r1 vr1 q1 => ?_, ke⟩
  obtain ⟨a', p1, q2⟩ := VR.pk r1 vr1 q1
  refine ho S1 H1 a' v _ QQ r1.s p1 q2 fun z dz H4 rs q6 => ?_
  obtain ⟨S5, g5, r5, vr5⟩ := rs.ok r1
  exact kq z dz S5 ρ1 H4 (g1.trans g5) r5 vr5 q6
theorem ok_neg {K : PySem.W.Frag} : UnOk K fNeg (rU fun i => .int (-i)) := by
  intro S H a x Qz QQ sh ha h kq
  cases a with
  | int i => exact ⟨i, ha, kq _ _ H Res.int h⟩
  | _ => exact False.elim h
theorem d_neg {X : Cx} {W : WX} {a : Expr} {pos : Pos} {da : DTE} (ha : DE X W a da) : DE X W (.UnaryOp .USub a pos) (dUn fNeg da) := pe_imp (pe_un un_neg ha) fun _ _ _ h => un_ok ok_neg h
end DW
/-! DWg: built-ins, methods of lists and dicts, stores, slices. -/
namespace DW
open PySem L2

/-! ### built-ins of one or two arguments -/
section
variable {X : Cx} {W : WX} {e e2 : Expr} {x : Str} {p pos : Pos} {da db : DTE} {id T : String} {r : List V → Hp → VK → Prop} {f : D → (DV → Prop) → Prop} {f2 : D → D → (DV → Prop) → Prop}
/-- no star stands among the arguments (what the layer's rules ask, once) -/
abbrev A1 (X : Cx) (e : Expr) (pos : Pos) : Prop := starEach (e :: []) X.env = (false, eval e X.env) :: starEach [] X.env ∧ (backTo pos (starEach [] X.env)).any (·.1) = false
abbrev A2 (X : Cx) (e e2 : Expr) (pos : Pos) : Prop := starEach (e :: [e2]) X.env = (false, eval e X.env) :: starEach [e2] X.env ∧ starEach (e2 :: []) X.env = (false, eval e2 X.env) :: starEach [] X.env ∧ (backTo pos (starEach [e2] X.env)).any (·.1) = false
theorem d_b1 (hc : CallR X (.builtin id) r) (hf : UnOk X.K f (fun x => r [x])) (hm : X.mg x = none) (ha : DE X W e da) (hg : Gl X x) (hv : bootBuiltins x = some (.builtin id)) (hn : x ≠ "__name__") (hdb : (x == ("__debug__" : Str)) = false) (h1 : A1 X e pos) :
    DE X W (.Call (.Name x p) [e] [] pos) (dUn f da) := pe_imp (pe_callB hc hg hm hv (pa_cons ha pa_nil h1.1) hn hdb h1.1 h1.2) fun _ _ _ h => un_ok hf h
theorem d_t1 (hc : CallR X (.type T) r) (hf : UnOk X.K f (fun x => r [x])) (hm : X.mg x = none) (ha : DE X W e da) (hg : Gl X x) (hv : bootBuiltins x = some (.type T)) (hn : x ≠ "__name__") (hdb : (x == ("__debug__" : Str)) = false) (h1 : A1 X e pos) :
    DE X W (.Call (.Name x p) [e] [] pos) (dUn f da) := pe_imp (pe_callTy hc hg hm hv (pa_cons ha pa_nil h1.1) hn hdb h1.1 h1.2) fun _ _ _ h => un_ok hf h
theorem d_b2 (hc : CallR X (.builtin id) r) (hf : OpOk X.K f2 (fun x y => r [x, y])) (hm : X.mg x = none) (ha : DE X W e da) (hb : DE X W e2 db) (hg : Gl X x) (hv : bootBuiltins x = some (.builtin id)) (hn : x ≠ "__name__") (hdb : (x == ("__debug__" : Str)) = false) (h1 : A2 X e e2 pos) :
    DE X W (.Call (.Name x p) [e, e2] [] pos) (dBin f2 da db) := pe_imp (pe_callB hc hg hm hv (pa_cons ha (pa_cons hb pa_nil h1.2.1) h1.1) hn hdb h1.1 h1.2.2) fun _ _ _ h => bin_ok (r := fun x y => r [x, y]) hf h
end
def fLen (a : D) (k : DV → Prop) : Prop := match a with
  | .lst xs => k (.d (.int xs.length))
  | .tup xs => k (.d (.int xs.length))
  | .scr xs => k (.d (.int xs.length))
  | .str z => z.length ≤ sizeLine ∧ k (.d (.int z.length))
  | .dct xs => k (.d (.int xs.length))
  | _ => False
/-- the ints of a list -/
def intsD : List D → Option (List Int)
  | [] => some []
  | .int i :: xs => (intsD xs).map (i :: ·)
  | _ :: _ => none
theorem intsD_map : ∀ ns : List Int, intsD (ns.map D.int) = some ns
  | [] => rfl
  | n :: ns => by
    show (intsD (ns.map D.int)).map (n :: ·) = some (n :: ns)
    rw [intsD_map ns]
    rfl
theorem intsD_of : ∀ {xs : List D} {ns : List Int}, intsD xs = some ns → xs = ns.map D.int
  | [], _, h => by cases h; rfl
  | x :: xs, ns, h => by
    cases x with
    | int i =>
      have h : (intsD xs).map (i :: ·) = some ns := h
      cases c : intsD xs with
      | none => rw [c] at h; cases h
      | some ms =>
        rw [c] at h
        cases h
        rw [intsD_of c]
        rfl
    | _ => cases h
def fSum (a : D) (k : DV → Prop) : Prop := match a with
  | .lst xs => match intsD xs with
    | some ns => k (.d (.int ns.sum))
    | none => False
  | _ => False
def fList (a : D) (k : DV → Prop) : Prop := match a with
  | .lst xs => k (.fr (.l xs))
  | .tup xs => k (.fr (.l xs))
  | _ => False
def fTuple (a : D) (k : DV → Prop) : Prop := match a with
  | .lst xs => k (.d (.tup xs))
  | .tup xs => k (.d (.tup xs))
  | _ => False
def fMin2 (a b : D) (k : DV → Prop) : Prop := match a, b with
  | .int i, .int j => k (.d (.int (if j < i then j else i)))
  | _, _ => False
def fMax2 (a b : D) (k : DV → Prop) : Prop := match a, b with
  | .int i, .int j => k (.d (.int (if j > i then j else i)))
  | _, _ => False
/-- the least of a list of ints -/
def fMinL (a : D) (k : DV → Prop) : Prop := match a with
  | .lst xs => match intsD xs with
    | some ns => 0 < ns.length ∧ ∀ m, m ∈ ns → (∀ y, y ∈ ns → m ≤ y) → k (.d (.int m))
    | none => False
  | _ => False
def fAbs (a : D) (k : DV → Prop) : Prop := match a with
  | .int i => k (.d (.int (if i < 0 then -i else i)))
  | _ => False
def fInt (a : D) (k : DV → Prop) : Prop := match a with
  | .int i => k (.d (.int i))
  | .bl b => k (.d (.int (if b then 1 else 0)))
  | _ => False
/-- Python's order of alike data -/
def leD (a b : D) : Bool := PySem.W.dataLe false D.py a b
def fSorted (a : D) (k : DV → Prop) : Prop := match a with
  | .lst xs => xs.length ≤ sizeLine ∧ PySem.W.AllAlike (xs.map D.py) ∧ PySem.W.Sortable (xs.map D.py) ∧ (∀ x, x ∈ xs → x.pl 6 = true) ∧ k (.fr (.l (xs.mergeSort leD)))
  | _ => False
section
variable {X : Cx} {K : PySem.W.Frag} {S H : Hp}
abbrev rLenA (K : PySem.W.Frag) : List V → Hp → VK → Prop := fun xs H Q => (∃ p ys, xs = [.ref p] ∧ (SqL K H p ys ∨ SqT K H p ys) ∧ Q (.int ys.length) H) ∨ (∃ z, xs = [.str z] ∧ z.length ≤ sizeLine ∧ Q (.int z.length) H) ∨ (∃ d kvs, xs = [.ref d] ∧ Rd H d (.dK kvs) ∧ Q (.int kvs.length) H)
theorem call_lenA : CallR X (.builtin "len") (rLenA X.K) := by
  intro pp s σ H xs us Q I r h
  rcases h with h | h | ⟨d, kvs, rfl, e, q⟩
  · exact call_len_seq pp s σ H xs us Q I r h
  · exact call_len_str pp s σ H xs us Q I r h
  · obtain ⟨u, rfl, rx⟩ := Vals.one r
    obtain rfl : u = Value.ref d := rx
    exact d_len I e fun t s' I' => ⟨.int kvs.length, H, I', ⟨t, rfl⟩, q⟩
theorem ok_len : UnOk K fLen (fun x => rLenA K [x]) := by
  intro S H a x Qz QQ sh ha h kq
  cases a with
  | lst xs =>
    obtain ⟨p, vs, e, h1, h2⟩ := ha
    exact .inl ⟨p, vs, (by rw [e]), .inl (SqL.of h1), by rw [h2.length]; exact kq _ _ H Res.int h⟩
  | tup xs =>
    obtain ⟨p, vs, e, h1, h2⟩ := ha
    exact .inl ⟨p, vs, (by rw [e]), .inr (sqT_mono sh h1), by rw [h2.length]; exact kq _ _ H Res.int h⟩
  | scr xs =>
    obtain ⟨p, e, h1⟩ := ha
    exact .inl ⟨p, _, (by rw [e]), .inl (sh.seq h1), by rw [List.length_map]; exact kq _ _ H Res.int h⟩
  | str z =>
    have e : x = .str z := ha
    exact .inr (.inl ⟨z, (by rw [e]), h.1, kq _ _ H Res.int h.2⟩)
  | dct xs =>
    obtain ⟨p, vs, e, h1, h2⟩ := ha
    exact .inr (.inr ⟨p, vs, (by rw [e]), h1, by rw [h2.length]; exact kq _ _ H Res.int h⟩)
  | _ => exact False.elim h
theorem ok_sum : UnOk K fSum (fun x => rSum K [x]) := by
  intro S H a x Qz QQ sh ha h kq
  cases a with
  | lst xs =>
    obtain ⟨p, vs, e, h1, h2⟩ := ha
    have h : match intsD xs with | some ns => Qz (.d (.int ns.sum)) | none => False := h
    cases c : intsD xs with
    | none => simp only [c] at h
    | some ns =>
      simp only [c] at h
      rw [intsD_of c] at h2
      rw [RpL.int_inv h2] at h1
      exact ⟨p, ns, (by rw [e]), SqL.of h1, kq _ _ H Res.int h⟩
  | _ => exact False.elim h
theorem ok_list : UnOk K fList (fun x H Q => ∃ p ys, [x] = [V.ref p] ∧ (SqL K H p ys ∨ SqT K H p ys) ∧ ∀ l, H l = none → Q (.ref l) (upd H l (.lst ys))) := by
  intro S H a x Qz QQ sh ha h kq
  cases a with
  | lst xs =>
    obtain ⟨p, vs, e, h1, h2⟩ := ha
    exact ⟨p, vs, (by rw [e]), .inl (SqL.of h1), fun l hl => kq _ _ _ (Res.lst hl h2) h⟩
  | tup xs =>
    obtain ⟨p, vs, e, h1, h2⟩ := ha
    exact ⟨p, vs, (by rw [e]), .inr (sqT_mono sh h1), fun l hl => kq _ _ _ (Res.lst hl h2) h⟩
  | _ => exact False.elim h
theorem ok_tuple : UnOk K fTuple (fun x H Q => ∃ p ys, [x] = [V.ref p] ∧ ((SqL K H p ys ∧ ∀ l, H l = none → Q (.ref l) (upd H l (.tup ys))) ∨ (SqT K H p ys ∧ Q (.ref p) H))) := by
  intro S H a x Qz QQ sh ha h kq
  cases a with
  | lst xs =>
    obtain ⟨p, vs, e, h1, h2⟩ := ha
    exact ⟨p, vs, (by rw [e]), .inl ⟨SqL.of h1, fun l hl => kq _ _ _ (Res.tup hl h2) h⟩⟩
  | tup xs =>
    obtain ⟨p, vs, e, h1, h2⟩ := ha
    exact ⟨p, vs, (by rw [e]), .inr ⟨sqT_mono sh h1, kq _ _ _ (.d (c := .tup xs) ⟨p, vs, rfl, h1, h2⟩) h⟩⟩
  | _ => exact False.elim h
theorem ok_min2 : OpOk K fMin2 (fun x y H Q => ∃ i j, [x, y] = [V.int i, V.int j] ∧ Q (.int (if j < i then j else i)) H) := by
  intro S H a b x y Qz QQ sh ha hb h kq
  unfold fMin2 at h
  split at h
  · have e1 : x = .int _ := ha
    have e2 : y = .int _ := hb
    exact ⟨_, _, (by rw [e1, e2]), kq _ _ H Res.int h⟩
  · exact h.elim
theorem ok_minL : UnOk K fMinL (fun x => rMin K [x]) := by
  intro S H a x Qz QQ sh ha h kq
  cases a with
  | lst xs =>
    obtain ⟨p, vs, e, h1, h2⟩ := ha
    have h : match intsD xs with | some ns => 0 < ns.length ∧ ∀ m, m ∈ ns → (∀ y, y ∈ ns → m ≤ y) → Qz (.d (.int m)) | none => False := h
    cases c : intsD xs with
    | none => simp only [c] at h
    | some ns =>
      simp only [c] at h
      rw [intsD_of c] at h2
      rw [RpL.int_inv h2] at h1
      exact ⟨p, ns, (by rw [e]), SqL.of h1, h.1, fun m h3 h4 => kq _ _ H Res.int (h.2 m h3 h4)⟩
  | _ => exact False.elim h
open PySem.Spec PyProof.Rows in
theorem ok_int1 : UnOk K fInt (fun x H Q => (∃ i, [x] = [V.int i] ∧ Q (.int i) H) ∨ ∃ b, [x] = [V.bl b] ∧ Q (.int (b2i b)) H) := by
  intro S H a x Qz QQ sh ha h kq
  cases a with
  | int i =>
    have e : x = .int i := ha
    exact .inl ⟨i, (by rw [e]), kq _ _ H Res.int h⟩
  | bl b =>
    have e : x = .bl b := ha
    exact .inr ⟨b, (by rw [e]), kq _ _ H Res.int h⟩
  | _ => exact False.elim h
/-- sorted(xs) of alike data -/
def rSortedD (K : PySem.W.Frag) : List V → Hp → VK → Prop := fun vs H Q => ∃ (a : Addr) (ys : List V) (ds : List D), vs = [V.ref a] ∧ SqL K H a ys ∧ RpL K H ds ys ∧ PySem.W.AllAlike (ds.map D.py) ∧ PySem.W.Sortable (ds.map D.py) ∧ (∀ x, x ∈ ds → x.pl 6 = true) ∧
  ∀ p, H p = none → Q (.ref p) (upd H p (.lst (((ds.zip ys).mergeSort fun a b => leD a.1 b.1).map (·.2))))
theorem each_zip {σ : St} {pp : List (Addr × Obj)} {s : Shared} (I : Inv X pp σ H s) : ∀ {ds : List D} {ys : List V} {us : List Value}, RpL X.K H ds ys → Vals ys us → (∀ x, x ∈ ds → x.pl 6 = true) → PySem.W.EachIs (fun (v : Value) (b : D × V) => RelV b.2 v ∧ ∃ as, Reads s.heap v b.1.py as) us (ds.zip ys)
  | [], _, _, h, r, _ => by
    have e : _ = ([] : List V) := h
    subst e
    cases r
    exact .nil
  | d :: ds, _, _, ⟨v, ws, e, h1, h2⟩, r, hp => by
    subst e
    cases r with
    | cons r1 r2 => exact .cons ⟨r1, Dp.reads I _ v _ (Rp.dp d 6 v h1 (hp d List.mem_cons_self)) r1⟩ (each_zip I h2 r2 fun x hx => hp x (List.mem_cons_of_mem _ hx))
theorem vals_each : ∀ {us : List Value} {bs : List (D × V)}, PySem.W.EachIs (fun (v : Value) (b : D × V) => RelV b.2 v) us bs → Vals (bs.map (·.2)) us
  | _, _, .nil => .nil
  | _, _, .cons h t => .cons h (vals_each t)
theorem zip_fst {α β : Type} : ∀ {xs : List α} {ys : List β}, ys.length = xs.length → (xs.zip ys).map (·.1) = xs
  | [], _, _ => rfl
  | x :: xs, [], h => by simp at h
  | x :: xs, y :: ys, h => by
    rw [List.zip_cons_cons, List.map_cons, zip_fst (by simpa using h)]
theorem pl_depth {x : D} (h : x.pl 6 = true) : x.py.depth ≤ 6 := (D.pl_can x 6 h).2
theorem cr_sortedD (hu : X.A.units + 64 < cLine) : CallR X (.builtin "sorted") (rSortedD X.K) := by
  intro pp s σ H vs us Q I r ⟨a, ys, ds, e, hs, hr, al, so, hp, q⟩
  subst e
  obtain ⟨its, rv, hl, hz⟩ := I.list hs
  rw [Vals.ref1 r]
  have ln := hr.length
  have ee := each_zip I hr rv hp
  have ef : (ds.zip ys).map (fun b => b.1.py) = ds.map D.py := by
    have : (ds.zip ys).map (fun b => b.1.py) = ((ds.zip ys).map (·.1)).map D.py := by rw [List.map_map]; rfl
    rw [this, zip_fst ln]
  refine PySem.W.sorted_data (R := fun v b => RelV b.2 v) (enc := fun b : D × V => b.1.py) (bs := ds.zip ys) hl.isList (ee.mono fun _ _ z => z.1) (ee.mono fun _ _ z => z.2) (by rw [ef]; exact al) (by rw [ef]; exact so) (by rw [List.length_zip, ln, Nat.min_self]; omega) (fun b hb => ?_) fun out h1 h2 => ?_
  · have hb1 : b.1 ∈ ds := (List.of_mem_zip (a := b.1) (b := b.2) hb).1
    have := pl_depth (hp b.1 hb1)
    omega
  · obtain ⟨ep, he'⟩ := PyProof.Rows.sortedAll_at s.heap its out.toArray
    have hv := vals_each h2
    have hlen : (((ds.zip ys).mergeSort fun a b => leD a.1 b.1).map (·.2)).length ≤ sizeLine := by
      rw [List.length_map, List.length_mergeSort, List.length_zip, ln, Nat.min_self]
      omega
    exact ⟨.ref _, _, I.laid (t' := s.toks) (a := s.heap.objs.size + 1) (o := .lst (((ds.zip ys).mergeSort fun a b => leD a.1 b.1).map (·.2))) (fun _ _ => PyProof.Rows.sortedAll_old) (Nat.le_succ _) ⟨hlen, out, ep, hv, he'⟩, rfl, q _ (I.hok.fresh (Nat.le_succ _))⟩
theorem RpL.unzip : ∀ {bs : List (D × V)}, (∀ b, b ∈ bs → Rp K S b.1 b.2) → RpL K S (bs.map (·.1)) (bs.map (·.2))
  | [], _ => rfl
  | b :: bs, h => ⟨b.2, _, rfl, h b List.mem_cons_self, RpL.unzip fun c hc => h c (List.mem_cons_of_mem _ hc)⟩
theorem RpL.zip : ∀ {xs : List D} {vs : List V}, RpL K S xs vs → ∀ b, b ∈ xs.zip vs → Rp K S b.1 b.2
  | [], _, _, b, hb => by simp at hb
  | x :: xs, _, ⟨v, ws, e, h1, h2⟩, b, hb => by
    rw [e, List.zip_cons_cons] at hb
    rcases List.mem_cons.mp hb with z | z
    · rw [z]; exact h1
    · exact RpL.zip h2 b z
theorem ok_sorted : UnOk K fSorted (fun x => rSortedD K [x]) := by
  intro S H a x Qz QQ sh ha h kq
  cases a with
  | lst xs =>
    obtain ⟨p, vs, e, h1, h2⟩ := ha
    obtain ⟨g1, g2, g3, g4, g5⟩ := h
    refine ⟨p, vs, xs, (by rw [e]), SqL.of h1, RpL.mono sh h2, g2, g3, g4, fun l hl => kq _ _ _ (Res.lst (xs := xs.mergeSort leD) hl ?_) g5⟩
    have em : ((xs.zip vs).mergeSort fun a b => leD a.1 b.1).map (·.1) = xs.mergeSort leD := by
      rw [PySem.W.sort_maps (r := fun a b => leD a.1 b.1) (s := leD) (fun b : D × V => b.1) (fun _ _ _ _ => rfl), zip_fst h2.length]
    rw [← em]
    exact RpL.unzip fun b hb => RpL.zip h2 b (List.mem_mergeSort.mp hb)
  | _ => exact False.elim h
end
section
variable {X : Cx} {W : WX} {e e2 : Expr} {p pos : Pos} {da db : DTE}
theorem d_len (hm : X.mg "len" = none) (ha : DE X W e da) (hg : Gl X "len" := by rfl) (h1 : A1 X e pos := by exact ⟨rfl, rfl⟩) : DE X W (.Call (.Name "len" p) [e] [] pos) (dUn fLen da) := d_b1 (call_lenA) ok_len hm ha hg (by decide +kernel) (by decide) (by decide) h1
theorem d_sum (hc : X.calm = true) (hm : X.mg "sum" = none) (ha : DE X W e da) (hg : Gl X "sum" := by rfl) (h1 : A1 X e pos := by exact ⟨rfl, rfl⟩) : DE X W (.Call (.Name "sum" p) [e] [] pos) (dUn fSum da) := d_b1 (cr_sum hc) ok_sum hm ha hg (by decide +kernel) (by decide) (by decide) h1
theorem d_sorted (hu : X.A.units + 64 < cLine) (hm : X.mg "sorted" = none) (ha : DE X W e da) (hg : Gl X "sorted" := by rfl) (h1 : A1 X e pos := by exact ⟨rfl, rfl⟩) : DE X W (.Call (.Name "sorted" p) [e] [] pos) (dUn fSorted da) := d_b1 (cr_sortedD hu) ok_sorted hm ha hg (by decide +kernel) (by decide) (by decide) h1
theorem d_list (hm : X.mg "list" = none) (ha : DE X W e da) (hg : Gl X "list" := by rfl) (h1 : A1 X e pos := by exact ⟨rfl, rfl⟩) : DE X W (.Call (.Name "list" p) [e] [] pos) (dUn fList da) := d_t1 (call_list_of) ok_list hm ha hg (by decide +kernel) (by decide) (by decide) h1
theorem d_tuple (hm : X.mg "tuple" = none) (ha : DE X W e da) (hg : Gl X "tuple" := by rfl) (h1 : A1 X e pos := by exact ⟨rfl, rfl⟩) : DE X W (.Call (.Name "tuple" p) [e] [] pos) (dUn fTuple da) := d_t1 (call_tuple_of) ok_tuple hm ha hg (by decide +kernel) (by decide) (by decide) h1
theorem d_minL (hc : X.calm = true) (hm : X.mg "min" = none) (ha : DE X W e da) (hg : Gl X "min" := by rfl) (h1 : A1 X e pos := by exact ⟨rfl, rfl⟩) : DE X W (.Call (.Name "min" p) [e] [] pos) (dUn fMinL da) := d_b1 (cr_min hc) ok_minL hm ha hg (by decide +kernel) (by decide) (by decide) h1
theorem d_int1 (hm : X.mg "int" = none) (ha : DE X W e da) (hg : Gl X "int" := by rfl) (h1 : A1 X e pos := by exact ⟨rfl, rfl⟩) : DE X W (.Call (.Name "int" p) [e] [] pos) (dUn fInt da) := d_t1 (call_int1) ok_int1 hm ha hg (by decide +kernel) (by decide) (by decide) h1
theorem d_min2 (hc : X.calm = true) (hm : X.mg "min" = none) (ha : DE X W e da) (hb : DE X W e2 db) (hg : Gl X "min" := by rfl) (h1 : A2 X e e2 pos := by exact ⟨rfl, rfl, rfl⟩) : DE X W (.Call (.Name "min" p) [e, e2] [] pos) (dBin fMin2 da db) := d_b2 (call_min2 hc) ok_min2 hm ha hb hg (by decide +kernel) (by decide) (by decide) h1
end
end DW
/-! DWh: methods of lists and dicts that names own; stores; slices; raising. -/
namespace DW
open PySem L2

/-! ### methods of a list in a slot -/
def atL (ρ : List SV) (i : Nat) (k : SV → List D → Prop) : Prop := match ρ[i]? with
  | some (.ow (.l xs)) => k (.ow (.l xs)) xs
  | some (.rf (.l xs)) => k (.rf (.l xs)) xs
  | _ => False
def hasL (ρ : List SV) (i : Nat) : Prop := match ρ[i]? with
  | some (.ow (.l _)) => True
  | some (.rf (.l _)) => True
  | _ => False
/-- what a list's method does: its items, the arguments, what it gives and leaves -/
abbrev DLM := List D → List D → (D → List D → Prop) → Prop
def dLM (i : Nat) (g : DLM) (dl : DTA) : DTE := fun ρ Q E => hasL ρ i ∧ dl ρ (fun as ρ1 => atL ρ1 i fun y xs => g xs as fun c ys => Q (.d c) (ρ1.set i (y.re (.l ys)))) E
def MtOk (K : PySem.W.Frag) (g : DLM) (r : V → List V → Hp → VK → Prop) : Prop := ∀ (S H : Hp) (p : Addr) (xs as : List D) (vs ws : List V) (k : D → List D → Prop) (QQ : VK), Same S H → S p = none → H p = some (.lst vs) → RpL K S xs vs → RpL K S as ws → g xs as k →
  (∀ v c ys us, Rp K S c v → RpL K S ys us → k c ys → QQ v (upd H p (.lst us))) → r (.ref p) ws H QQ
theorem OR.mkL {K : PySem.W.Frag} {S H : Hp} {p : Addr} {xs : List D} {vs : List V} (h : RpL K S xs vs) : OR K S (upd H p (.lst vs)) p (.l xs) := ⟨vs, upd_same, h⟩
theorem OR.mkK {K : PySem.W.Frag} {S H : Hp} {p : Addr} {xs : List (Key × D)} {vs : List (Key × V)} (h : RpK K S xs vs) : OR K S (upd H p (.dK vs)) p (.k xs) := ⟨vs, upd_same, h⟩
theorem OR.mkI {K : PySem.W.Frag} {S H : Hp} {p C dx : Addr} {xs : List (Str × D)} {vs : List (Str × V)} (h : RpF K S xs vs) : OR K S (upd H p (.ins C dx vs)) p (.i C xs) := ⟨dx, vs, upd_same, h⟩
section
variable {K : PySem.W.Frag} {F : Fm} {S H : Hp} {ρ : List SV} {σ : St} {i : Nat}
theorem atL_ok {k : SV → List D → Prop} (r : R K F S ρ σ H) (h : atL ρ i k) : ∃ y xs p vs, ρ[i]? = some y ∧ y.oo = some (.l xs) ∧ σ[i]? = some (some (.ref p)) ∧ S p = none ∧ H p = some (.lst vs) ∧ RpL K S xs vs ∧ k y xs := by
  unfold atL at h
  cases c : ρ[i]? with
  | none => simp only [c] at h
  | some y =>
    cases y with
    | un => simp only [c] at h
    | mm _ => simp only [c] at h
    | d _ => simp only [c] at h
    | ow o =>
      cases o with
      | l xs =>
        simp only [c] at h
        obtain ⟨p, e1, _, h2, vs, h3, h4⟩ := r.own c rfl
        exact ⟨_, xs, p, vs, rfl, rfl, e1, h2, h3, h4, h⟩
      | k _ => simp only [c] at h
      | t _ => simp only [c] at h
      | tL _ => simp only [c] at h
      | tb _ _ => simp only [c] at h
      | i _ _ => simp only [c] at h
    | rf o =>
      cases o with
      | l xs =>
        simp only [c] at h
        obtain ⟨p, e1, _, h2, vs, h3, h4⟩ := r.own c rfl
        exact ⟨_, xs, p, vs, rfl, rfl, e1, h2, h3, h4, h⟩
      | k _ => simp only [c] at h
      | t _ => simp only [c] at h
      | tL _ => simp only [c] at h
      | tb _ _ => simp only [c] at h
      | i _ _ => simp only [c] at h
theorem hasL_ok (r : R K F S ρ σ H) (h : hasL ρ i) : ∃ p vs, σ[i]? = some (some (.ref p)) ∧ H p = some (.lst vs) := by
  have h' : atL ρ i fun _ _ => True := by
    unfold hasL at h
    unfold atL
    split at h <;> first | trivial | exact h.elim
  obtain ⟨y, xs, p, vs, _, _, a, _, b, _⟩ := atL_ok r h'
  exact ⟨p, vs, a, b⟩
theorem lm_ok {W : WX} {g : DLM} {dl : DTA} {r : V → List V → Hp → VK → Prop} (hok : MtOk K g r) {QQ : VK} (h : tD K W (dLM i g dl) σ H QQ) : ∃ p vs, σ[i]? = some (some (.ref p)) ∧ H p = some (.lst vs) ∧ tDA K W dl σ H fun ws H2 => r (.ref p) ws H2 QQ := by
  obtain ⟨F, S, ρ, Q, Ee, rr, h, kq, ke⟩ := h
  obtain ⟨p, vs, e1, e2⟩ := hasL_ok rr h.1
  refine ⟨p, vs, e1, e2, F, S, ρ, _, Ee, rr, h.2, fun ws as S1 ρ1 H1 g1 r1 p1 q1 => ?_, ke⟩
  obtain ⟨y, xs, p', us, c1, c2, c3, c4, c5, c6, q⟩ := atL_ok r1 q1
  rw [e1] at c3
  cases c3
  refine hok S1 H1 p xs as us ws _ QQ r1.s c4 c5 c6 p1 q fun v c ys zs h1 h2 h3 => ?_
  exact kq v (.d c) S1 _ _ g1 (r1.change c1 c2 e1 rfl (OR.mkL h2)) h1 h3
end
def gAppend : DLM := fun xs as k => match as with
  | [a] => xs.length < sizeLine ∧ k .non (xs ++ [a])
  | _ => False
def gPop : DLM := fun xs as k => match as with
  | [] => match xs[xs.length - 1]? with
    | some a => k a xs.dropLast
    | none => False
  | [.int i] => -1000000000 ≤ i ∧ i ≤ 1000000000 ∧ match ixN xs.length i with
    | some j => match xs[j]? with
      | some a => k a (xs.eraseIdx j)
      | none => False
    | none => False
  | _ => False
def gInsert : DLM := fun xs as k => match as with
  | [.int i, a] => xs.length < sizeLine ∧ 0 ≤ i ∧ i ≤ 1000000000 ∧ k .non (xs.take i.toNat ++ [a] ++ xs.drop i.toNat)
  | _ => False
def gExtend : DLM := fun xs as k => match as with
  | [.lst ys] => xs.length + ys.length ≤ sizeLine ∧ k .non (xs ++ ys)
  | _ => False
def gClear : DLM := fun xs as k => match as with
  | [] => k .non []
  | _ => False
/-- the first place of an item, all flat -/
def gIndex : DLM := fun xs as k => match as with
  | [a] => a.flat = true ∧ xs.all D.flat = true ∧ match xs.findIdx? fun z => D.eqv z a with
    | some j => k (.int (j : Nat)) xs
    | none => False
  | _ => False
section
variable {X : Cx} {K : PySem.W.Frag}
theorem ok_append : MtOk K gAppend rAppend := by
  intro S H p xs as vs ws k QQ sh sp hp hx ha h kq
  unfold gAppend at h
  split at h
  · obtain ⟨v, us, e, h1, h2⟩ := ha
    have h2 : us = [] := h2
    exact ⟨p, vs, v, rfl, by rw [e, h2], hp, by rw [hx.length]; exact h.1, kq .non .non _ _ rfl (RpL.append hx (RpL.one h1)) h.2⟩
  · exact h.elim
abbrev rPopA : V → List V → Hp → VK → Prop := fun x xs H Q => rPop x xs H Q ∨ rPopAt x xs H Q
theorem mt_popA : MtR X "list.pop" rPopA := MtR.or mt_pop mt_popAt
theorem ok_pop : MtOk K gPop rPopA := by
  intro S H p xs as vs ws k QQ sh sp hp hx ha h kq
  have ln := hx.length
  unfold gPop at h
  split at h
  · have e : ws = [] := ha
    cases c : xs[xs.length - 1]? with
    | none => simp only [c] at h
    | some a =>
      simp only [c] at h
      obtain ⟨v, e1, e2⟩ := hx.get c
      exact .inl ⟨p, vs, v, rfl, e, hp, by rw [ln]; exact e1, kq v a _ _ e2 hx.dropLast h⟩
  · rename_i i
    obtain ⟨v, us, e, h1, h2⟩ := ha
    have h1 : v = .int _ := h1
    have h2 : us = [] := h2
    obtain ⟨b1, b2, h⟩ := h
    cases c : ixN xs.length i with
    | none => simp only [c] at h
    | some j =>
      simp only [c] at h
      cases c2 : xs[j]? with
      | none => simp only [c2] at h
      | some a =>
        simp only [c2] at h
        obtain ⟨w, e1, e2⟩ := hx.get c2
        exact .inr ⟨p, vs, i, j, w, rfl, by rw [e, h1, h2], hp, by omega, by omega, by rw [ln]; exact (ixN_seq c).1, e1, kq w a _ _ e2 (hx.eraseIdx j) h⟩
  · exact h.elim
theorem ok_insert : MtOk K gInsert (fun x vs H Q => ∃ (l : Addr) (xs : List V) (i : Int) (y : V), x = .ref l ∧ vs = [.int i, y] ∧ H l = some (.lst xs) ∧ xs.length < sizeLine ∧ 0 ≤ i ∧ i < 2 ^ 63 ∧ Q .non (upd H l (.lst (xs.take i.toNat ++ [y] ++ xs.drop i.toNat)))) := by
  intro S H p xs as vs ws k QQ sh sp hp hx ha h kq
  unfold gInsert at h
  split at h
  · obtain ⟨v, us, e, h1, v2, us2, e2, h2, h3⟩ := ha
    have h1 : v = .int _ := h1
    have h3 : us2 = [] := h3
    exact ⟨p, vs, _, v2, rfl, by rw [e, h1, e2, h3], hp, by rw [hx.length]; exact h.1, h.2.1, by omega, kq .non .non _ _ rfl (RpL.append (RpL.append (hx.take _) (RpL.one h2)) (hx.drop _)) h.2.2.2⟩
  · exact h.elim
theorem ok_extend : MtOk K gExtend rExtend := by
  intro S H p xs as vs ws k QQ sh sp hp hx ha h kq
  unfold gExtend at h
  split at h
  · obtain ⟨v, us, e, ⟨q, zs, e2, h1, h2⟩, h3⟩ := ha
    have h3 : us = [] := h3
    exact ⟨p, q, vs, zs, rfl, by rw [e, e2, h3], hp, sh _ _ h1, by rw [hx.length, h2.length]; exact h.1, kq .non .non _ _ rfl (RpL.append hx h2) h.2⟩
  · exact h.elim
theorem ok_clear : MtOk K gClear rClear := by
  intro S H p xs as vs ws k QQ sh sp hp hx ha h kq
  unfold gClear at h
  split at h
  · have e : ws = [] := ha
    exact ⟨p, vs, rfl, e, hp, kq .non .non _ _ rfl (RpL.nil) h⟩
  · exact h.elim
theorem upd_self0 {H : Hp} {p : Addr} {u : HO} (h : H p = some u) : upd H p u = H := by
  funext b
  by_cases e : b = p
  · rw [e, upd_same, h]
  · rw [upd_ne e]
theorem ok_index : MtOk K gIndex (rIndex K) := by
  intro S H p xs as vs ws k QQ sh sp hp hx ha h kq
  unfold gIndex at h
  split at h
  · rename_i a
    obtain ⟨v, us, e, h1, h2⟩ := ha
    have h2 : us = [] := h2
    obtain ⟨fa, fx, h⟩ := h
    cases c : xs.findIdx? fun z => D.eqv z a with
    | none => simp only [c] at h
    | some j =>
      simp only [c] at h
      rw [List.findIdx?_eq_some_iff_getElem] at c
      obtain ⟨hj, hz, hno⟩ := c
      obtain ⟨w, e1, e2⟩ := hx.get (i := j) (x := xs[j]) (List.getElem?_eq_getElem hj)
      obtain ⟨i1, _⟩ := inV_any fa h1 fx hx
      have fl : ∀ (m : Nat) (hm : m < xs.length), (xs[m]).flat = true := fun m hm => List.all_eq_true.mp fx _ (List.getElem_mem hm)
      refine ⟨p, vs, v, j, w, rfl, by rw [e, h2], SqL.of hp, flat_V fa h1, i1, e1, ?_, fun m z hm hz' => ?_, ?_⟩
      · rw [flat_eqv fa (fl j hj) h1 e2]; exact hz
      · have hm' : m < xs.length := by omega
        obtain ⟨w', e3, e4⟩ := hx.get (i := m) (x := xs[m]) (List.getElem?_eq_getElem hm')
        rw [hz'] at e3
        cases e3
        rw [flat_eqv fa (fl m hm') h1 e4]
        exact Bool.eq_false_iff.mpr (hno m hm)
      · have := kq (.int (j : Nat)) (.int (j : Nat)) xs vs rfl hx h
        rw [upd_self0 hp] at this
        exact this
  · exact h.elim
end
section
variable {X : Cx} {W : WX} {e : Expr} {es : List Expr} {name y : Str} {py apos cpos : Pos} {id : String} {r : V → List V → Hp → VK → Prop} {g : DLM} {dl : DTA}
theorem d_lm (i : Nat) (slot : Slot "list" name id) (hty : typeOf (.builtin id) = pure (.type "method_descriptor")) (hm : MtR X id r) (hok : MtOk X.K g r) (ha : DA X W (e :: es) dl)
    (hN : X.N[i]? = some y := by rfl) (hv : Vis X.env.scope y := by first | exact Or.inl rfl | exact Or.inr (Or.inl rfl) | exact Or.inr (Or.inr rfl)) (hd : (y == ("__debug__" : Str)) = false := by decide) (hcd : (y == ("__classdict__" : Str)) = false := by decide)
    (hbase : attributeBase (.Name y py) name X.env (eval (.Name y py) X.env) = eval (.Name y py) X.env := by rfl)
    (hfew : ((backTo cpos (starEach (e :: es) X.env)).all (fun x => !x.1) && (backToKw cpos (keywordEach [] X.env)).all (fun x => x.1.isSome) && decide ((e :: es).length + ([] : List Keyword).length + (if ([] : List Keyword).isEmpty then 0 else 1) < 30)) = true := by rfl)
    (hline : (apos.endLine == cpos.line) = true := by rfl) (hs : starEach (e :: es) X.env = (false, eval e X.env) :: starEach es X.env := by rfl) (hpl : (backTo cpos (starEach es X.env)).any (·.1) = false := by rfl) :
    DE X W (.Call (.Attribute (.Name y py) name apos) (e :: es) [] cpos) (dLM i g dl) := by
  refine pe_imp (pe_bm PySem.F.plainAttrs_list slot hty hm (pv i hN hv hd hcd) ha hbase hfew hline hs hpl) fun σ H QQ h => ?_
  obtain ⟨p, vs, e1, e2, e3⟩ := lm_ok hok h
  exact ⟨_, e1, .inl ⟨rfl, _, SqL.of e2⟩, e3⟩
theorem d_lm0 (i : Nat) (slot : Slot "list" name id) (hty : typeOf (.builtin id) = pure (.type "method_descriptor")) (hm : MtR X id r) (hok : MtOk X.K g r)
    (hN : X.N[i]? = some y := by rfl) (hv : Vis X.env.scope y := by first | exact Or.inl rfl | exact Or.inr (Or.inl rfl) | exact Or.inr (Or.inr rfl)) (hd : (y == ("__debug__" : Str)) = false := by decide) (hcd : (y == ("__classdict__" : Str)) = false := by decide)
    (hbase : attributeBase (.Name y py) name X.env (eval (.Name y py) X.env) = eval (.Name y py) X.env := by rfl) (hline : (apos.endLine == cpos.line) = true := by rfl) :
    DE X W (.Call (.Attribute (.Name y py) name apos) [] [] cpos) (dLM i g dANil) := by
  refine pe_imp (pe_bm0 PySem.F.plainAttrs_list slot hty hm (pv i hN hv hd hcd) hbase hline) fun σ H QQ h => ?_
  obtain ⟨F, S, ρ, Q, Ee, rr, h, kq, ke⟩ := h
  have h2 : atL ρ i fun y xs => g xs [] fun c ys => Q (.d c) (ρ.set i (y.re (.l ys))) := h.2
  obtain ⟨y1, xs, p', us, c1, c2, c3, c4, c5, c6, q⟩ := atL_ok rr h2
  refine ⟨_, c3, .inl ⟨rfl, _, SqL.of c5⟩, hok S H p' xs [] us [] _ QQ rr.s c4 c5 c6 rfl q fun v c ys zs h1 h2 h3 => ?_⟩
  exact kq v (.d c) S _ _ (Gr.refl _ _) (rr.change c1 c2 c3 rfl (OR.mkL h2)) h1 h3
end

/-! ### x[i] = e of a list in a slot -/
def dSetIx (i : Nat) (dx de : DTE) : DTS := fun De ρ => de ρ (fun z ρ1 => stab z ρ1 fun b ρ2 => hasL ρ2 i ∧ dx ρ2 (fun w ρ3 => pk ρ3 w fun c => match c with
  | .int j => atL ρ3 i fun y xs => match ixN xs.length j with
    | some n => De.nx (ρ3.set i (y.re (.l (xs.set n b))))
    | none => False
  | _ => False) De.ex) De.ex
theorem d_setIx {X : Cx} {W : WX} (i : Nat) {y : Str} {py pos' pos : Pos} {ix e : Expr} {dx de : DTE} (hx : DE X W ix dx) (he : DE X W e de)
    (hN : X.N[i]? = some y := by rfl) (hv : Vis X.env.scope y := by first | exact Or.inl rfl | exact Or.inr (Or.inl rfl) | exact Or.inr (Or.inr rfl)) (hd : (y == ("__debug__" : Str)) = false := by decide) (hcd : (y == ("__classdict__" : Str)) = false := by decide)
    (hg : ∀ {to ti : TE}, PE X (.Name y py) to → PE X ix ti → PG X (.Subscript (.Name y py) ix pos') (gSub to ti rSetL) := by exact fun a b => pg_sub a b set_list)
    (hs : swapsWithSole [.Subscript (.Name y py) ix pos'] e pos.line X.env = pure false := by rfl) (hw : swappedStores [.Subscript (.Name y py) ix pos'] e X.env = pure none := by rfl)
    (h1 : (assignEach [.Subscript (.Name y py) ix pos'] X.env).map (·.2) = [assign (.Subscript (.Name y py) ix pos') X.env] := by rfl) : DS X W (.Assign [.Subscript (.Name y py) ix pos'] e pos) (dSetIx i dx de) := by
  refine ps_imp (ps_asg he (hg (pv i hN hv hd hcd) hx) hs hw h1) fun D σ H ⟨F, S, ρ, De, r, h, k1, k2, k3, k4, k5⟩ => ?_
  refine ⟨F, S, ρ, _, _, r, h, fun v x S1 ρ1 H1 g1 r1 vr1 q1 => ?_, fun er cls d S' ρ' H' g' r' => k5 er cls d ρ' σ S' H' g' r'⟩
  obtain ⟨b, S2, ρ2, g2, r2, p2, q2⟩ := VR.stab r1 vr1 q1
  obtain ⟨p, vs, e1, e2⟩ := hasL_ok r2 q2.1
  refine ⟨_, e1, F, S2, ρ2, _, _, r2, q2.2, fun w z S3 ρ3 H3 g3 r3 vr3 q3 => ?_, fun er cls d S' ρ' H' g' r' => k5 er cls d ρ' σ S' H' ((g1.trans g2).trans g') r'⟩
  obtain ⟨c, p3, q4⟩ := VR.pk r3 vr3 q3
  cases c with
  | int j =>
    obtain ⟨y1, xs, p', us, c1, c2, c3, c4, c5, c6, q⟩ := atL_ok r3 q4
    rw [e1] at c3
    cases c3
    cases n : ixN xs.length j with
    | none => simp only [n] at q
    | some m =>
      simp only [n] at q
      refine ⟨p, us, j, m, rfl, p3, c5, by rw [c6.length]; exact n, ?_⟩
      exact k1 _ σ S3 _ ((g1.trans g2).trans g3) (r3.change c1 c2 e1 rfl (OR.mkL (c6.set m (Rp.mono g3.s p2)))) q
  | _ => exact False.elim q4

/-! ### self.f = e of an instance in a slot -/
def atI (C0 : Addr) (ρ : List SV) (i : Nat) (k : SV → List (Str × D) → Prop) : Prop := match ρ[i]? with
  | some (.ow (.i C fs)) => C = C0 ∧ k (.ow (.i C fs)) fs
  | some (.rf (.i C fs)) => C = C0 ∧ k (.rf (.i C fs)) fs
  | _ => False
def dSetF (C0 : Addr) (i : Nat) (f : Str) (de : DTE) : DTS := fun De ρ => de ρ (fun z ρ1 => stab z ρ1 fun b ρ2 => atI C0 ρ2 i fun y fs => fs.length < 1000 ∧ De.nx (ρ2.set i (y.re (.i C0 (putFD f b fs))))) De.ex
theorem atI_ok {K : PySem.W.Frag} {F : Fm} {S H : Hp} {ρ : List SV} {σ : St} {i : Nat} {C0 : Addr} {k : SV → List (Str × D) → Prop} (r : R K F S ρ σ H) (h : atI C0 ρ i k) : ∃ y fs p dx ws, ρ[i]? = some y ∧ y.oo = some (.i C0 fs) ∧ σ[i]? = some (some (.ref p)) ∧ H p = some (.ins C0 dx ws) ∧ RpF K S fs ws ∧ k y fs := by
  unfold atI at h
  cases c : ρ[i]? with
  | none => simp only [c] at h
  | some y =>
    cases y with
    | un => simp only [c] at h
    | mm _ => simp only [c] at h
    | d _ => simp only [c] at h
    | ow o =>
      cases o with
      | i C fs =>
        simp only [c] at h
        obtain ⟨rfl, h⟩ := h
        obtain ⟨p, e1, _, _, dx, vs, h3, h4⟩ := r.own c rfl
        exact ⟨_, fs, p, dx, vs, rfl, rfl, e1, h3, h4, h⟩
      | k _ => simp only [c] at h
      | t _ => simp only [c] at h
      | tL _ => simp only [c] at h
      | tb _ _ => simp only [c] at h
      | l _ => simp only [c] at h
    | rf o =>
      cases o with
      | i C fs =>
        simp only [c] at h
        obtain ⟨rfl, h⟩ := h
        obtain ⟨p, e1, _, _, dx, vs, h3, h4⟩ := r.own c rfl
        exact ⟨_, fs, p, dx, vs, rfl, rfl, e1, h3, h4, h⟩
      | k _ => simp only [c] at h
      | t _ => simp only [c] at h
      | tL _ => simp only [c] at h
      | tb _ _ => simp only [c] at h
      | l _ => simp only [c] at h
theorem d_setF {X : Cx} {W : WX} (i : Nat) {C0 : Addr} {f y : Str} {py pos' pos : Pos} {e : Expr} {de : DTE} (c1 : Cls X.K C0) (c2 : NoAttr X.K C0 f) (he : DE X W e de)
    (hN : X.N[i]? = some y := by rfl) (hv : Vis X.env.scope y := by first | exact Or.inl rfl | exact Or.inr (Or.inl rfl) | exact Or.inr (Or.inr rfl)) (hd : (y == ("__debug__" : Str)) = false := by decide) (hcd : (y == ("__classdict__" : Str)) = false := by decide)
    (hs : swapsWith e (some (.Attribute (.Name y py) f pos')) pos.line X.env = pure false := by rfl) : DS X W (.Assign [.Attribute (.Name y py) f pos'] e pos) (dSetF C0 i f de) := by
  refine ps_imp (ps_fld (pv i hN hv hd hcd) he hs) fun D σ H ⟨F, S, ρ, De, r, h, k1, k2, k3, k4, k5⟩ => ?_
  refine ⟨F, S, ρ, _, _, r, h, fun v x S1 ρ1 H1 g1 r1 vr1 q1 => ?_, fun er cls d S' ρ' H' g' r' => k5 er cls d ρ' σ S' H' g' r'⟩
  obtain ⟨b, S2, ρ2, g2, r2, p2, q2⟩ := VR.stab r1 vr1 q1
  obtain ⟨y1, fs, p, dx, ws, a1, a2, a3, a4, a5, q⟩ := atI_ok r2 q2
  refine ⟨_, a3, p, C0, dx, ws, rfl, a4, c1, c2, by rw [a5.length]; exact q.1, ?_⟩
  exact k1 _ σ S2 _ (g1.trans g2) (r2.change a1 a2 a3 rfl (OR.mkI (a5.put f p2))) q.2
end DW
/-! DWi: slices; dicts. -/
namespace DW
open PySem L2

/-! ### slices -/
/-- a part of a slice: left out, or an int -/
abbrev DTO := List SV → (Option Int → List SV → Prop) → (DExc → List SV → Prop) → Prop
def dNoPart : DTO := fun ρ Q _ => Q none ρ
def dPart (de : DTE) : DTO := fun ρ Q E => de ρ (fun x ρ1 => match x with
  | .d (.int i) => Q (some i) ρ1
  | _ => False) E
def tDO (K : PySem.W.Frag) (W : WX) (de : DTO) : TO := fun σ H QQ => ∃ (F : Fm) (S : Hp) (ρ : List SV) (Q : Option Int → List SV → Prop) (Ee : DExc → List SV → Prop), R K F S ρ σ H ∧ de ρ Q Ee ∧
  (∀ o S' ρ' H', Gr F.B S S' → R K F S' ρ' σ H' → Q o ρ' → QQ o H') ∧ (∀ e cls d S' ρ' H', Gr F.B S S' → R K F S' ρ' σ H' → XR K S' H' e cls d → Ee e ρ' → W cls d σ H')
def DO (X : Cx) (W : WX) (e : Option Expr) (de : DTO) : Prop := PO X e (tDO X.K W de)
theorem po_imp {X : Cx} {e : Option Expr} {t t' : TO} (h : PO X e t) (i : ∀ σ H Q, t' σ H Q → t σ H Q) : PO X e t' := ⟨fun p s σ H Q I q => h.run p s σ H Q I (i σ H Q q)⟩
theorem d_nopart {X : Cx} {W : WX} : DO X W none dNoPart := po_imp po_none fun σ H QQ ⟨F, S, ρ, Q, Ee, r, h, kq, ke⟩ => kq none S ρ H (Gr.refl _ _) r h
theorem d_part {X : Cx} {W : WX} {e : Expr} {de : DTE} (he : DE X W e de) : DO X W (some e) (dPart de) := by
  refine po_imp (po_some he) fun σ H QQ ⟨F, S, ρ, Q, Ee, r, h, kq, ke⟩ => ⟨F, S, ρ, _, Ee, r, h, fun v x S1 ρ1 H1 g1 r1 vr1 q1 => ?_, ke⟩
  cases x with
  | d a =>
    cases a with
    | int i => exact ⟨i, vr1, kq (some i) S1 ρ1 H1 g1 r1 q1⟩
    | _ => exact False.elim q1
  | _ => exact False.elim q1
def cutD (xs : List D) (lo hi : Option Int) : List D := (xs.drop (HT.sIx xs.length 0 lo)).take (HT.sIx xs.length xs.length hi - HT.sIx xs.length 0 lo)
def fSl (a : D) (lo hi : Option Int) (k : DV → Prop) : Prop := match a with
  | .lst xs => k (.fr (.l (cutD xs lo hi)))
  | .tup xs => (HT.sIx xs.length 0 lo = 0 ∧ HT.sIx xs.length xs.length hi = xs.length → False) ∧ k (.d (.tup (cutD xs lo hi)))
  | _ => False
def dSl (de : DTE) (lo hi : DTO) : DTE := fun ρ Q E => de ρ (fun x ρ1 => lo ρ1 (fun l ρ2 => hi ρ2 (fun u ρ3 => pk ρ3 x.fz fun a => fSl a l u fun z => Q z ρ3) E) E) E
theorem cut_ok {K : PySem.W.Frag} {S : Hp} {xs : List D} {vs : List V} (h : RpL K S xs vs) (lo hi : Option Int) : RpL K S (cutD xs lo hi) (cutV vs lo hi) := by
  unfold cutD cutV
  rw [h.length]
  exact (h.drop _).take _
abbrev rSlA (K : PySem.W.Frag) : V → Option Int → Option Int → Hp → VK → Prop := fun x lo hi H Q => rSlL K x lo hi H Q ∨ rSlT K x lo hi H Q
theorem d_sl {X : Cx} {W : WX} {e : Expr} {lo hi : Option Expr} {p2 pos : Pos} {de : DTE} {dl dh : DTO} (he : DE X W e de) (hl : DO X W lo dl) (hh : DO X W hi dh) : DE X W (.Subscript e (.Slice lo hi none p2) pos) (dSl de dl dh) := by
  refine pe_imp (pe_slice (r := rSlA X.K) (SlR.or sl_list sl_tup) he hl hh) fun σ H QQ ⟨F, S, ρ, Q, Ee, r, h, kq, ke⟩ => ?_
  refine ⟨F, S, ρ, _, Ee, r, h, fun v x S1 ρ1 H1 g1 r1 vr1 q1 => ?_, ke⟩
  obtain ⟨S2, g2, r2, vr2, keep⟩ := VR.fz r1 vr1
  have g12 := g1.trans g2
  refine ⟨F, S2, ρ1, _, Ee, r2, q1, fun l S3 ρ3 H3 g3 r3 q3 => ?_, fun e cls d S' ρ' H' g' r' => ke e cls d S' ρ' H' (g12.trans g') r'⟩
  have g13 := g12.trans g3
  refine ⟨F, S3, ρ3, _, Ee, r3, q3, fun u S4 ρ4 H4 g4 r4 q4 => ?_, fun e cls d S' ρ' H' g' r' => ke e cls d S' ρ' H' (g13.trans g') r'⟩
  obtain ⟨a, p5, q5⟩ := VR.pk r4 (keep (g3.trans g4)) q4
  have g14 := g13.trans g4
  have fin : ∀ z dz H5, Res X.K S4 H4 z dz H5 → Q dz ρ4 → QQ z H5 := fun z dz H5 rs q6 => by
    obtain ⟨S6, g6, r6, vr6⟩ := rs.ok r4
    exact kq z dz S6 ρ4 H5 (g14.trans g6) r6 vr6 q6
  cases a with
  | lst xs =>
    obtain ⟨p, vs, e1, e2, e3⟩ := p5
    exact .inl ⟨p, vs, e1, SqL.of e2, fun t ht => fin _ _ _ (Res.lst ht (cut_ok e3 l u)) q5⟩
  | tup xs =>
    obtain ⟨p, vs, e1, e2, e3⟩ := p5
    refine .inr ⟨p, vs, e1, sqT_mono r4.s e2, by rw [e3.length]; exact q5.1, fun t ht => fin _ _ _ (Res.tup ht (cut_ok e3 l u)) q5.2⟩
  | _ => exact False.elim q5
def fRev (a : D) (k : DV → Prop) : Prop := match a with
  | .lst xs => k (.fr (.l xs.reverse))
  | _ => False
theorem d_rev {X : Cx} {W : WX} {e : Expr} {n : Nat} {p1 p2 p3 pos : Pos} {de : DTE} (he : DE X W e de) : DE X W (.Subscript e (.Slice none none (some (.UnaryOp .USub (.Constant (.int 1) n p1) p2)) p3) pos) (dUn fRev de) := by
  refine pe_imp (pe_revL he) fun σ H QQ h => un_ok (r := fun x H Q => ∃ a xs, x = .ref a ∧ SqL X.K H a xs ∧ ∀ p, H p = none → Q (.ref p) (upd H p (.lst xs.reverse))) ?_ h
  intro S H a x Qz QQ sh ha h kq
  cases a with
  | lst xs =>
    obtain ⟨p, vs, e1, e2, e3⟩ := ha
    exact ⟨p, vs, e1, SqL.of e2, fun t ht => kq _ _ _ (Res.lst ht e3.reverse) h⟩
  | _ => exact False.elim h

/-! ### dicts -/
def putKD (kvs : List (Key × D)) (k : Key) (v : D) : List (Key × D) :=
  if (kvs.any fun kv => decide (kv.1 = k)) = true then kvs.map (fun kv => if kv.1 = k then (kv.1, v) else kv) else kvs ++ [(k, v)]
def dropKD (kvs : List (Key × D)) (k : Key) : List (Key × D) := kvs.filter fun kv => decide (kv.1 ≠ k)
section
variable {K : PySem.W.Frag} {S H : Hp}
theorem RpK.any {k : Key} : ∀ {xs : List (Key × D)} {vs : List (Key × V)}, RpK K S xs vs → (vs.any fun kv => decide (kv.1 = k)) = (xs.any fun kv => decide (kv.1 = k))
  | [], _, h => by rw [h]; rfl
  | (_, _) :: _, _, ⟨v, ws, e, h1, h2⟩ => by rw [e, List.any_cons, List.any_cons, RpK.any h2]
theorem RpK.app : ∀ {xs ys : List (Key × D)} {vs ws : List (Key × V)}, RpK K S xs vs → RpK K S ys ws → RpK K S (xs ++ ys) (vs ++ ws)
  | [], _, _, _, h, g => by rw [h]; exact g
  | (_, _) :: _, _, _, _, ⟨v, ws, e, h1, h2⟩, g => by rw [e]; exact ⟨v, _, rfl, h1, RpK.app h2 g⟩
theorem RpK.mapPut {k : Key} {a : D} {w : V} (g : Rp K S a w) : ∀ {xs : List (Key × D)} {vs : List (Key × V)}, RpK K S xs vs → RpK K S (xs.map fun kv => if kv.1 = k then (kv.1, a) else kv) (vs.map fun kv => if kv.1 = k then (kv.1, w) else kv)
  | [], _, h => by rw [h]; exact rfl
  | (q, _) :: _, _, ⟨v, ws, e, h1, h2⟩ => by
    rw [e, List.map_cons, List.map_cons]
    by_cases c : q = k
    · simp only [c, if_true]
      exact ⟨w, _, rfl, g, RpK.mapPut g h2⟩
    · simp only [c, if_false]
      exact ⟨v, _, rfl, h1, RpK.mapPut g h2⟩
theorem RpK.put {k : Key} {a : D} {w : V} {xs : List (Key × D)} {vs : List (Key × V)} (h : RpK K S xs vs) (g : Rp K S a w) : RpK K S (putKD xs k a) (putK vs k w) := by
  unfold putKD putK
  rw [h.any]
  split
  · exact h.mapPut g
  · exact h.app ⟨w, [], rfl, g, rfl⟩
theorem RpK.drop {k : Key} : ∀ {xs : List (Key × D)} {vs : List (Key × V)}, RpK K S xs vs → RpK K S (dropKD xs k) (dropK vs k)
  | [], _, h => by rw [h]; exact rfl
  | (q, _) :: xs, _, ⟨v, ws, e, h1, h2⟩ => by
    have ih := RpK.drop (k := k) h2
    unfold dropKD dropK at ih ⊢
    rw [e]
    by_cases c : q = k
    · simp only [List.filter_cons, c, ne_eq, not_true, decide_false, Bool.false_eq_true, if_false]
      exact ih
    · simp only [List.filter_cons, c, ne_eq, not_false_iff, decide_true, if_true]
      exact ⟨v, _, rfl, h1, ih⟩
end
def dDict0 : DTE := fun ρ Q _ => Q (.fr (.k [])) ρ
theorem d_dict0 {X : Cx} {W : WX} {pos : Pos} : DE X W (.Dict [] [] pos) dDict0 := by
  refine pe_imp pe_dnewK fun σ H QQ ⟨F, S, ρ, Q, Ee, r, h, kq, ke⟩ => fun p hp => ?_
  obtain ⟨S5, g5, r5, vr5⟩ := (Res.dct (S := S) (vs := []) (xs := []) hp rfl).ok r
  exact kq _ _ S5 ρ _ g5 r5 vr5 h
def atK (ρ : List SV) (i : Nat) (k : SV → List (Key × D) → Prop) : Prop := match ρ[i]? with
  | some (.ow (.k xs)) => k (.ow (.k xs)) xs
  | some (.rf (.k xs)) => k (.rf (.k xs)) xs
  | _ => False
def hasK (ρ : List SV) (i : Nat) : Prop := match ρ[i]? with
  | some (.ow (.k _)) => True
  | some (.rf (.k _)) => True
  | _ => False
theorem atK_ok {K : PySem.W.Frag} {F : Fm} {S H : Hp} {ρ : List SV} {σ : St} {i : Nat} {k : SV → List (Key × D) → Prop} (r : R K F S ρ σ H) (h : atK ρ i k) : ∃ y xs p vs, ρ[i]? = some y ∧ y.oo = some (.k xs) ∧ σ[i]? = some (some (.ref p)) ∧ H p = some (.dK vs) ∧ RpK K S xs vs ∧ k y xs := by
  unfold atK at h
  cases c : ρ[i]? with
  | none => simp only [c] at h
  | some y =>
    cases y with
    | un => simp only [c] at h
    | mm _ => simp only [c] at h
    | d _ => simp only [c] at h
    | ow o =>
      cases o with
      | k xs =>
        simp only [c] at h
        obtain ⟨p, e1, _, _, vs, h3, h4⟩ := r.own c rfl
        exact ⟨_, xs, p, vs, rfl, rfl, e1, h3, h4, h⟩
      | l _ => simp only [c] at h
      | i _ _ => simp only [c] at h
      | t _ => simp only [c] at h
      | tL _ => simp only [c] at h
      | tb _ _ => simp only [c] at h
    | rf o =>
      cases o with
      | k xs =>
        simp only [c] at h
        obtain ⟨p, e1, _, _, vs, h3, h4⟩ := r.own c rfl
        exact ⟨_, xs, p, vs, rfl, rfl, e1, h3, h4, h⟩
      | l _ => simp only [c] at h
      | i _ _ => simp only [c] at h
      | t _ => simp only [c] at h
      | tL _ => simp only [c] at h
      | tb _ _ => simp only [c] at h
theorem hasK_ok {K : PySem.W.Frag} {F : Fm} {S H : Hp} {ρ : List SV} {σ : St} {i : Nat} (r : R K F S ρ σ H) (h : hasK ρ i) : ∃ p vs, σ[i]? = some (some (.ref p)) ∧ H p = some (.dK vs) := by
  have h' : atK ρ i fun _ _ => True := by
    unfold hasK at h
    unfold atK
    split at h <;> first | trivial | exact h.elim
  obtain ⟨y, xs, p, vs, _, _, a, b, _⟩ := atK_ok r h'
  exact ⟨p, vs, a, b⟩
/-- d[k] = v of a dict in a slot -/
def dSetK (i : Nat) (dk de : DTE) : DTS := fun De ρ => de ρ (fun z ρ1 => stab z ρ1 fun b ρ2 => hasK ρ2 i ∧ dk ρ2 (fun w ρ3 => pk ρ3 w fun c => match keyD c with
  | some q => atK ρ3 i fun y kvs => kvs.length < sizeLine ∧ De.nx (ρ3.set i (y.re (.k (putKD kvs q b))))
  | none => False) De.ex) De.ex
theorem d_setK {X : Cx} {W : WX} (i : Nat) {y : Str} {py pos' pos : Pos} {ix e : Expr} {dk de : DTE} (hu : X.A.units + 1 < cLine) (hk : DE X W ix dk) (he : DE X W e de)
    (hN : X.N[i]? = some y := by rfl) (hv : Vis X.env.scope y := by first | exact Or.inl rfl | exact Or.inr (Or.inl rfl) | exact Or.inr (Or.inr rfl)) (hd : (y == ("__debug__" : Str)) = false := by decide) (hcd : (y == ("__classdict__" : Str)) = false := by decide)
    (hs : swapsWith e (some (.Subscript (.Name y py) ix pos')) pos.line X.env = pure false := by rfl) : DS X W (.Assign [.Subscript (.Name y py) ix pos'] e pos) (dSetK i dk de) := by
  refine ps_imp (ps_dput hu (pv i hN hv hd hcd) hk he hs) fun D σ H ⟨F, S, ρ, De, r, h, k1, k2, k3, k4, k5⟩ => ?_
  refine ⟨F, S, ρ, _, _, r, h, fun v x S1 ρ1 H1 g1 r1 vr1 q1 => ?_, fun er cls d S' ρ' H' g' r' => k5 er cls d ρ' σ S' H' g' r'⟩
  obtain ⟨b, S2, ρ2, g2, r2, p2, q2⟩ := VR.stab r1 vr1 q1
  obtain ⟨p, vs, e1, e2⟩ := hasK_ok r2 q2.1
  refine ⟨_, e1, F, S2, ρ2, _, _, r2, q2.2, fun w z S3 ρ3 H3 g3 r3 vr3 q3 => ?_, fun er cls d S' ρ' H' g' r' => k5 er cls d ρ' σ S' H' ((g1.trans g2).trans g') r'⟩
  obtain ⟨c, p3, q4⟩ := VR.pk r3 vr3 q3
  cases kc : keyD c with
  | none => simp only [kc] at q4
  | some q =>
    simp only [kc] at q4
    obtain ⟨y1, xs, p', us, c1, c2, c3, c5, c6, q5⟩ := atK_ok r3 q4
    rw [e1] at c3
    cases c3
    refine ⟨p, _, rfl, by rw [keyD_kV kc p3]; exact DPut.k (k := q) c5 (by rw [c6.length]; exact q5.1), ?_⟩
    exact k1 _ σ S3 _ ((g1.trans g2).trans g3) (r3.change c1 c2 e1 rfl (OR.mkK (c6.put (Rp.mono g3.s p2)))) q5.2
/-- d.get(k, x) -/
def dGet2 (dd dk dx : DTE) : DTE := fun ρ Q E => dd ρ (fun z ρ1 => (pk ρ1 z.fz fun a => match a with | .dct _ => True | _ => False) ∧ dk ρ1 (fun w ρ2 => dx ρ2 (fun u ρ3 => stab u ρ3 fun b ρ4 => pk ρ4 z.fz fun a => pk ρ4 w.fz fun c => match a, keyD c with
  | .dct kvs, some q => Q (.d ((valD kvs q).getD b)) ρ4
  | _, _ => False) E) E) E
theorem d_get2 {X : Cx} {W : WX} {o e f : Expr} {apos cpos : Pos} {dd dk dx : DTE} (hu : X.A.units + 1 < cLine) (ho : DE X W o dd) (he : DE X W e dk) (hf : DE X W f dx) (m : M2 X o "get" apos e f cpos := by exact ⟨rfl, rfl, rfl, rfl⟩) :
    DE X W (.Call (.Attribute o "get" apos) [e, f] [] cpos) (dGet2 dd dk dx) := by
  refine pe_imp (pe_dget2 hu ho he hf m) fun σ H QQ ⟨F, S, ρ, Q, Ee, r, h, kq, ke⟩ => ?_
  refine ⟨F, S, ρ, _, Ee, r, h, fun v x S1 ρ1 H1 g1 r1 vr1 q1 => ?_, ke⟩
  obtain ⟨S2, g2, r2, vr2, keep⟩ := VR.fz r1 vr1
  have g12 := g1.trans g2
  obtain ⟨a0, p0, q0⟩ := VR.pk r2 vr2 q1.1
  cases a0 with
  | dct kvs0 =>
    obtain ⟨p, ws0, e1, e2, _⟩ := p0
    refine ⟨p, e1, .inl ⟨ws0, e2⟩, F, S2, ρ1, _, Ee, r2, q1.2, fun w z S3 ρ3 H3 g3 r3 vr3 q3 => ?_, fun er cls d S' ρ' H' g' r' => ke er cls d S' ρ' H' (g12.trans g') r'⟩
    obtain ⟨S4, g4, r4, vr4, keep4⟩ := VR.fz r3 vr3
    have g14 := (g12.trans g3).trans g4
    refine ⟨F, S4, ρ3, _, Ee, r4, q3, fun u z5 S5 ρ5 H5 g5 r5 vr5 q5 => ?_, fun er cls d S' ρ' H' g' r' => ke er cls d S' ρ' H' (g14.trans g') r'⟩
    obtain ⟨b, S6, ρ6, g6, r6, p6, q6⟩ := VR.stab r5 vr5 q5
    obtain ⟨a, p7, q7⟩ := VR.pk r6 (keep (((g3.trans g4).trans g5).trans g6)) q6
    obtain ⟨c, p8, q8⟩ := VR.pk r6 (keep4 (g5.trans g6)) q7
    cases a with
    | dct kvs =>
      obtain ⟨p', ws, e3, e4, e5⟩ := p7
      rw [e1] at e3
      cases e3
      cases kc : keyD c with
      | none => simp only [kc] at q8
      | some q =>
        simp only [kc] at q8
        refine ⟨valV ws q, by rw [keyD_kV kc p8]; exact (Or.inl ⟨_, q, e4, rfl, rfl⟩), ?_⟩
        have g16 := (g14.trans g5).trans g6
        cases vc : valD kvs q with
        | none =>
          rw [vc] at q8
          rw [(e5.val (q := q)).2 vc]
          exact kq u (.d b) S6 ρ6 H5 g16 r6 p6 q8
        | some a2 =>
          rw [vc] at q8
          obtain ⟨v2, l1, l2⟩ := (e5.val (q := q)).1 a2 vc
          rw [l1]
          exact kq v2 (.d a2) S6 ρ6 H5 g16 r6 l2 q8
    | _ => exact False.elim q8
  | _ => exact False.elim q0
/-- dict(d) -/
def fDict (a : D) (k : DV → Prop) : Prop := match a with
  | .dct kvs => k (.fr (.k kvs))
  | _ => False
theorem d_dict1 {X : Cx} {W : WX} {e : Expr} {p pos : Pos} {da : DTE} (hm : X.mg "dict" = none) (ha : DE X W e da) (hg : Gl X "dict" := by rfl) (h1 : A1 X e pos := by exact ⟨rfl, rfl⟩) : DE X W (.Call (.Name "dict" p) [e] [] pos) (dUn fDict da) := by
  refine d_t1 call_dictD (fun S H a x Qz QQ sh ha h kq => ?_) hm ha hg (by decide +kernel) (by decide) (by decide) h1
  cases a with
  | dct kvs =>
    obtain ⟨p, ws, e1, e2, e3⟩ := ha
    exact ⟨p, ws, (by rw [e1]), e2, fun t ht => kq _ _ _ (Res.dct ht e3) h⟩
  | _ => exact False.elim h
end DW
/-! DWj: what the printed walks ask beside: classes by name, room, loops over ranges, pairs, isinstance, len of set. -/
namespace DW
open PySem L2
/-- where the classes stand -/
structure Cs where
  Map : Addr
  Part : Addr
  Desk : Addr
  BadMap : Addr
  NoTree : Addr
  NoRoad : Addr
  BadText : Addr
  RootError : Addr
  Arc : Addr
  Folder : Addr
  tBest : Addr
  tOrder : Addr
  tLaw : Addr
theorem hu1 {k : Nat} {A : Around} (r : Room k A) : A.units + 1 < cLine := by have := r.un; omega
theorem hu64 {k : Nat} {A : Around} (r : Room k A) : A.units + 64 < cLine := by have := r.un; omega
theorem hu65 {k : Nat} {A : Around} (r : Room k A) : A.units + 65 < cLine := by have := r.un; omega
def dNever : DTS := fun _ _ => False
theorem d_never {X : Cx} {W : WX} {st : Stmt} : DS X W st dNever := ps_imp ps_never fun D σ H ⟨F, S, ρ, De, r, h, _⟩ => h
def dForG (n : Nat) (dl : DTA) (dg : DTG) (db : DTS) : DTS := dForR (fun ρ Q E => dl ρ (fun as ρ1 => as.length = n ∧ Q as ρ1) E) dg db
def dLcG (n : Nat) (dl : DTA) (dg : DTG) (dt : DTT) (de : DTE) (us : List Nat) : DTE := dLcR (fun ρ Q E => dl ρ (fun as ρ1 => as.length = n ∧ Q as ρ1) E) dg dt de us
def dPar (i j : Nat) (dl : DTA) : DTS := fun De ρ => dl ρ (fun as ρ1 => match as with
  | [a, b] => i < ρ1.length ∧ j < ρ1.length ∧ De.nx ((ρ1.set i (.d a)).set j (.d b))
  | _ => False) De.ex
theorem d_par {X : Cx} {W : WX} (i j : Nat) {x y : Str} {a b : Expr} {dl : DTA} {px py pt pos : Pos} {kt k2 pt2} (hc : X.calm = true) (hN : X.N.Nodup) (hi : X.N[i]? = some x) (hj : X.N[j]? = some y) (hij : i ≠ j)
    (hx : X.env.scope.names.lookup x = some .local) (hy : X.env.scope.names.lookup y = some .local) (ha : DA X W [a, b] dl)
    (hw : swappedStores [.Tuple [.Name x px, .Name y py] kt pt] (.Tuple [a, b] k2 pt2) X.env = pure (some [x, y]))
    (hs : swapsWithSole [.Tuple [.Name x px, .Name y py] kt pt] (.Tuple [a, b] k2 pt2) pos.line X.env = pure false := by rfl) :
    DS X W (.Assign [.Tuple [.Name x px, .Name y py] kt pt] (.Tuple [a, b] k2 pt2) pos) (dPar i j dl) := by
  refine ps_imp (ps_par hc hN hi hj hij hx hy ha hw hs) fun D σ H ⟨F, S, ρ, De, r, h, k1, k2, k3, k4, k5⟩ => ?_
  refine ⟨F, S, ρ, _, _, r, h, fun vs xs S1 ρ1 H1 g1 r1 p1 q1 => ?_, fun e cls d S' ρ' H' g' r' => k5 e cls d ρ' σ S' H' g' r'⟩
  match xs, q1 with
  | [a, b], ⟨h1, h2, q⟩ =>
    obtain ⟨v, w, e, e1, v2, w2, e2, e3, e4⟩ := p1
    have e4 : w2 = [] := e4
    refine ⟨v, v2, by rw [e, e2, e4], ?_⟩
    have r2 := (r1.setD (i := i) (by rw [← r1.len]; exact h1) e1).setD (i := j) (by rw [List.length_set, ← r1.len]; exact h2) e3
    exact k1 _ _ S1 H1 g1 r2 q
/-! isinstance of a built-in type -/
def isTy (T : String) : D → Bool
  | .bl _ => T == "bool" || T == "int"
  | .int _ => T == "int"
  | .str _ => T == "str"
  | .lst _ => T == "list"
  | .scr _ => T == "list"
  | .tup _ => T == "tuple"
  | .dct _ => T == "dict"
  | _ => false
def fIsi (T : String) (a : D) (k : DV → Prop) : Prop := match a with
  | .ins _ _ => False
  | .ptr _ => False
  | .tkd _ => False
  | .exc _ _ _ _ => False
  | _ => k (.d (.bl (isTy T a)))
def okTy (T : String) : Bool := kitB "NoneType" T == some (isTy T .non) && kitB "bool" T == some (isTy T (.bl true)) && kitB "int" T == some (isTy T (.int 0)) && kitB "str" T == some (isTy T (.str Str.empty)) && kitB "list" T == some (isTy T (.lst [])) && kitB "tuple" T == some (isTy T (.tup [])) && kitB "dict" T == some (isTy T (.dct []))
theorem ok_isi {K : PySem.W.Frag} {T : String} (h : okTy T = true) : UnOk K (fIsi T) (fun x => rIsi K [x, .ty T]) := by
  intro S H a x Qz QQ sh ha hf kq
  unfold okTy at h
  simp only [Bool.and_eq_true, beq_iff_eq] at h
  obtain ⟨⟨⟨⟨⟨⟨h1, h2⟩, h3⟩, h4⟩, h5⟩, h6⟩, h7⟩ := h
  cases a with
  | non => have e : x = .non := ha; subst e; exact ⟨_, _, _, _, _, rfl, .ty T, .base .non, kit_ty h1, kq _ _ H Res.bl hf⟩
  | bl b => have e : x = .bl b := ha; subst e; exact ⟨_, _, _, _, _, rfl, .ty T, .base (.bl b), kit_ty h2, kq _ _ H Res.bl hf⟩
  | int i => have e : x = .int i := ha; subst e; exact ⟨_, _, _, _, _, rfl, .ty T, .base (.int i), kit_ty h3, kq _ _ H Res.bl hf⟩
  | str z => have e : x = .str z := ha; subst e; exact ⟨_, _, _, _, _, rfl, .ty T, .base (.str z), kit_ty h4, kq _ _ H Res.bl hf⟩
  | lst xs =>
    obtain ⟨p, vs, rfl, h1', _⟩ := ha
    exact ⟨_, _, _, _, _, rfl, .ty T, .base (.lst h1'), kit_ty h5, kq _ _ H Res.bl hf⟩
  | scr ns =>
    obtain ⟨p, rfl, hS⟩ := ha
    rcases sh.seq hS with h1' | ⟨o, its, n, h1', h2', _⟩
    · rcases h1' with h1' | ⟨ob, h1'⟩
      · exact ⟨_, _, _, _, _, rfl, .ty T, .base (.lst h1'), kit_ty h5, kq _ _ H Res.bl hf⟩
      · exact ⟨_, _, _, _, _, rfl, .ty T, .base (.frz h1'), kit_ty h5, kq _ _ H Res.bl hf⟩
    · exact ⟨_, _, _, _, _, rfl, .ty T, .kList h1' h2', kit_ty h5, kq _ _ H Res.bl hf⟩
  | tup xs =>
    obtain ⟨p, vs, rfl, hS, _⟩ := ha
    rcases sqT_mono sh hS with h1' | ⟨o, its, n, h1', h2', _⟩
    · rcases h1' with h1' | ⟨ob, h1'⟩
      · exact ⟨_, _, _, _, _, rfl, .ty T, .base (.tup h1'), kit_ty h6, kq _ _ H Res.bl hf⟩
      · exact ⟨_, _, _, _, _, rfl, .ty T, .fTuple h1', kit_ty h6, kq _ _ H Res.bl hf⟩
    · exact ⟨_, _, _, _, _, rfl, .ty T, .kTuple h1' h2', kit_ty h6, kq _ _ H Res.bl hf⟩
  | dct xs =>
    obtain ⟨p, vs, rfl, h1', _⟩ := ha
    rcases h1' with h1' | ⟨ob, h1'⟩
    · exact ⟨_, _, _, _, _, rfl, .ty T, .base (.dK h1'), kit_ty h7, kq _ _ H Res.bl hf⟩
    · exact ⟨_, _, _, _, _, rfl, .ty T, .fDict h1', kit_ty h7, kq _ _ H Res.bl hf⟩
  | ins C fs => exact hf.elim
  | ptr _ => exact hf.elim
  | tkd _ => exact hf.elim
  | exc _ _ _ _ => exact hf.elim
theorem d_isi {X : Cx} {W : WX} {e : Expr} {de : DTE} {p p2 pos : Pos} {x : Str} {Tn : String} (hT : okTy Tn = true) (hv : bootBuiltins x = some (.type Tn)) (hmT : X.mg x = none) (hm : X.mg "isinstance" = none) (ha : DE X W e de) (hgT : Gl X x := by rfl) (hg : Gl X "isinstance" := by rfl)
    (hn : x ≠ "__name__" := by decide) (hd : (x == ("__debug__" : Str)) = false := by decide) (he : starEach (e :: [.Name x p2]) X.env = (false, eval e X.env) :: starEach [.Name x p2] X.env := by rfl) (he2 : starEach [.Name x p2] X.env = (false, eval (.Name x p2) X.env) :: starEach [] X.env := by rfl)
    (hpl : (backTo pos (starEach [.Name x p2] X.env)).any (·.1) = false := by rfl) :
    DE X W (.Call (.Name "isinstance" p) [e, .Name x p2] [] pos) (dUn (fIsi Tn) de) :=
  pe_imp (pe_callB call_isi hg hm PyProof.Rows.boot_isinstance (pa_cons ha (pa_cons (pe_bltn (v := .ty Tn) hgT hmT hv rfl hn hd) pa_nil he2) he) (by decide) (by decide) he hpl) fun σ H QQ h => un_ok (r := fun x => rIsi X.K [x, .ty Tn]) (ok_isi hT) h
theorem isi_str : okTy "str" = true := by decide +kernel
theorem isi_int : okTy "int" = true := by decide +kernel
theorem isi_bool : okTy "bool" = true := by decide +kernel
theorem isi_tuple : okTy "tuple" = true := by decide +kernel
theorem isi_list : okTy "list" = true := by decide +kernel
/-! len(set(ints)) -/
/-- how many unlike ones -/
def dist (ns : List Int) : Nat := (PyProof.Rows.firstMet (fun i => ns.getD i 0) ns.length).length
def fLenSet (a : D) (k : DV → Prop) : Prop := match a with
  | .lst xs => match intsD xs with
    | some ns => ns.length ≤ 4000 ∧ k (.d (.int (dist ns)))
    | none => False
  | _ => False
def tLenSetG (K : PySem.W.Frag) (ta : TE) : TE := fun σ H Q => ta σ H fun x H1 => ∃ (l : Addr) (ns : List Int), x = .ref l ∧ SqL K H1 l (ns.map V.int) ∧ ns.length ≤ 4000 ∧ Q (.int (dist ns : Nat)) H1
theorem dedup_len : ∀ (xs acc : List Int), (xs.foldl PyProof.Rows.step_dedup acc).length ≤ acc.length + xs.length
  | [], acc => Nat.le_refl _
  | x :: xs, acc => by
    have h := dedup_len xs (PyProof.Rows.step_dedup acc x)
    have h2 : (PyProof.Rows.step_dedup acc x).length ≤ acc.length + 1 := by
      unfold PyProof.Rows.step_dedup
      split
      · omega
      · simp
    rw [List.foldl_cons, List.length_cons]
    omega
theorem firstMet_len (f : Nat → Int) (n : Nat) : (PyProof.Rows.firstMet f n).length ≤ n := by
  unfold PyProof.Rows.firstMet
  refine Nat.le_trans (dedup_len _ _) ?_
  simp
open PySem.Spec PyProof.Rows in
theorem pe_lenSetG {X : Cx} {a : Expr} {ta : TE} {p p2 q pos : Pos} (hg : Gl X "len") (hm : X.mg "len" = none) (hg2 : Gl X "set") (hm2 : X.mg "set" = none) (ha : PE X a ta) (hc : X.calm = true)
    (na : starEach [a] X.env = (false, eval a X.env) :: starEach [] X.env) : PE X (.Call (.Name "len" p) [.Call (.Name "set" p2) [a] [] q] [] pos) (tLenSetG X.K ta) := by
  refine ⟨fun pins s σ H Q I h => ?_⟩
  refine Call_ (ld_blt I hg hm boot_len ?_)
  refine callWith_builtin1 (args_cons ?_ rfl) rfl rfl
  refine Call_ (ld_blt I hg2 hm2 boot_set ?_)
  refine callWith_type1 (args_cons (thn (ha.run pins s σ H _ I h) fun v s1 ⟨x, H1, I1, r1, q1⟩ => args_nil ?_) na) na rfl
  obtain ⟨l, ns, rfl, hq, hl, q1⟩ := q1
  cases r1
  obtain ⟨its, r, pl, hz⟩ := I1.list hq
  have hlen : its.toArray.size = ns.length := by rw [List.size_toArray, ← r.length, List.length_map]
  refine call_set_list (I1.ok.hd hc) pl.isList (by simpa using RZ.intsAre_vals r) (by rw [hlen]; unfold scanBound; omega) fun h' tk hS hk => ?_
  refine args_nil ?_
  rw [hlen] at hS
  obtain ⟨o, es, ep, t, ho, hex, hd, _, _, _, hf, hn⟩ := hS
  have I2 : Inv X pins σ H1 { s1 with heap := h', toks := tk } := I1.kept fun b o e => hk b o (Heap.lt_size e) e
  have := firstMet_len (fun i => ns.getD i 0) ns.length
  exact call_len_set ho hex hd hf (by rw [hn] <;> omega) ⟨.int (dist ns), H1, I2.tok _, ⟨_, by rw [hn]; rfl⟩, q1⟩
theorem d_lenSet {X : Cx} {W : WX} {a : Expr} {de : DTE} {p p2 q pos : Pos} (hc : X.calm = true) (hm : X.mg "len" = none) (hm2 : X.mg "set" = none) (ha : DE X W a de) (hg : Gl X "len" := by rfl) (hg2 : Gl X "set" := by rfl)
    (na : starEach [a] X.env = (false, eval a X.env) :: starEach [] X.env := by rfl) : DE X W (.Call (.Name "len" p) [.Call (.Name "set" p2) [a] [] q] [] pos) (dUn fLenSet de) := by
  refine pe_imp (pe_lenSetG hg hm hg2 hm2 ha hc na) fun σ H QQ h => ?_
  refine un_ok (r := fun x H1 Q => ∃ (l : Addr) (ns : List Int), x = .ref l ∧ SqL X.K H1 l (ns.map V.int) ∧ ns.length ≤ 4000 ∧ Q (.int (dist ns : Nat)) H1) (fun S H a x Qz QQ sh ha hf kq => ?_) h
  unfold fLenSet at hf
  split at hf
  · rename_i xs
    cases c : intsD xs with
    | none => rw [c] at hf; exact hf.elim
    | some ns =>
      rw [c] at hf
      obtain ⟨p, vs, rfl, h1, h2⟩ := ha
      have e := intsD_of c
      subst e
      have e := RpL.int_inv h2
      subst e
      exact ⟨p, ns, rfl, SqL.of h1, hf.1, kq _ _ H Res.int hf.2⟩
  · exact hf.elim
/-! a name = a comprehension over a range -/
section
variable {X : Cx} {W : WX} {elt tg : Expr} {ifs : List Expr} {scope : Scope} {own : List (Str × Nat)} {pos p1 p2 : Pos} {dl : DTA} {de : DTE} {dg : DTG} {dt : DTT} {js : List Nat}
theorem d_setLcR1 {i : Nat} {y : Str} {py spos : Pos} {a : Expr} (hc : X.calm = true) (hN : X.N.Nodup) (hy : X.N[i]? = some y) (hyl : X.env.scope.names.lookup y = some .local) (hsw : swapsWith (.ListComp elt [⟨tg, .Call (.Name "range" p1) [a] [] p2, ifs, 0⟩] scope pos) (some (.Name y py)) spos.line X.env = pure true)
    (hm : X.mg "range" = none) (ha : DA X W [a] dl) (ok : BlkOk X.N X.env.scope scope own) (hjs : ∀ j, j ∈ js → j ∈ own.map (·.2))
    (hg : ∀ (s : Shared) (H : Hp) (C : Addr) (cl : List (Str × Addr)) (fp : List Addr), DG (X.blk s H scope (compEnvC scope cl C X.env) fp) tg js dg) (ht : ∀ (s : Shared) (H : Hp) (C : Addr) (cl : List (Str × Addr)) (fp : List Addr), DTs (X.blk s H scope (compEnvC scope cl C X.env) fp) ifs dt)
    (he : ∀ (s : Shared) (H : Hp) (C : Addr) (cl : List (Str × Addr)) (fp : List Addr), DE (X.blk s H scope (compEnvC scope cl C X.env) fp) W0 elt de) (hgl : Gl X "range" := by rfl) (hst : starEach [a] X.env = [(false, eval a X.env)] := by rfl)
    (hs : ∀ x, foldedSetIterable (.Call (.Name "range" p1) [a] [] p2) X.env x = pure x := by intro _; rfl) :
    DS X W (.Assign [.Name y py] (.ListComp elt [⟨tg, .Call (.Name "range" p1) [a] [] p2, ifs, 0⟩] scope pos) spos) (dSet i (dLcG 1 dl dg dt de (own.map (·.2)))) := by
  refine ps_imp (ps_setLc (g := gD X.K js dg) (tt := tDT X.K W0 dt) (te := tD X.K W0 de) hc hN hy hyl hsw (pi_range1 hgl hm ha hst) ok hg ht he hs) fun D σ H ⟨F, S, ρ, De, r, h, k1, k2, k3, k4, k5⟩ => ?_
  refine ⟨F, S, ρ, _, _, r, h, fun vs xs S1 ρ1 H1 g1 r1 p1 q1 => ?_, fun e cls d S' ρ' H' g' r' => k5 e cls d ρ' σ S' H' g' r'⟩
  have kk : ∀ v acc S' ρ' H', Gr F.B S1 S' → R X.K F S' ρ' σ H' → VR X.K F S' ρ' σ H' v (.fr (.l acc)) → storeS i (.fr (.l acc)) ρ' De.nx → gName i v σ H' D.nx := fun v acc S' ρ' H' g' r' vr' q' => by
    obtain ⟨S4, ρ4, g4, r4, q4⟩ := VR.store r' vr' q'
    exact k1 ρ4 _ S4 H' ((g1.trans g').trans g4) r4 q4
  rcases rng_ok p1 q1.2 with ⟨n, e, b1, b2, q, l⟩ | ⟨m, n, e, b, q, l⟩
  · exact ⟨n, e, b1, b2, lc_turns r1 (RpL.range (fun i => (0 : Int) + (i : Nat)) _) hjs q (fun i H' _ hi => goR i H' hi) (fun H' _ => stopR) kk⟩
  · have l1 : xs.length = 1 := q1.1
    omega
theorem d_setLcR2 {i : Nat} {y : Str} {py spos : Pos} {a b : Expr} (hc : X.calm = true) (hN : X.N.Nodup) (hy : X.N[i]? = some y) (hyl : X.env.scope.names.lookup y = some .local) (hsw : swapsWith (.ListComp elt [⟨tg, .Call (.Name "range" p1) [a, b] [] p2, ifs, 0⟩] scope pos) (some (.Name y py)) spos.line X.env = pure true)
    (hm : X.mg "range" = none) (ha : DA X W [a, b] dl) (ok : BlkOk X.N X.env.scope scope own) (hjs : ∀ j, j ∈ js → j ∈ own.map (·.2))
    (hg : ∀ (s : Shared) (H : Hp) (C : Addr) (cl : List (Str × Addr)) (fp : List Addr), DG (X.blk s H scope (compEnvC scope cl C X.env) fp) tg js dg) (ht : ∀ (s : Shared) (H : Hp) (C : Addr) (cl : List (Str × Addr)) (fp : List Addr), DTs (X.blk s H scope (compEnvC scope cl C X.env) fp) ifs dt)
    (he : ∀ (s : Shared) (H : Hp) (C : Addr) (cl : List (Str × Addr)) (fp : List Addr), DE (X.blk s H scope (compEnvC scope cl C X.env) fp) W0 elt de) (hgl : Gl X "range" := by rfl) (hst : starEach [a, b] X.env = [(false, eval a X.env), (false, eval b X.env)] := by rfl)
    (hst2 : starEach [b] X.env = [(false, eval b X.env)] := by rfl)
    (hs : ∀ x, foldedSetIterable (.Call (.Name "range" p1) [a, b] [] p2) X.env x = pure x := by intro _; rfl) :
    DS X W (.Assign [.Name y py] (.ListComp elt [⟨tg, .Call (.Name "range" p1) [a, b] [] p2, ifs, 0⟩] scope pos) spos) (dSet i (dLcG 2 dl dg dt de (own.map (·.2)))) := by
  refine ps_imp (ps_setLc (g := gD X.K js dg) (tt := tDT X.K W0 dt) (te := tD X.K W0 de) hc hN hy hyl hsw (pi_range2 hgl hm ha hst hst2) ok hg ht he hs) fun D σ H ⟨F, S, ρ, De, r, h, k1, k2, k3, k4, k5⟩ => ?_
  refine ⟨F, S, ρ, _, _, r, h, fun vs xs S1 ρ1 H1 g1 r1 p1 q1 => ?_, fun e cls d S' ρ' H' g' r' => k5 e cls d ρ' σ S' H' g' r'⟩
  have kk : ∀ v acc S' ρ' H', Gr F.B S1 S' → R X.K F S' ρ' σ H' → VR X.K F S' ρ' σ H' v (.fr (.l acc)) → storeS i (.fr (.l acc)) ρ' De.nx → gName i v σ H' D.nx := fun v acc S' ρ' H' g' r' vr' q' => by
    obtain ⟨S4, ρ4, g4, r4, q4⟩ := VR.store r' vr' q'
    exact k1 ρ4 _ S4 H' ((g1.trans g').trans g4) r4 q4
  rcases rng_ok p1 q1.2 with ⟨n, e, b1, b2, q, l⟩ | ⟨m, n, e, b, q, l⟩
  · have l1 : xs.length = 2 := q1.1
    omega
  · exact ⟨m, n, e, b, lc_turns r1 (RpL.range (fun i => m + (i : Nat)) _) hjs q (fun i H' _ hi => goR i H' hi) (fun H' _ => stopR) kk⟩
end
end DW
/-! DWk: the ends. -/
namespace DW
open PySem L2
theorem ds_never {X : Cx} {W : WX} {sts : List Stmt} : DSs X W sts dNever := ⟨fun pp s σ H D I h => by
  obtain ⟨F, S, ρ, De, r, z, _⟩ := h
  exact False.elim z⟩
/-- the same thing, which nothing unfolds -/
noncomputable def shut {α : Sort u} (x : α) : α := Classical.choose (⟨x, rfl⟩ : ∃ y, y = x)
theorem shut_eq {α : Sort u} (x : α) : shut x = x := Classical.choose_spec (⟨x, rfl⟩ : ∃ y, y = x)
theorem d_shut {X : Cx} {W : WX} {sts : List Stmt} {d : DTS} (h : DSs X W sts d) : DSs X W sts (shut d) := (shut_eq d).symm ▸ h
theorem fn_shut {P : Program} {w : World} {K : PySem.W.Frag} {mg : Str → Option Value} {base : Heap} {CX : CXT} {k n : Nat} {f : Addr} {fd : FuncData} {ps : List Str} {G : DSp} (h : FnOk P w K mg base CX k f fd ps (spD K n G)) : FnOk P w K mg base CX k f fd ps (spD K n (shut G)) := (shut_eq G).symm ▸ h
theorem cast_k {P : Program} {w : World} {K : PySem.W.Frag} {mg : Str → Option Value} {base : Heap} {CX : CXT} {k j : Nat} {f : Addr} {fd : FuncData} {ps : List Str} {sp : Sp} (F : FnOk P w K mg base CX k f fd ps sp) (e : k = j) : FnOk P w K mg base CX j f fd ps sp := e ▸ F
theorem walk_D {l : PySem.W.OpenLaw} {k : Nat} {q : Program} {loose : List Str} {XP : (Str → Option Value) → Heap → Prop} {YP : World → Heap → Prop} {d : DefRec} {K : Params → PySem.W.Frag} {x : Str} {run : Cs → DSp}
    (hn : l.most = some 63) (hdf : d.params.defaults = []) (hr : Room k callerA)
    (hY : ∀ (w : World) (h : Heap), YP w h → (K w.params).In h)
    (hlaw : ∀ (A : Cs) (ns : List Int), ns.length ≤ 63 → run A [.d (.scr ns)] (fun x _ => x = .d (.bl true)) (fun _ _ => False))
    (F : ∀ (w : World) (mg : Str → Option Value) (fa : Addr) (h : Heap), (K w.params).In h → h.Ns mainGlobals mg → mg d.name = some (.ref fa) →
      ∃ (fd : FuncData) (A : Cs), (∀ (s : Shared) (u : Value), BindsTo s fd ⟨[u], []⟩ [(x, u)]) ∧
        ∀ base : Heap, (K w.params).In base → base.Ns mainGlobals mg → FnOk l.prog w (K w.params) mg base (L2N.CX l.prog w) k fa fd [x] (spD (K w.params) 1 (run A))) :
    PySem.W.WalkO q loose XP YP l.row.toRowW d [] (fun f vs => PySem.call f vs) := by
  refine L2.walk_of (n := 63) (k := k) (x := x) (CX := fun w => L2N.CX l.prog w) (sp := fun w vs H Q _ => ∃ (a : Addr) (ns : List Int), vs = [.ref a] ∧ SqL (K w.params) H a (ns.map V.int) ∧ ns.length ≤ 63 ∧ ∀ H', Q (.bl true) H') hn (by decide) hdf hr hY (fun w mg fa h KX G hmg => ?_) (fun _ _ a ns hl _ hS => ⟨a, ns, rfl, hS, hl, fun _ => rfl⟩) fun _ _ _ _ _ z => ?_
  · obtain ⟨fd, A, hb, hF⟩ := F w mg fa h KX G hmg
    refine ⟨fd, hb, fun base h1 h2 => (hF base h1 h2).imp fun vs H Q E h => ?_⟩
    obtain ⟨a, ns, rfl, hS, hl, hq⟩ := h
    refine ⟨rfl, H, H, [.d (.scr ns)], _, _, ⟨rfl, rfl, fun _ _ e => e, fun _ _ e => e, fun i y e => ?_, fun i j y z _ _ p e1 e2 _ _ o1 o2 => ?_⟩, hlaw A ns hl, fun v y S' as' H' _ _ vr _ _ e => ?_, fun _ _ _ _ _ _ _ _ _ z => z.elim⟩
    · cases i with
      | zero => cases e; exact ⟨_, rfl, _, rfl, a, rfl, hS⟩
      | succ i => cases e
    · cases i with
      | zero => cases e1; exact False.elim o1
      | succ i => cases e1
    · subst e
      have e : v = .bl true := vr
      rw [e]
      exact hq H'
  · obtain ⟨_, _, _, _, _, _, _, _, _, _, _, _, _, _, _, _, z⟩ := z
end DW
/-! DWp: the pure side: loops by induction, comparisons of ints and lists of ints. -/
namespace DW
open PySem L2
/-- where a def's body leads -/
def dEnd (n : Nat) (Q : DV → List SV → Prop) (E : DExc → List SV → Prop) : DEnds := { nx := fun ρ => Q (.d .non) (outS n ρ), rt := fun x ρ => outV x ρ fun y => Q y (outS n ρ), ex := fun e ρ => E e (outS n ρ) }
theorem run_eq {n m : Nat} {body : DTS} {as : List SV} {Q : DV → List SV → Prop} {E : DExc → List SV → Prop} : dRun n m body as Q E = body (dEnd n Q E) (as ++ List.replicate m .un) := rfl
theorem dEnd_nx {n : Nat} {Q : DV → List SV → Prop} {E : DExc → List SV → Prop} {ρ : List SV} : (dEnd n Q E).nx ρ = Q (.d .non) (outS n ρ) := rfl
theorem dEnd_rt {n : Nat} {Q : DV → List SV → Prop} {E : DExc → List SV → Prop} {x : DV} {ρ : List SV} : (dEnd n Q E).rt x ρ = outV x ρ fun y => Q y (outS n ρ) := rfl
theorem dEnd_ex {n : Nat} {Q : DV → List SV → Prop} {E : DExc → List SV → Prop} {x : DExc} {ρ : List SV} : (dEnd n Q E).ex x ρ = E x (outS n ρ) := rfl
theorem forN_ind {α : Type} (f : α → D) {dg : DTG} {body : DTS} {De : DEnds} (P : List α → List SV → Prop) (h0 : ∀ ρ, P [] ρ → De.nx ρ)
    (hs : ∀ a as ρ (N : List SV → Prop), P (a :: as) ρ → (∀ ρ', P as ρ' → N ρ') → dg (f a) ρ fun ρ1 => body { De with nx := N, ct := N, bk := De.nx } ρ1) : ∀ xs ρ, P xs ρ → dForN dg body De (xs.map f) ρ
  | [], ρ, h => h0 ρ h
  | a :: as, ρ, h => hs a as ρ _ h fun ρ' h' => forN_ind f P h0 hs as ρ' h'
theorem whN_ind {dt : DTT} {body : DTS} {De : DEnds} (P : Nat → List SV → Prop) (h0 : ∀ ρ, ¬ P 0 ρ)
    (hs : ∀ n ρ (N : List SV → Prop), P (n + 1) ρ → (∀ ρ', P n ρ' → N ρ') → dt ρ (fun k ρ1 => if k = true then body { De with nx := N, ct := N, bk := De.nx } ρ1 else De.nx ρ1) De.ex) : ∀ n ρ, P n ρ → dWhN dt body De n ρ
  | 0, ρ, h => (h0 ρ h).elim
  | n + 1, ρ, h => hs n ρ _ h fun ρ' h' => whN_ind P h0 hs n ρ' h'
theorem lcN_fm {α : Type} (f : α → D) (p : α → Bool) (g : α → D) {dg : DTG} {dt : DTT} {de : DTE} {vs : List Nat} {Q : List D → List SV → Prop} {ρ0 : List SV} : ∀ (xs : List α) (acc : List D),
    (∀ a, a ∈ xs → ∀ (N : D → List SV → Prop) (M : List SV → Prop), (p a = true → N (g a) ρ0) → (p a = false → M ρ0) → dg (f a) ρ0 fun ρ1 => dt ρ1 (fun k ρ2 => if k = true then de ρ2 (fun y ρ3 => stab y ρ3 fun c ρ4 => N c (wipeD ρ4 vs)) (fun _ _ => False) else M (wipeD ρ2 vs)) (fun _ _ => False)) →
    acc.length + xs.length ≤ sizeLine → Q (acc ++ (xs.filter p).map g) ρ0 → dLcN dg dt de vs Q (xs.map f) acc ρ0
  | [], acc, _, _, q => by simpa [dLcN] using q
  | a :: as, acc, h, hl, q => by
    have hl' : acc.length + (as.length + 1) ≤ sizeLine := by simpa using hl
    have hh := fun b hb => h b (List.mem_cons_of_mem _ hb)
    refine h a List.mem_cons_self (fun c ρ => acc.length < sizeLine ∧ dLcN dg dt de vs Q (as.map f) (acc ++ [c]) ρ) (fun ρ => dLcN dg dt de vs Q (as.map f) acc ρ) (fun hp => ⟨by omega, ?_⟩) (fun hp => ?_)
    · refine lcN_fm f p g as _ hh (by simp; omega) ?_
      rw [List.filter_cons, if_pos hp] at q
      simpa using q
    · refine lcN_fm f p g as _ hh (by omega) ?_
      rw [List.filter_cons, if_neg (by rw [hp]; decide)] at q
      exact q
theorem eqv_int (a b : Int) : D.eqv (.int a) (.int b) = decide (a = b) := by
  show (a == b) = _
  by_cases h : a = b
  · simp [h]
  · simp [h]
theorem eqvAll_ints : ∀ as bs : List Int, PyData.eqvAll (D.pyL (as.map .int)) (D.pyL (bs.map .int)) = decide (as = bs)
  | [], [] => rfl
  | [], _ :: _ => rfl
  | _ :: _, [] => rfl
  | a :: as, b :: bs => by
    show ((a == b) && PyData.eqvAll (D.pyL (as.map .int)) (D.pyL (bs.map .int))) = _
    rw [eqvAll_ints as bs]
    by_cases h : a = b
    · simp [h]
    · simp [h]
theorem eqv_ints (as bs : List Int) : D.eqv (.lst (as.map .int)) (.lst (bs.map .int)) = decide (as = bs) := eqvAll_ints as bs
theorem eqv_nil (as : List Int) : D.eqv (.lst (as.map .int)) (.lst []) = decide (as = []) := eqvAll_ints as []
theorem eqv_nilD : ∀ as : List D, D.eqv (.lst as) (.lst []) = as.isEmpty
  | [] => rfl
  | _ :: _ => rfl
theorem ix_nat {n j : Nat} (h : j < n) : L2.ixN n (j : Int) = some j := by
  unfold L2.ixN
  rw [if_pos (by omega), if_pos (by omega), Int.toNat_natCast]
theorem at_nat {α : Type} (xs : List α) (n : Nat) : L2.atI xs (n : Int) = xs[n]? := by
  unfold L2.atI
  by_cases h : n < xs.length
  · rw [ix_nat h]
    rfl
  · unfold L2.ixN
    rw [if_pos (by omega), if_neg (by omega), List.getElem?_eq_none (by omega)]
    rfl
theorem at_0 {α : Type} (xs : List α) : L2.atI xs 0 = xs[0]? := at_nat xs 0
theorem at_1 {α : Type} (xs : List α) : L2.atI xs 1 = xs[1]? := at_nat xs 1
theorem at_2 {α : Type} (xs : List α) : L2.atI xs 2 = xs[2]? := at_nat xs 2
theorem at_3 {α : Type} (xs : List α) : L2.atI xs 3 = xs[3]? := at_nat xs 3
theorem ix_0 : L2.ixN 4 0 = some 0 := rfl
theorem ix_1 : L2.ixN 4 1 = some 1 := rfl
theorem ix_2 : L2.ixN 4 2 = some 2 := rfl
theorem ix_3 : L2.ixN 4 3 = some 3 := rfl
theorem plL_ints (n : Nat) : ∀ xs : List Int, D.plL (xs.map .int) n = true
  | [] => by simp [D.plL]
  | x :: xs => by
    have := plL_ints n xs
    simp [D.plL, D.pl, this]
theorem pl_ints {xs : List Int} {n : Nat} : (D.lst (xs.map .int)).pl (n + 1) = true := by
  show D.plL (xs.map .int) n = true
  exact plL_ints n xs
theorem if_false_t {p q : Prop} : (if false = true then p else q) = q := if_neg (by decide)
theorem anyI (a : Int) : ∀ xs : List Int, ((xs.map D.int).any fun z => D.eqv z (.int a)) = decide (a ∈ xs)
  | [] => by simp
  | x :: xs => by
    rw [List.map_cons, List.any_cons, anyI a xs, eqv_int]
    by_cases h : x = a
    · simp [h]
    · have h' : ¬ a = x := fun e => h e.symm
      simp [h, h']
/-! the readings' equations at known data -/
section
variable {a b c x y : D} {ρ : List SV} {o : OO} {i j : Nat} {m n : Int} {k : D → Prop} {kv : DV → Prop} {ks : D → List SV → Prop} {kk : List SV → Prop} {kl : List D → Prop} {xs ys : List D} {C C0 : Addr} {fs : List (Str × D)} {f : Str}
theorem pk_d : pk ρ (.d x) k = k x := rfl
theorem pk_fr : pk ρ (.fr o) k = k o.toD := rfl
theorem pk_sl : pk ρ (.sl i) k = match ρ[i]? with | some (.d x) => k x | some (.ow o) => k o.toD | some (.rf o) => k o.toD | _ => False := rfl
theorem stab_d : stab (.d x) ρ ks = ks x ρ := rfl
theorem stab_fr : stab (.fr o) ρ ks = ks o.toD ρ := rfl
theorem stab_sl : stab (.sl i) ρ ks = match ρ[i]? with | some (.d a) => ks a ρ | some (.ow o) => ks o.toD (ρ.set i (.d o.toD)) | _ => False := rfl
theorem fz_d : (DV.d x).fz = .d x := rfl
theorem fz_fr : (DV.fr o).fz = .d o.toD := rfl
theorem fz_sl : (DV.sl i).fz = .sl i := rfl
theorem toD_l : (OO.l xs).toD = .lst xs := rfl
theorem toD_i : (OO.i C fs).toD = .ins C fs := rfl
theorem toD_k {kvs : List (Key × D)} : (OO.k kvs).toD = .dct kvs := rfl
theorem re_rf {o' : OO} : (SV.rf o').re o = .rf o := rfl
theorem re_ow {o' : OO} : (SV.ow o').re o = .ow o := rfl
theorem store_d : storeS i (.d a) ρ kk = (i < ρ.length ∧ kk (ρ.set i (.d a))) := rfl
theorem store_fr : storeS i (.fr o) ρ kk = (i < ρ.length ∧ kk (ρ.set i (.ow o))) := rfl
theorem store_sl : storeS i (.sl j) ρ kk = (i < ρ.length ∧ stab (.sl j) ρ fun a ρ1 => kk (ρ1.set i (.d a))) := rfl
theorem outV_d : outV (.d a) ρ kv = kv (.d a) := rfl
theorem outV_fr : outV (.fr o) ρ kv = kv (.fr o) := rfl
theorem outV_sl : outV (.sl i) ρ kv = match ρ[i]? with | some (.d a) => kv (.d a) | some (.ow o) => kv (.fr o) | _ => False := rfl
theorem items_l : items (.lst xs) kl = kl xs := rfl
theorem items_t : items (.tup xs) kl = kl xs := rfl
theorem items_s {ns : List Int} : items (.scr ns) kl = kl (ns.map .int) := rfl
theorem rng_1 {kr : Int → Nat → Prop} : rng [.int n] kr = (-1000000000000 ≤ n ∧ n ≤ 1000000000000 ∧ kr 0 n.toNat) := rfl
theorem rng_2 {kr : Int → Nat → Prop} : rng [.int m, .int n] kr = (-1000000000000 ≤ m ∧ m ≤ 1000000000000 ∧ -1000000000000 ≤ n ∧ n ≤ 1000000000000 ∧ kr m (n - m).toNat) := rfl
theorem dgT_t {is : List Nat} : dgT is (.tup xs) ρ kk = setAll is xs ρ kk := rfl
theorem setAll_0 : setAll [] [] ρ kk = kk ρ := rfl
theorem setAll_s {is : List Nat} : setAll (i :: is) (a :: xs) ρ kk = (i < ρ.length ∧ setAll is xs (ρ.set i (.d a)) kk) := rfl
theorem putR_rf {y : SV} {bs : List SV} : putR i y ρ (.rf o :: bs) kk = kk (ρ.set i (y.re o)) := rfl
theorem madeQ_n {bs : List SV} {ko : OO → Prop} : madeQ (.d .non) (.rf o :: bs) ko = ko o := rfl
theorem fAdd_i : fAdd (.int m) (.int n) kv = kv (.d (.int (m + n))) := rfl
theorem fAdd_l : fAdd (.lst xs) (.lst ys) kv = (xs.length + ys.length ≤ sizeLine ∧ kv (.fr (.l (xs ++ ys)))) := rfl
theorem fSub_i : fSub (.int m) (.int n) kv = kv (.d (.int (m - n))) := rfl
theorem fMul_i : fMul (.int m) (.int n) kv = ((m.natAbs < 2 ^ 64 ∨ n.natAbs < 2 ^ 64 ∨ (m.natAbs < 2 ^ 400000 ∧ n.natAbs < 2 ^ 400000)) ∧ kv (.d (.int (m * n)))) := rfl
theorem fDiv_i : fDiv (.int m) (.int n) kv = (((n ≠ 0 ∧ n.natAbs < 1073741824) ∨ (0 < n ∧ n.natAbs < 2 ^ 8000)) ∧ kv (.d (.int (m.fdiv n)))) := rfl
theorem fMod_i : fMod (.int m) (.int n) kv = (n ≠ 0 ∧ kv (.d (.int (m.fmod n)))) := rfl
theorem fPow_i : fPow (.int m) (.int n) kv = (0 ≤ n ∧ n ≤ 1000000 ∧ m.natAbs < 2 ^ 64 ∧ kv (.d (.int (m ^ n.toNat)))) := rfl
theorem fNeg_i : fNeg (.int m) kv = kv (.d (.int (-m))) := rfl
theorem fCmp_i {p : Int → Int → Bool} : fCmp p (.int m) (.int n) kv = kv (.d (.bl (p m n))) := rfl
theorem fIn_l : fInB false a (.lst xs) kv = (a.pl 7 = true ∧ (D.lst xs).pl 8 = true ∧ kv (.d (.bl (xs.any fun z => D.eqv z a)))) := rfl
theorem fNotIn_l : fInB true a (.lst xs) kv = (a.pl 7 = true ∧ (D.lst xs).pl 8 = true ∧ kv (.d (.bl (!(xs.any fun z => D.eqv z a))))) := rfl
theorem fIx_l : fIx (.lst xs) (.int n) kv = match L2.atI xs n with | some c => kv (.d c) | none => False := rfl
theorem fIx_t : fIx (.tup xs) (.int n) kv = match L2.atI xs n with | some c => kv (.d c) | none => False := rfl
theorem fIx_s {ns : List Int} : fIx (.scr ns) (.int n) kv = match L2.atI ns n with | some c => kv (.d (.int c)) | none => False := rfl
theorem fLen_l : fLen (.lst xs) kv = kv (.d (.int xs.length)) := rfl
theorem fLen_t : fLen (.tup xs) kv = kv (.d (.int xs.length)) := rfl
theorem fLen_s {ns : List Int} : fLen (.scr ns) kv = kv (.d (.int ns.length)) := rfl
theorem fInt_i : fInt (.int n) kv = kv (.d (.int n)) := rfl
theorem fInt_b {q : Bool} : fInt (.bl q) kv = kv (.d (.int (if q then 1 else 0))) := rfl
theorem fList_l : fList (.lst xs) kv = kv (.fr (.l xs)) := rfl
theorem fList_t : fList (.tup xs) kv = kv (.fr (.l xs)) := rfl
theorem fIsN_n : fIsN a .non kv = kv (.d (.bl a.isN)) := rfl
theorem fNotN_n : fNotN a .non kv = kv (.d (.bl (!a.isN))) := rfl
theorem isN_i : (D.int n).isN = false := rfl
theorem gAppend_1 {kd : D → List D → Prop} : gAppend xs [a] kd = (xs.length < sizeLine ∧ kd .non (xs ++ [a])) := rfl
theorem gPop_0 {kd : D → List D → Prop} : gPop xs [] kd = match xs[xs.length - 1]? with | some a => kd a xs.dropLast | none => False := rfl
theorem gPop_c {kd : D → List D → Prop} : gPop (xs ++ [a]) [] kd = kd a xs := by
  have e : (xs ++ [a])[(xs ++ [a]).length - 1]? = some a := by simp
  have e2 : (xs ++ [a]).dropLast = xs := by simp
  rw [gPop_0, e, e2]
theorem fFld_i : fFld C0 f (.ins C fs) kv = (C = C0 ∧ match fs.lookup f with | some y => kv (.d y) | none => False) := rfl
theorem fRev_l : fRev (.lst xs) kv = kv (.fr (.l xs.reverse)) := rfl
theorem pl_i {q : Nat} : (D.int n).pl q = true := by cases q <;> rfl
theorem fIsi_i {T : String} : fIsi T (.int n) kv = kv (.d (.bl (T == "int"))) := rfl
theorem fIsi_b {T : String} {q : Bool} : fIsi T (.bl q) kv = kv (.d (.bl (T == "bool" || T == "int"))) := rfl
theorem fIsi_n {T : String} : fIsi T .non kv = kv (.d (.bl false)) := rfl
theorem fIsi_l {T : String} : fIsi T (.lst xs) kv = kv (.d (.bl (T == "list"))) := rfl
theorem fIsi_t {T : String} : fIsi T (.tup xs) kv = kv (.d (.bl (T == "tuple"))) := rfl
theorem tst_b {de : DTE} {Q : Bool → List SV → Prop} {E : DExc → List SV → Prop} : dTst de ρ Q E = de ρ (fun x ρ1 => match x with | .d (.bl b) => Q b ρ1 | _ => False) E := rfl
end
/-! sorted -/
theorem leD_int (a b : Int) : leD (.int a) (.int b) = decide (a ≤ b) := by
  have e : leD (.int a) (.int b) = !(PyProof.Rows.lexLt PyProof.Rows.itemOrd [Sum.inl b] [Sum.inl a]) := rfl
  rw [e]
  by_cases h : b = a
  · subst h
    have : PyProof.Rows.lexLt PyProof.Rows.itemOrd [Sum.inl b] [Sum.inl b] = false := (PyProof.Rows.lex_self (O := PyProof.Rows.itemOrd) (Sum.inl b) [] []).trans rfl
    rw [this]
    simp
  · have hne : (Sum.inl b : Int ⊕ List Nat) ≠ .inl a := fun q => h (by cases q; rfl)
    have : PyProof.Rows.lexLt PyProof.Rows.itemOrd [Sum.inl b] [Sum.inl a] = decide (b < a) := PyProof.Rows.lex_diff (O := PyProof.Rows.itemOrd) hne
    rw [this]
    by_cases h2 : b < a
    · have h3 : ¬ a ≤ b := by omega
      simp [h2, h3]
    · have h3 : a ≤ b := by omega
      simp [h2, h3]
def sortI (xs : List Int) : List Int := xs.mergeSort fun a b => decide (a ≤ b)
theorem sortI_D (xs : List Int) : (xs.map D.int).mergeSort leD = (sortI xs).map .int := (List.map_mergeSort fun a _ b _ => (leD_int a b).symm).symm
theorem sortI_perm (xs : List Int) : (sortI xs).Perm xs := List.mergeSort_perm _ _
theorem sortI_len (xs : List Int) : (sortI xs).length = xs.length := (sortI_perm xs).length_eq
theorem sortI_pw (xs : List Int) : (sortI xs).Pairwise fun a b => decide (a ≤ b) = true := List.pairwise_mergeSort (fun a b c h1 h2 => by simp at *; omega) (fun a b => by simp; omega) xs
theorem sortI_iff {xs ys : List Int} : sortI xs = sortI ys ↔ xs.Perm ys := by
  constructor
  · intro h
    exact (sortI_perm xs).symm.trans (h ▸ sortI_perm ys)
  · intro h
    exact List.Perm.eq_of_pairwise (fun a b _ _ h1 h2 => by simp at *; omega) (sortI_pw xs) (sortI_pw ys) ((sortI_perm xs).trans (h.trans (sortI_perm ys).symm))
theorem alike_ints : ∀ as bs : List Int, PySem.W.alikeAll (D.pyL (as.map .int)) (D.pyL (bs.map .int)) = true
  | [], [] => rfl
  | [], _ :: _ => rfl
  | _ :: _, [] => rfl
  | a :: as, b :: bs => alike_ints as bs
theorem fSorted_ints {xs : List Int} {kv : DV → Prop} (h : xs.length ≤ sizeLine) (k : kv (.fr (.l ((sortI xs).map .int)))) : fSorted (.lst (xs.map .int)) kv := by
  refine ⟨by rw [List.length_map]; exact h, ?_, ?_, ?_, ?_⟩
  · intro d hd d' hd'
    simp only [List.mem_map] at hd hd'
    obtain ⟨_, ⟨a, _, rfl⟩, rfl⟩ := hd
    obtain ⟨_, ⟨b, _, rfl⟩, rfl⟩ := hd'
    rfl
  · refine .inr fun d hd => ?_
    simp only [List.mem_map] at hd
    obtain ⟨_, ⟨a, _, rfl⟩, rfl⟩ := hd
    exact ⟨(fun z => nomatch z), fun xs z => nomatch z⟩
  · intro x hx
    obtain ⟨a, _, rfl⟩ := List.mem_map.mp hx
    exact pl_i
  · rw [sortI_D]
    exact k
/-- what a tree costs, and its roads -/
def treeD (t : Int × List Int) : D := .tup [.int t.1, .lst (t.2.map .int)]
def sortT (ts : List (Int × List Int)) : List (Int × List Int) := ts.mergeSort fun a b => leD (treeD a) (treeD b)
theorem sortT_D (ts : List (Int × List Int)) : (ts.map treeD).mergeSort leD = (sortT ts).map treeD := (List.map_mergeSort (f := treeD) (s := leD) (r := fun a b => leD (treeD a) (treeD b)) fun _ _ _ _ => rfl).symm
theorem sortT_perm (ts : List (Int × List Int)) : (sortT ts).Perm ts := List.mergeSort_perm _ _
theorem pl_tree {t : Int × List Int} {n : Nat} : (treeD t).pl (n + 2) = true := by
  unfold treeD
  simp [D.pl, D.plL, plL_ints]
theorem fSorted_trees {ts : List (Int × List Int)} {kv : DV → Prop} (h : ts.length ≤ sizeLine) (k : kv (.fr (.l ((sortT ts).map treeD)))) : fSorted (.lst (ts.map treeD)) kv := by
  refine ⟨by rw [List.length_map]; exact h, ?_, ?_, ?_, ?_⟩
  · intro d hd d' hd'
    simp only [List.mem_map] at hd hd'
    obtain ⟨_, ⟨a, _, rfl⟩, rfl⟩ := hd
    obtain ⟨_, ⟨b, _, rfl⟩, rfl⟩ := hd'
    show (true && (PySem.W.alikeAll _ _ && true)) = true
    rw [alike_ints]
    rfl
  · refine .inl fun d hd => ?_
    simp only [List.mem_map] at hd
    obtain ⟨_, ⟨a, _, rfl⟩, rfl⟩ := hd
    exact ⟨_, _, rfl⟩
  · intro x hx
    obtain ⟨a, _, rfl⟩ := List.mem_map.mp hx
    exact pl_tree
  · rw [sortT_D]
    exact k
theorem fSum_ints {xs : List Int} {kv : DV → Prop} : fSum (.lst (xs.map .int)) kv = kv (.d (.int xs.sum)) := by
  simp only [fSum, intsD_map]
theorem dedup_full : ∀ (ns acc : List Int), (ns.foldl PyProof.Rows.step_dedup acc).length = acc.length + ns.length ↔ ns.Nodup ∧ ∀ x, x ∈ ns → x ∉ acc
  | [], acc => by simp
  | x :: ns, acc => by
    rw [List.foldl_cons, List.nodup_cons, List.length_cons]
    by_cases c : x ∈ acc
    · have e : PyProof.Rows.step_dedup acc x = acc := if_pos (List.any_eq_true.mpr ⟨x, c, by simp⟩)
      have h := dedup_len ns acc
      rw [e]
      constructor
      · intro q
        omega
      · intro q
        exact absurd c (q.2 x List.mem_cons_self)
    · have e : PyProof.Rows.step_dedup acc x = acc ++ [x] := if_neg fun z => by
        obtain ⟨y, hy, e⟩ := List.any_eq_true.mp z
        rw [show y = x by simpa using e] at hy
        exact c hy
      have ih := dedup_full ns (acc ++ [x])
      rw [List.length_append, List.length_singleton] at ih
      rw [e, show acc.length + (ns.length + 1) = acc.length + 1 + ns.length by omega, ih]
      constructor
      · rintro ⟨h1, h2⟩
        refine ⟨⟨fun hx => h2 x hx (by simp), h1⟩, fun y hy => ?_⟩
        rcases List.mem_cons.mp hy with rfl | hy
        · exact c
        · exact fun z => h2 y hy (by simp [z])
      · rintro ⟨⟨h1, h2⟩, h3⟩
        refine ⟨h2, fun y hy z => ?_⟩
        rcases List.mem_append.mp z with z | z
        · exact h3 y (List.mem_cons_of_mem _ hy) z
        · rw [List.mem_singleton.mp z] at hy
          exact h1 hy
theorem dist_iff {ns : List Int} : dist ns = ns.length ↔ ns.Nodup := by
  unfold dist PyProof.Rows.firstMet
  have e : (List.range ns.length).map (fun i => ns.getD i 0) = ns := List.ext_getElem (by simp) fun i h1 h2 => by simp [h2]
  rw [e]
  have := dedup_full ns []
  simpa using this
end DW
/-! DGr: what roads lead to; the two searches. -/
namespace DW
open PySem L2
abbrev Road := Int × Int × Int
def roadD (r : Road) : D := .tup [.int r.1, .int r.2.1, .int r.2.2]
def rowsD (rs : List Road) : List D := rs.map roadD
inductive Rch (rs : List Road) (root : Int) : Int → Prop
  | root : Rch rs root root
  | step {r : Road} (h : r ∈ rs) (p : Rch rs root r.1) : Rch rs root r.2.1
theorem Rch.mono {rs rs' : List Road} {root x : Int} (h : ∀ r, r ∈ rs → r ∈ rs') (p : Rch rs root x) : Rch rs' root x := by
  induction p with
  | root => exact .root
  | step hr _ ih => exact .step (h _ hr) ih
theorem Rch.cases' {rs : List Road} {root x : Int} (p : Rch rs root x) : x = root ∨ ∃ r, r ∈ rs ∧ r.2.1 = x := by
  cases p with
  | root => exact .inl rfl
  | step h _ => exact .inr ⟨_, h, rfl⟩
theorem len_le_of_subset : ∀ {fs gs : List Int}, fs.Nodup → (∀ x, x ∈ fs → x ∈ gs) → fs.length ≤ gs.length
  | [], _, _, _ => Nat.zero_le _
  | x :: fs, gs, h, hs => by
    have h' := List.nodup_cons.mp h
    have hx := hs x List.mem_cons_self
    have ih := len_le_of_subset (fs := fs) (gs := gs.erase x) h'.2 fun y hy => (List.mem_erase_of_ne (fun e : y = x => h'.1 (e ▸ hy))).mpr (hs y (List.mem_cons_of_mem _ hy))
    rw [List.length_erase_of_mem hx] at ih
    have : 0 < gs.length := List.length_pos_of_mem hx
    rw [List.length_cons]
    omega
def leadStep (cur : Int) (fs : List Int) (r : Road) : List Int := if r.1 = cur ∧ r.2.1 ∉ fs then fs ++ [r.2.1] else fs
theorem lead_facts (cur : Int) : ∀ (rs : List Road) (fs : List Int), fs.Nodup → (rs.foldl (leadStep cur) fs).Nodup ∧ (∃ t, rs.foldl (leadStep cur) fs = fs ++ t) ∧ (∀ x, x ∈ rs.foldl (leadStep cur) fs → x ∈ fs ∨ ∃ r, r ∈ rs ∧ r.1 = cur ∧ r.2.1 = x) ∧ ∀ r, r ∈ rs → r.1 = cur → r.2.1 ∈ rs.foldl (leadStep cur) fs
  | [], fs, h => ⟨h, ⟨[], (List.append_nil fs).symm⟩, fun x hx => .inl hx, fun r hr => nomatch hr⟩
  | r :: rs, fs, h => by
    rw [List.foldl_cons]
    have h1 : (leadStep cur fs r).Nodup := by
      unfold leadStep
      split
      · rename_i c
        exact List.nodup_append.mpr ⟨h, by simp, fun a ha b hb e => c.2 (by rw [List.mem_singleton.mp hb] at e; exact e ▸ ha)⟩
      · exact h
    obtain ⟨a, ⟨t, b⟩, c, d⟩ := lead_facts cur rs _ h1
    have h2 : ∃ t', leadStep cur fs r = fs ++ t' := by
      unfold leadStep
      split
      · exact ⟨_, rfl⟩
      · exact ⟨[], (List.append_nil fs).symm⟩
    obtain ⟨t', e'⟩ := h2
    have h3 : r.1 = cur → r.2.1 ∈ leadStep cur fs r := fun e => by
      unfold leadStep
      by_cases m : r.2.1 ∈ fs
      · rw [if_neg fun z => z.2 m]
        exact m
      · rw [if_pos ⟨e, m⟩]
        simp
    refine ⟨a, ⟨t' ++ t, by rw [b, e', List.append_assoc]⟩, fun x hx => ?_, fun q hq e => ?_⟩
    · rcases c x hx with hx | ⟨q, hq, e1, e2⟩
      · unfold leadStep at hx
        split at hx
        · rename_i c2
          rcases List.mem_append.mp hx with hx | hx
          · exact .inl hx
          · exact .inr ⟨r, List.mem_cons_self, c2.1, (List.mem_singleton.mp hx).symm⟩
        · exact .inl hx
      · exact .inr ⟨q, List.mem_cons_of_mem _ hq, e1, e2⟩
    · rcases List.mem_cons.mp hq with rfl | hq
      · rw [b]
        exact List.mem_append_left _ (h3 e)
      · exact d q hq e
structure LeadInv (rs : List Road) (root : Int) (fs : List Int) (at_ : Nat) : Prop where
  nd : fs.Nodup
  rch : ∀ x, x ∈ fs → Rch rs root x
  rt : root ∈ fs
  cl : ∀ j x, j < at_ → fs[j]? = some x → ∀ r, r ∈ rs → r.1 = x → r.2.1 ∈ fs
  le : at_ ≤ fs.length
theorem LeadInv.start {rs : List Road} {root : Int} : LeadInv rs root [root] 0 := ⟨by simp, fun x hx => by rw [List.mem_singleton.mp hx]; exact .root, by simp, fun j x h => absurd h (Nat.not_lt_zero _), Nat.zero_le _⟩
theorem LeadInv.bound {rs : List Road} {root : Int} {fs : List Int} (nd : fs.Nodup) (rch : ∀ x, x ∈ fs → Rch rs root x) : fs.length ≤ rs.length + 1 := by
  have := len_le_of_subset (gs := root :: rs.map (·.2.1)) nd fun x hx => by
    rcases (rch x hx).cases' with e | ⟨r, hr, e⟩
    · rw [e]; exact List.mem_cons_self
    · exact List.mem_cons_of_mem _ (List.mem_map.mpr ⟨r, hr, e⟩)
  simpa using this
theorem LeadInv.next {rs : List Road} {root : Int} {fs : List Int} {k : Nat} {c : Int} (I : LeadInv rs root fs k) (h : fs[k]? = some c) : LeadInv rs root (rs.foldl (leadStep c) fs) (k + 1) := by
  obtain ⟨a, ⟨t, b⟩, m, d⟩ := lead_facts c rs fs I.nd
  have hk : k < fs.length := (List.getElem?_eq_some_iff.mp h).1
  have hc : c ∈ fs := List.mem_of_getElem? h
  refine ⟨a, fun x hx => ?_, by rw [b]; exact List.mem_append_left _ I.rt, fun j x hj e r hr e2 => ?_, by rw [b, List.length_append]; omega⟩
  · rcases m x hx with hx | ⟨r, hr, e1, e2⟩
    · exact I.rch x hx
    · rw [← e2]
      exact .step hr (e1 ▸ I.rch c hc)
  · rw [b, List.getElem?_append_left (by omega)] at e
    by_cases hjk : j = k
    · subst hjk
      rw [h] at e
      cases e
      exact d r hr e2
    · rw [b]
      exact List.mem_append_left _ (I.cl j x (by omega) e r hr e2)
theorem LeadInv.done {rs : List Road} {root : Int} {fs : List Int} (I : LeadInv rs root fs fs.length) (x : Int) : x ∈ fs ↔ Rch rs root x := by
  refine ⟨I.rch x, fun p => ?_⟩
  induction p with
  | root => exact I.rt
  | step hr _ ih =>
    obtain ⟨j, hj⟩ := List.getElem?_of_mem ih
    exact I.cl j _ (List.getElem?_eq_some_iff.mp hj).1 hj _ hr rfl
/-! the other search -/
def comeStep (cur : Int) (p : List Int × List Int) (r : Road) : List Int × List Int := if r.1 = cur ∧ r.2.1 ∉ p.1 then (p.1 ++ [r.2.1], p.2 ++ [r.2.1]) else p
theorem come_lead (cur : Int) : ∀ (rs : List Road) (fs ws : List Int), ∃ t, rs.foldl (comeStep cur) (fs, ws) = (fs ++ t, ws ++ t) ∧ rs.foldl (leadStep cur) fs = fs ++ t
  | [], fs, ws => ⟨[], by simp, by simp⟩
  | r :: rs, fs, ws => by
    rw [List.foldl_cons, List.foldl_cons]
    by_cases c : r.1 = cur ∧ r.2.1 ∉ fs
    · obtain ⟨t, a, b⟩ := come_lead cur rs (fs ++ [r.2.1]) (ws ++ [r.2.1])
      refine ⟨r.2.1 :: t, ?_, ?_⟩
      · rw [show comeStep cur (fs, ws) r = (fs ++ [r.2.1], ws ++ [r.2.1]) from if_pos c, a]
        simp
      · rw [show leadStep cur fs r = fs ++ [r.2.1] from if_pos c, b]
        simp
    · obtain ⟨t, a, b⟩ := come_lead cur rs fs ws
      exact ⟨t, by rw [show comeStep cur (fs, ws) r = (fs, ws) from if_neg c]; exact a, by rw [show leadStep cur fs r = fs from if_neg c]; exact b⟩
structure ComeInv (rs : List Road) (root : Int) (fs ws : List Int) : Prop where
  nd : fs.Nodup
  rch : ∀ x, x ∈ fs → Rch rs root x
  rt : root ∈ fs
  sub : ∀ x, x ∈ ws → x ∈ fs
  cl : ∀ x, x ∈ fs → x ∉ ws → ∀ r, r ∈ rs → r.1 = x → r.2.1 ∈ fs
theorem ComeInv.start {rs : List Road} {root : Int} : ComeInv rs root [root] [root] := ⟨by simp, fun x hx => by rw [List.mem_singleton.mp hx]; exact .root, by simp, fun x h => h, fun x h1 h2 => absurd h1 h2⟩
theorem ComeInv.next {rs : List Road} {root : Int} {fs ws : List Int} {c : Int} (I : ComeInv rs root fs (ws ++ [c])) : ∃ t, rs.foldl (comeStep c) (fs, ws) = (fs ++ t, ws ++ t) ∧ ComeInv rs root (fs ++ t) (ws ++ t) := by
  obtain ⟨t, e1, e2⟩ := come_lead c rs fs ws
  obtain ⟨a, _, m, d⟩ := lead_facts c rs fs I.nd
  rw [e2] at a m d
  have hc : c ∈ fs := I.sub c (by simp)
  refine ⟨t, e1, a, fun x hx => ?_, List.mem_append_left _ I.rt, fun x hx => ?_, fun x hx hw r hr e => ?_⟩
  · rcases m x hx with hx | ⟨r, hr, e1, e2⟩
    · exact I.rch x hx
    · rw [← e2]
      exact .step hr (e1 ▸ I.rch c hc)
  · rcases List.mem_append.mp hx with hx | hx
    · exact List.mem_append_left _ (I.sub x (List.mem_append_left _ hx))
    · exact List.mem_append_right _ hx
  · rcases List.mem_append.mp hx with hx | hx
    · by_cases hxc : x = c
      · exact d r hr (e.trans hxc)
      · refine List.mem_append_left _ (I.cl x hx (fun z => ?_) r hr e)
        rcases List.mem_append.mp z with z | z
        · exact hw (List.mem_append_left _ z)
        · exact hxc (List.mem_singleton.mp z)
    · exact absurd (List.mem_append_right _ hx) hw
theorem ComeInv.done {rs : List Road} {root : Int} {fs : List Int} (I : ComeInv rs root fs []) (x : Int) : x ∈ fs ↔ Rch rs root x := by
  refine ⟨I.rch x, fun p => ?_⟩
  induction p with
  | root => exact I.rt
  | step hr _ ih => exact I.cl _ ih (by simp) _ hr rfl
theorem at_road (r : Road) : L2.atI [D.int r.1, .int r.2.1, .int r.2.2] 0 = some (.int r.1) ∧ L2.atI [D.int r.1, .int r.2.1, .int r.2.2] 1 = some (.int r.2.1) ∧ L2.atI [D.int r.1, .int r.2.1, .int r.2.2] 2 = some (.int r.2.2) := ⟨rfl, rfl, rfl⟩
end DW
/-! DWm: the memory: cells that data points to, changed through any pointer; defs that are handed the memory. -/
namespace DW
open PySem L2
/-- a cell holds another thing -/
def memU (μ : List (Addr × OO)) (p : Addr) (o : OO) : List (Addr × OO) := μ.map fun c => if c.1 = p then (c.1, o) else c
theorem memU_fst (μ : List (Addr × OO)) (p : Addr) (o : OO) : (memU μ p o).map Prod.fst = μ.map Prod.fst := by
  unfold memU
  rw [List.map_map]
  exact List.map_congr_left fun c _ => by
    show (if c.1 = p then (c.1, o) else c).1 = c.1
    split <;> rfl
theorem memU_mem {μ : List (Addr × OO)} {p q : Addr} {o u : OO} (h : (q, u) ∈ memU μ p o) : (q = p ∧ u = o ∧ ∃ w, (q, w) ∈ μ) ∨ (q ≠ p ∧ (q, u) ∈ μ) := by
  obtain ⟨c, hc, e⟩ := List.mem_map.mp h
  by_cases z : c.1 = p
  · rw [if_pos z] at e
    cases e
    exact .inl ⟨z, rfl, c.2, hc⟩
  · rw [if_neg z] at e
    cases e
    exact .inr ⟨z, hc⟩
section
variable {K : PySem.W.Frag} {F : Fm} {S H : Hp} {ρ : List SV} {σ : St} {m : Nat} {μ : List (Addr × OO)} {p : Addr} {o o' : OO}
theorem R.memAt (r : R K F S ρ σ H) (h : ρ[m]? = some (.mm μ)) : (μ.map Prod.fst).Nodup ∧ ∀ q o, (q, o) ∈ μ → F.B q = none ∧ S q = none ∧ OR K S H q o := by
  obtain ⟨ov, _, h2⟩ := r.at_ m _ h
  exact h2
/-- the slot of the memory is another -/
theorem R.setMem {H' : Hp} {μ' : List (Addr × OO)} (r : R K F S ρ σ H) (h : ρ[m]? = some (.mm μ)) (hb : Same F.B H') (hs : Same S H') (nd : (μ'.map Prod.fst).Nodup) (hc : ∀ q o, (q, o) ∈ μ' → F.B q = none ∧ S q = none ∧ OR K S H' q o)
    (hn : ∀ q o, (q, o) ∈ μ' → (∃ w, (q, w) ∈ μ) ∨ NoSl ρ σ q) (hk : ∀ (j : Nat) (y : SV) (ov : Option V) (q : Addr), j ≠ m → ρ[j]? = some y → σ[j]? = some ov → Has y ov q → H' q = H q) : R K F S (ρ.set m (.mm μ')) σ H' := by
  refine ⟨by rw [List.length_set]; exact r.len, by rw [List.length_set]; exact r.ln, hb, hs, fun j y e => ?_, fun a b x y ov ow q ha hb' sa sb xa yb => ?_⟩
  · rcases set_at e with ⟨rfl, rfl, hr⟩ | ⟨hj, e⟩
    · exact ⟨_, List.getElem?_eq_getElem (by rw [← r.len]; exact hr), nd, hc⟩
    · obtain ⟨ov, h5, h6⟩ := r.at_ j y e
      exact ⟨ov, h5, h6.mono (Same.refl S) fun q e2 hq => ⟨hq, hk j y ov q (Ne.symm hj) e h5 e2⟩⟩
  · have other : ∀ {j : Nat} {y : SV} {ov : Option V}, m ≠ j → ρ[j]? = some y → σ[j]? = some ov → Has y ov q → (∃ o, (q, o) ∈ μ') → False := fun {j y ov} hj e s x ⟨o, hx⟩ => by
      rcases hn q o hx with ⟨w, hw⟩ | hw
      · obtain ⟨om, s2, _⟩ := r.at_ m _ h
        exact hj (r.ap m j _ y _ ov q h e s2 s ⟨w, hw⟩ x)
      · exact hw j y ov e s x
    rcases set_at ha with ⟨rfl, rfl, _⟩ | ⟨n1, ha⟩
    · rcases set_at hb' with ⟨rfl, rfl, _⟩ | ⟨n2, hb'⟩
      · rfl
      · exact (other n2 hb' sb yb xa).elim
    · rcases set_at hb' with ⟨rfl, rfl, _⟩ | ⟨n2, hb'⟩
      · exact (other n1 ha sa xa yb).elim
      · exact r.ap a b x y ov ow q ha hb' sa sb xa yb
/-- a new thing is laid into the memory -/
theorem R.addM (r : R K F S ρ σ H) (h : ρ[m]? = some (.mm μ)) (hb : F.B p = none) (hs : S p = none) (hn : NoSl ρ σ p) (ho : OR K S H p o) : R K F S (ρ.set m (.mm (μ ++ [(p, o)]))) σ H := by
  obtain ⟨om, s2, _⟩ := r.at_ m _ h
  have np : ∀ w, (p, w) ∉ μ := fun w hw => hn m _ om h s2 ⟨w, hw⟩
  refine r.setMem h r.b r.s ?_ (fun q u hq => ?_) (fun q u hq => ?_) fun _ _ _ _ _ _ _ _ => rfl
  · rw [List.map_append, List.nodup_append]
    refine ⟨(r.memAt h).1, by simp, fun a ha b hb' e => ?_⟩
    subst e
    obtain ⟨c, hc, rfl⟩ := List.mem_map.mp ha
    have e : c.1 = p := by simpa using hb'
    exact np c.2 (e ▸ hc)
  · rcases List.mem_append.mp hq with hq | hq
    · exact (r.memAt h).2 q u hq
    · cases List.mem_singleton.mp hq
      exact ⟨hb, hs, ho⟩
  · rcases List.mem_append.mp hq with hq | hq
    · exact .inl ⟨u, hq⟩
    · cases List.mem_singleton.mp hq
      exact .inr hn
/-- a cell's thing is changed -/
theorem R.setM {u : HO} (r : R K F S ρ σ H) (h : ρ[m]? = some (.mm μ)) (hp : μ.lookup p = some o) (hu : OR K S (upd H p u) p o') : R K F S (ρ.set m (.mm (memU μ p o'))) σ (upd H p u) := by
  have hm := look_mem hp
  obtain ⟨nd, hc⟩ := r.memAt h
  obtain ⟨b1, s1, _⟩ := hc p o hm
  have ne : ∀ {X : Hp} {a : Addr} {w : HO}, X p = none → X a = some w → a ≠ p := fun n e z => by rw [z, n] at e; cases e
  obtain ⟨om, sm, _⟩ := r.at_ m _ h
  refine r.setMem h (fun a w e => by rw [upd_ne (ne b1 e)]; exact r.b a w e) (fun a w e => by rw [upd_ne (ne s1 e)]; exact r.s a w e) (by rw [memU_fst]; exact nd) (fun q w hq => ?_) (fun q w hq => ?_) fun j y ov q hj e s x => ?_
  · rcases memU_mem hq with ⟨rfl, rfl, _⟩ | ⟨hn, hq⟩
    · exact ⟨b1, s1, hu⟩
    · obtain ⟨a, b, c⟩ := hc q w hq
      exact ⟨a, b, c.upd_ne hn⟩
  · rcases memU_mem hq with ⟨_, _, z⟩ | ⟨_, hq⟩
    · exact .inl z
    · exact .inl ⟨w, hq⟩
  · exact upd_ne fun z => hj (r.ap j m y _ ov om p e h s sm (z ▸ x) ⟨o, hm⟩)
end
/-- the memory in the slot m -/
def atM (ρ : List SV) (m : Nat) (k : List (Addr × OO) → Prop) : Prop := match ρ[m]? with
  | some (.mm μ) => k μ
  | _ => False
theorem atM_ok {ρ : List SV} {m : Nat} {k : List (Addr × OO) → Prop} (h : atM ρ m k) : ∃ μ, ρ[m]? = some (.mm μ) ∧ k μ := by
  unfold atM at h
  split at h
  · exact ⟨_, ‹_›, h⟩
  · exact h.elim
/-- a new thing, laid into the memory -/
def dToM (m : Nat) (de : DTE) : DTE := fun ρ Q E => de ρ (fun x ρ1 => match x with
  | .fr o => atM ρ1 m fun μ => ∀ p, (∀ u, (p, u) ∉ μ) → Q (.d (.ptr p)) (ρ1.set m (.mm (μ ++ [(p, o)])))
  | _ => False) E
section
variable {X : Cx} {W : WX} {e : Expr} {es : List Expr} {pos : Pos} {de da : DTE} {dl : DTA}
theorem d_toM (m : Nat) (h : DE X W e de) : DE X W e (dToM m de) := by
  refine pe_imp h fun σ H QQ ⟨F, S, ρ, Q, Ee, r, h, kq, ke⟩ => ⟨F, S, ρ, _, Ee, r, h, fun v x S1 ρ1 H1 g1 r1 vr1 q1 => ?_, ke⟩
  cases x with
  | fr o =>
    obtain ⟨p, rfl, h1, h2, h3, h4⟩ := vr1
    obtain ⟨μ, e, q⟩ := atM_ok q1
    obtain ⟨om, sm, _⟩ := r1.at_ m _ e
    exact kq _ (.d (.ptr p)) S1 _ H1 g1 (r1.addM e h1 h2 h3 h4) rfl (q p fun u hu => h3 m _ om e sm ⟨u, hu⟩)
  | _ => exact False.elim q1
/-- o.f = e, o a pointer -/
def dSetFM (m : Nat) (C0 : Addr) (f : Str) (da de : DTE) : DTS := fun De ρ => de ρ (fun z ρ1 => stab z ρ1 fun b ρ2 => da ρ2 (fun x ρ3 => match x with
  | .d (.ptr p) => atM ρ3 m fun μ => match μ.lookup p with
    | some (.i C fs) => C = C0 ∧ fs.length ≤ 900 ∧ De.nx (ρ3.set m (.mm (memU μ p (.i C0 (putFD f b fs)))))
    | _ => False
  | _ => False) De.ex) De.ex
theorem d_setFM (m : Nat) {C0 : Addr} {f : Str} {o : Expr} {pos' : Pos} (c1 : Cls X.K C0) (c2 : NoAttr X.K C0 f) (ho : DE X W o da) (he : DE X W e de)
    (hs : swapsWith e (some (.Attribute o f pos')) pos.line X.env = pure false := by rfl) : DS X W (.Assign [.Attribute o f pos'] e pos) (dSetFM m C0 f da de) := by
  refine ps_imp (ps_fld ho he hs) fun D σ H ⟨F, S, ρ, De, r, h, k1, k2, k3, k4, k5⟩ => ?_
  refine ⟨F, S, ρ, _, _, r, h, fun v x S1 ρ1 H1 g1 r1 vr1 q1 => ?_, fun er cls d S' ρ' H' g' r' => k5 er cls d ρ' σ S' H' g' r'⟩
  obtain ⟨b, S2, ρ2, g2, r2, p2, q2⟩ := VR.stab r1 vr1 q1
  refine ⟨F, S2, ρ2, _, _, r2, q2, fun w z S3 ρ3 H3 g3 r3 vr3 q3 => ?_, fun er cls d S' ρ' H' g' r' => k5 er cls d ρ' σ S' H' ((g1.trans g2).trans g') r'⟩
  cases z with
  | d a =>
    cases a with
    | ptr p =>
      have vr3 : w = .ref p := vr3
      obtain ⟨μ, e, q4⟩ := atM_ok q3
      cases l : μ.lookup p with
      | none => simp only [l] at q4
      | some oo =>
        cases oo with
        | i C fs =>
          simp only [l] at q4
          obtain ⟨rfl, q4, q5⟩ := q4
          obtain ⟨_, _, dx, ws, a4, a5⟩ := (r3.memAt e).2 p _ (look_mem l)
          refine ⟨p, C, dx, ws, vr3, a4, c1, c2, by rw [a5.length]; omega, ?_⟩
          exact k1 _ σ S3 _ ((g1.trans g2).trans g3) (r3.setM e l (OR.mkI (a5.put f (Rp.mono g3.s p2)))) q5
        | _ => simp only [l] at q4
    | _ => exact False.elim q3
  | _ => exact False.elim q3
/-- a method of a list in the memory -/
def dLMM (m : Nat) (g : DLM) (da : DTE) (dl : DTA) : DTE := fun ρ Q E => da ρ (fun x ρ1 => match x with
  | .d (.ptr p) => (atM ρ1 m fun μ => match μ.lookup p with | some (.l _) => True | _ => False) ∧ dl ρ1 (fun as ρ2 => atM ρ2 m fun μ => match μ.lookup p with
    | some (.l xs) => g xs as fun c ys => Q (.d c) (ρ2.set m (.mm (memU μ p (.l ys))))
    | _ => False) E
  | _ => False) E
theorem d_lmM (m : Nat) {o : Expr} {name : Str} {id : String} {r : V → List V → Hp → VK → Prop} {g : DLM} {apos cpos : Pos} (slot : Slot "list" name id) (hty : typeOf (.builtin id) = pure (.type "method_descriptor")) (hm : MtR X id r) (hok : MtOk X.K g r) (ho : DE X W o da) (ha : DA X W (e :: es) dl)
    (hbase : attributeBase o name X.env (eval o X.env) = eval o X.env := by rfl)
    (hfew : ((backTo cpos (starEach (e :: es) X.env)).all (fun x => !x.1) && (backToKw cpos (keywordEach [] X.env)).all (fun x => x.1.isSome) && decide ((e :: es).length + ([] : List Keyword).length + (if ([] : List Keyword).isEmpty then 0 else 1) < 30)) = true := by rfl)
    (hline : (apos.endLine == cpos.line) = true := by rfl) (hs : starEach (e :: es) X.env = (false, eval e X.env) :: starEach es X.env := by rfl) (hpl : (backTo cpos (starEach es X.env)).any (·.1) = false := by rfl) :
    DE X W (.Call (.Attribute o name apos) (e :: es) [] cpos) (dLMM m g da dl) := by
  refine pe_imp (pe_bm PySem.F.plainAttrs_list slot hty hm ho ha hbase hfew hline hs hpl) fun σ H QQ ⟨F, S, ρ, Q, Ee, rr, h, kq, ke⟩ => ?_
  refine ⟨F, S, ρ, _, Ee, rr, h, fun v x S1 ρ1 H1 g1 r1 vr1 q1 => ?_, ke⟩
  cases x with
  | d a =>
    cases a with
    | ptr p =>
      have vr1 : v = .ref p := vr1
      subst vr1
      obtain ⟨q0, q1⟩ := q1
      obtain ⟨μ0, e0, q0⟩ := atM_ok q0
      cases l0 : μ0.lookup p with
      | none => simp only [l0] at q0
      | some oo0 =>
        cases oo0 with
        | l xs0 =>
          obtain ⟨_, _, vs0, a0, _⟩ := (r1.memAt e0).2 p _ (look_mem l0)
          refine ⟨.inl ⟨rfl, _, SqL.of a0⟩, F, S1, ρ1, _, Ee, r1, q1, fun ws as S2 ρ2 H2 g2 r2 p2 q2 => ?_, fun er cls d S' ρ' H' g' r' => ke er cls d S' ρ' H' (g1.trans g') r'⟩
          obtain ⟨μ, e, q3⟩ := atM_ok q2
          cases l : μ.lookup p with
          | none => simp only [l] at q3
          | some oo =>
            cases oo with
            | l xs =>
              simp only [l] at q3
              obtain ⟨_, hs, vs, a4, a5⟩ := (r2.memAt e).2 p _ (look_mem l)
              exact hok S2 H2 p xs as vs ws _ QQ r2.s hs a4 a5 p2 q3 fun v c ys us h1 h2 h3 => kq v (.d c) S2 _ _ (g1.trans g2) (r2.setM e l (OR.mkL h2)) h1 h3
            | _ => simp only [l] at q3
        | _ => simp only [l0] at q0
    | _ => exact False.elim q1
  | _ => exact False.elim q1
end

/-! ### defs that are handed the memory: it stands as one more argument behind the others -/
def spDM (K : PySem.W.Frag) (n : Nat) (G : DSp) : Sp := fun vs H QQ EE => vs.length = n ∧ ∃ (B S : Hp) (as : List SV) (μ : List (Addr × OO)) (Q : DV → List SV → Prop) (Ee : DExc → List SV → Prop), R K ⟨B, vs ++ [V.non], n + 1⟩ S as ((vs ++ [V.non]).map some) H ∧ as[n]? = some (.mm μ) ∧ G as Q Ee ∧
  (∀ v x S' as' H', Gr B S S' → R K ⟨B, vs ++ [V.non], n + 1⟩ S' as' ((vs ++ [V.non]).map some) H' → VR K ⟨B, vs ++ [V.non], n + 1⟩ S' as' ((vs ++ [V.non]).map some) H' v x → (∀ i, x ≠ .sl i) → (∀ p, x ≠ .me p) → Q x as' → QQ v H') ∧
  (∀ e cls d S' as' H', Gr B S S' → R K ⟨B, vs ++ [V.non], n + 1⟩ S' as' ((vs ++ [V.non]).map some) H' → XR K S' H' e cls d → Ee e as' → EE cls d H')
section
variable {K : PySem.W.Frag} {F : Fm} {S H : Hp} {ρ : List SV} {σ : St} {m : Nat} {μ : List (Addr × OO)}
/-- what stands in the memory's slot of the store is of no account -/
theorem R.sigma (r : R K F S ρ σ H) (h : ρ[m]? = some (.mm μ)) (ov : Option V) : R K F S ρ (σ.set m ov) H := by
  have hm : m < ρ.length := (List.getElem?_eq_some_iff.mp h).1
  have old : ∀ {i : Nat} {ow : Option V}, (σ.set m ov)[i]? = some ow → i ≠ m → σ[i]? = some ow := fun {i ow} e n => by rw [List.getElem?_set_ne (Ne.symm n)] at e; exact e
  have cnv : ∀ {i : Nat} {x : SV} {ow : Option V} {q : Addr}, ρ[i]? = some x → (σ.set m ov)[i]? = some ow → Has x ow q → ∃ oz, σ[i]? = some oz ∧ Has x oz q := fun {i x ow q} hx e z => by
    by_cases hi : i = m
    · subst hi
      rw [h] at hx
      cases hx
      obtain ⟨oz, e2, _⟩ := r.at_ i _ h
      exact ⟨oz, e2, z⟩
    · exact ⟨ow, old e hi, z⟩
  refine ⟨by rw [List.length_set]; exact r.len, r.ln, r.b, r.s, fun i x hx => ?_, fun i j x y ow oz q hx hy sx sy ox oy => ?_⟩
  · obtain ⟨ow, e1, e2⟩ := r.at_ i x hx
    by_cases hi : i = m
    · subst hi
      rw [h] at hx
      cases hx
      exact ⟨ov, List.getElem?_set_self (by rw [← r.len]; exact hm), e2⟩
    · exact ⟨ow, by rw [List.getElem?_set_ne (Ne.symm hi)]; exact e1, e2⟩
  · obtain ⟨a1, b1, c1⟩ := cnv hx sx ox
    obtain ⟨a2, b2, c2⟩ := cnv hy sy oy
    exact r.ap i j x y a1 a2 q hx hy b1 b2 c1 c2
theorem start_set {N : List Str} {vs : List V} (h : vs.length < N.length) : (L2.start N (vs ++ [V.non])).set vs.length none = L2.start N vs := by
  unfold L2.start
  refine List.ext_getElem? fun i => ?_
  have l1 : (vs.map some ++ [some V.non]).length = vs.length + 1 := by simp
  by_cases hi : i = vs.length
  · subst hi
    rw [List.getElem?_set_self (by simp <;> omega), List.getElem?_append_right (by simp), List.getElem?_replicate, if_pos (by rw [List.length_map]; omega)]
  · rw [List.getElem?_set_ne (Ne.symm hi), List.map_append]
    by_cases h2 : i < vs.length
    · rw [List.getElem?_append_left (by simp; omega), List.getElem?_append_left (by simp; omega), List.getElem?_append_left (by simp; omega)]
    · rw [List.getElem?_append_right (by simp; omega), List.getElem?_append_right (by simp; omega), List.getElem?_replicate, List.getElem?_replicate]
      by_cases h3 : i < N.length
      · rw [if_pos (by simp; omega), if_pos (by simp; omega)]
      · rw [if_neg (by simp; omega), if_neg (by simp; omega)]
open PySem.Spec PyProof.Rows in
/-- THE RULE for a def that is handed the memory -/
theorem fn_DM {P : Program} {w : World} {mg : Str → Option Value} {base : Heap} {x qual : Str} {st : Stmt} {f : Addr} {fd : FuncData} {N ps : List Str} {k : Nat} {body : DTS} (F : Fun K x qual st f fd) (S : FnScope N ps (defScope st)) (hN : ps.length < N.length)
    (h : ∀ (cdv : Value) (A : Around) (outer : List Env) (s : Shared) (H : Hp) (E : XK), Room k (A.deeper (envOfC qual (defScope st) s.heap.objs.size f cdv)) →
      DSs (cxOf (L2N.CX P w) P w K mg base N qual (defScope st) f cdv A outer s H E) (fun cls d _ H' => E cls d H') (defBody st) body) :
    FnOk P w K mg base (L2N.CX P w) (k + 1) f fd ps (spDM K ps.length (dRun (ps.length + 1) (N.length - (ps.length + 1)) body)) := by
  refine fun_okN F S (fun vs H Q E q => q.1) fun cdv A outer s H vs Q E hr ⟨hl, B, S0, as, μ, Qd, Ee, r, hm, g, kq, ke⟩ => ⟨_, h cdv A outer s H E hr, ?_⟩
  have hl2 : (vs ++ [V.non]).length = ps.length + 1 := by rw [List.length_append, hl]; rfl
  have r0 := R.start (N := N) r (by rw [hl2]; omega)
  have lo : as.length = ps.length + 1 := by rw [r.len, List.length_map, hl2]
  have hm2 : (as ++ List.replicate (N.length - (vs ++ [V.non]).length) SV.un)[vs.length]? = some (.mm μ) := by
    rw [List.getElem?_append_left (by omega), hl]
    exact hm
  have r1 := r0.sigma hm2 none
  rw [start_set (by omega)] at r1
  rw [hl2] at r1
  refine ⟨_, S0, _, _, r1, g, fun ρ' σ' S' H' g' r' q' => ?_, fun v x ρ' σ' S' H' g' r' vr' q' => ?_, fun _ _ _ _ _ _ z => z.elim, fun _ _ _ _ _ _ z => z.elim, fun e cls d ρ' σ' S' H' g' r' xr' q' => ?_⟩
  · exact kq .non (.d .non) S' _ H' g' (R.out r' hl2 (by omega)) rfl (fun _ z => nomatch z) (fun _ z => nomatch z) q'
  · obtain ⟨y, q2, vr2, ny⟩ := VR.out (n := ps.length + 1) (k := fun y => Qd y (outS (ps.length + 1) ρ')) r' vr' hl2 q'
    exact kq v y S' _ H' g' (R.out r' hl2 (by omega)) vr2 ny.1 ny.2 q2
  · exact ke e cls d S' _ H' g' (R.out r' hl2 (by omega)) xr' q'
theorem fn_shutM {P : Program} {w : World} {K : PySem.W.Frag} {mg : Str → Option Value} {base : Heap} {CX : CXT} {k n : Nat} {f : Addr} {fd : FuncData} {ps : List Str} {G : DSp} (h : FnOk P w K mg base CX k f fd ps (spDM K n G)) : FnOk P w K mg base CX k f fd ps (spDM K n (shut G)) := (shut_eq G).symm ▸ h
/-- the heap without the memory -/
def hideM (H : Hp) (μ : List (Addr × OO)) : Hp := fun a => if (μ.map Prod.fst).contains a then none else H a
theorem hideM_in {a : Addr} {o : OO} (h : (a, o) ∈ μ) : hideM H μ a = none := if_pos (by simp; exact ⟨o, h⟩)
theorem hideM_out {a : Addr} (h : ∀ o, (a, o) ∉ μ) : hideM H μ a = H a := if_neg (by simp; exact h)
/-- behind a call that was handed the memory -/
theorem ret_mem {B' S' H' : Hp} {ws : List V} {n' j : Nat} {bs : List SV} {σ' : St} {μ' : List (Addr × OO)} (r : R K F S ρ σ H) (h : ρ[m]? = some (.mm μ)) (hB : Same (hideM H μ) B') (hF : Same F.B B')
    (r' : R K ⟨B', ws, n'⟩ S' bs σ' H') (hj : bs[j]? = some (.mm μ')) (g' : Gr B' S S') :
    Gr F.B S S' ∧ R K F S' (ρ.set m (.mm μ')) σ H' ∧ ∀ q, B' q = none → (∀ o, (q, o) ∉ μ') → NoSl (ρ.set m (.mm μ')) σ q := by
  obtain ⟨om, sm, _⟩ := r.at_ m _ h
  have sB : Same B' H' := r'.b
  have far : ∀ {k : Nat} {y : SV} {ov : Option V} {q : Addr}, k ≠ m → ρ[k]? = some y → σ[k]? = some ov → Has y ov q → ∃ u, H q = some u ∧ (∀ xs, u ≠ .tup xs) ∧ B' q = some u := fun {k y ov q} hk e s x => by
    obtain ⟨_, _, o, h3⟩ := r.held e s x
    obtain ⟨u, hu, nt⟩ := h3.nt
    have nm : ∀ w, (q, w) ∉ μ := fun w hw => hk (r.ap k m y _ ov om q e h s sm x ⟨w, hw⟩)
    exact ⟨u, hu, nt, hB q u ((hideM_out nm).trans hu)⟩
  obtain ⟨nd', hc'⟩ := r'.memAt hj
  refine ⟨⟨g'.s, fun a u h1 h2 => (g'.n a u h1 h2).imp (fun z => hF.free z) id⟩, ⟨by rw [List.length_set]; exact r.len, by rw [List.length_set]; exact r.ln, hF.trans sB, r'.s, fun k y e => ?_, fun a b x y ov ow q ha hb sa sb xa yb => ?_⟩, fun q hq hn k y ov e s x => ?_⟩
  · rcases set_at e with ⟨rfl, rfl, hr⟩ | ⟨hk, e⟩
    · exact ⟨om, sm, nd', fun q o hq => ⟨hF.free (hc' q o hq).1, (hc' q o hq).2⟩⟩
    · obtain ⟨ov, h5, h6⟩ := r.at_ k y e
      refine ⟨ov, h5, h6.mono g'.s fun q x hq => ?_⟩
      obtain ⟨u, hu, nt, hb⟩ := far (Ne.symm hk) e h5 x
      have hh := sB q u hb
      exact ⟨g'.free hq (by show B' q ≠ none; rw [hb]; exact fun z => nomatch z) fun xs z => nt xs (Option.some.inj (hh.symm.trans (r'.s q _ z))), by rw [hh, hu]⟩
  · have clash : ∀ {k : Nat} {y : SV} {ov : Option V}, m ≠ k → ρ[k]? = some y → σ[k]? = some ov → Has y ov q → (∃ o, (q, o) ∈ μ') → False := fun {k y ov} hk e s x ⟨o, ho⟩ => by
      obtain ⟨u, hu, nt, hb⟩ := far (Ne.symm hk) e s x
      have := (hc' q o ho).1
      have this : B' q = none := this
      rw [hb] at this
      cases this
    rcases set_at ha with ⟨rfl, rfl, _⟩ | ⟨n1, ha⟩
    · rcases set_at hb with ⟨rfl, rfl, _⟩ | ⟨n2, hb⟩
      · rfl
      · exact (clash n2 hb sb yb xa).elim
    · rcases set_at hb with ⟨rfl, rfl, _⟩ | ⟨n2, hb⟩
      · exact (clash n1 ha sa xa yb).elim
      · exact r.ap a b x y ov ow q ha hb sa sb xa yb
  · rcases set_at e with ⟨rfl, rfl, _⟩ | ⟨n1, e⟩
    · obtain ⟨o, ho⟩ := x
      exact hn o ho
    · obtain ⟨u, hu, nt, hb⟩ := far (Ne.symm n1) e s x
      rw [hq] at hb
      cases hb
theorem RpL.slotsM {as : List D} {vs : List V} {B' : Hp} (p : RpL K S as vs) (hm : (μ.map Prod.fst).Nodup) (hc : ∀ q o, (q, o) ∈ μ → B' q = none ∧ S q = none ∧ OR K S H q o) (i : Nat) (x : SV) (e : (as.map SV.d ++ [SV.mm μ])[i]? = some x) :
    ∃ ov : Option V, ((vs ++ [V.non]).map some)[i]? = some ov ∧ ∀ arg, SR K B' S H ov arg x := by
  have ln := p.length
  by_cases hi : i < as.length
  · rw [List.getElem?_append_left (by simpa using hi)] at e
    obtain ⟨ov, e1, e2⟩ := p.slots (H := H) (B := B') i x e
    refine ⟨ov, ?_, e2⟩
    rw [List.map_append, List.getElem?_append_left (by simp; omega)]
    exact e1
  · rw [List.getElem?_append_right (by simp; omega), List.length_map] at e
    have hz : i - as.length = 0 := by
      cases z : i - as.length with
      | zero => rfl
      | succ k => rw [z] at e; simp at e
    rw [hz] at e
    cases e
    refine ⟨some .non, ?_, fun _ => ⟨hm, hc⟩⟩
    rw [List.map_append, List.getElem?_append_right (by simp; omega), List.length_map, ln, hz]
    rfl
theorem has_dm {as : List D} {i : Nat} {x : SV} {ov : Option V} {q : Addr} (e : (as.map SV.d ++ [SV.mm μ])[i]? = some x) (ho : Has x ov q) : i = as.length := by
  by_cases hi : i < as.length
  · rw [List.getElem?_append_left (by simpa using hi)] at e
    exact (own_d e ho).elim
  · rw [List.getElem?_append_right (by simp; omega), List.length_map] at e
    cases z : i - as.length with
    | zero => omega
    | succ k => rw [z] at e; simp at e
/-- a call with told arguments and the memory -/
theorem callM_ok {n : Nat} {G : DSp} {as : List D} {vs : List V} {Q : DV → List SV → Prop} {E : DExc → List SV → Prop} {QQ : VK} {EE : XK} (r : R K F S ρ σ H) (hm : ρ[m]? = some (.mm μ)) (p : RpL K S as vs) (hn : vs.length = n)
    (h : G (as.map .d ++ [.mm μ]) (fun x bs => ∃ μ', bs[n]? = some (.mm μ') ∧ Q x (ρ.set m (.mm μ'))) (fun e bs => ∃ μ', bs[n]? = some (.mm μ') ∧ E e (ρ.set m (.mm μ'))))
    (kq : ∀ v x S' ρ' H', Gr F.B S S' → R K F S' ρ' σ H' → VR K F S' ρ' σ H' v x → Q x ρ' → QQ v H') (ke : ∀ e cls d S' ρ' H', Gr F.B S S' → R K F S' ρ' σ H' → XR K S' H' e cls d → E e ρ' → EE cls d H') : spDM K n G vs H QQ EE := by
  obtain ⟨nd, hc⟩ := r.memAt hm
  have ln := p.length
  have lm : as.length = n := by omega
  have r1 : R K ⟨hideM H μ, vs ++ [V.non], n + 1⟩ S (as.map .d ++ [.mm μ]) ((vs ++ [V.non]).map some) H := ⟨by simp [ln], by simp [lm], fun a u e => by
    have e : hideM H μ a = some u := e
    have : ∀ o, (a, o) ∉ μ := fun o z => by rw [hideM_in z] at e; cases e
    rw [hideM_out this] at e
    exact e, r.s, fun i x e => by
    obtain ⟨ov, e1, e2⟩ := RpL.slotsM (H := H) (B' := hideM H μ) p nd (fun q o z => ⟨hideM_in z, (hc q o z).2⟩) i x e
    exact ⟨ov, e1, e2 _⟩, fun i j x y ov ow q ha hb _ _ xa yb => (has_dm ha xa).trans (has_dm hb yb).symm⟩
  have hF : Same F.B (hideM H μ) := fun a u e => by
    have : ∀ o, (a, o) ∉ μ := fun o z => by rw [(hc a o z).1] at e; cases e
    rw [hideM_out this]
    exact r.b a u e
  refine ⟨hn, hideM H μ, S, _, μ, _, _, r1, by rw [List.getElem?_append_right (by simp; omega)]; simp [lm], h, fun v x S' bs H' g' r' vr' nx ny q' => ?_, fun e cls d S' bs H' g' r' xr' q' => ?_⟩
  · obtain ⟨μ', hj, q'⟩ := q'
    obtain ⟨g2, r2, ns⟩ := ret_mem r hm (Same.refl _) hF r' hj g'
    refine kq v x S' _ H' g2 r2 ?_ q'
    cases x with
    | d a => exact vr'
    | fr o =>
      obtain ⟨q, e1, h1, h2, h3, h4⟩ := vr'
      obtain ⟨oz, sz, _⟩ := r'.at_ n _ hj
      exact ⟨q, e1, hF.free h1, h2, ns q h1 fun u hu => h3 n _ oz hj sz ⟨u, hu⟩, h4⟩
    | sl i => exact absurd rfl (nx i)
    | me q => exact absurd rfl (ny q)
  · obtain ⟨μ', hj, q'⟩ := q'
    obtain ⟨g2, r2, _⟩ := ret_mem r hm (Same.refl _) hF r' hj g'
    exact ke e cls d S' _ H' g2 r2 xr' q'
/-- a making that is handed the memory -/
theorem makeM_ok {n : Nat} {C x dx : Addr} {G : DSp} {as : List D} {vs : List V} {Q : OO → List SV → Prop} {E : DExc → List SV → Prop} {QQ : VK} {EE : XK} (r : R K F S ρ σ H) (hm : ρ[m]? = some (.mm μ)) (hx : H x = none) (hdx : H dx = none) (hne : dx ≠ x) (p : RpL K S as vs) (hn : vs.length + 1 = n)
    (h : G (.rf (.i C []) :: (as.map .d ++ [.mm μ])) (fun z bs => ∃ o' μ', bs[0]? = some (.rf o') ∧ bs[n]? = some (.mm μ') ∧ z = .d .non ∧ Q o' (ρ.set m (.mm μ'))) (fun e bs => ∃ μ', bs[n]? = some (.mm μ') ∧ E e (ρ.set m (.mm μ'))))
    (kq : ∀ o' S' ρ' H', Gr F.B S S' → R K F S' ρ' σ H' → VR K F S' ρ' σ H' (.ref x) (.fr o') → Q o' ρ' → QQ (.ref x) H') (ke : ∀ e cls d S' ρ' H', Gr F.B S S' → R K F S' ρ' σ H' → XR K S' H' e cls d → E e ρ' → EE cls d H') :
    spDM K n G (.ref x :: vs) (upd (upd H dx (.own x)) x (.ins C dx [])) (fun v H2 => v = .non ∧ QQ (.ref x) H2) EE := by
  obtain ⟨nd, hc⟩ := r.memAt hm
  have ln := p.length
  have lm : as.length + 1 = n := by omega
  have inH : ∀ {q : Addr} {o : OO}, (q, o) ∈ μ → H q ≠ none := fun {q o} z e => by
    obtain ⟨u, hu⟩ := (hc q o z).2.2.there
    rw [e] at hu
    cases hu
  have nx : ∀ o, (x, o) ∉ μ := fun o z => inH z hx
  have hB : upd H dx (.own x) x = none := by rw [upd_ne (Ne.symm hne)]; exact hx
  have sH : Same H (upd H dx (.own x)) := fun c w e => by rw [upd_ne (ne_of_none e hdx)]; exact e
  have hSx : S x = none := r.s.free hx
  have r0 : R K F S ρ σ (upd (upd H dx (.own x)) x (.ins C dx [])) := by
    have b1 := r.newB hdx
    have r2 := r.beside (u := .own x) b1.1 b1.2 (NoSl.new r hdx)
    have b2 := r2.newB hB
    exact r2.beside b2.1 b2.2 (NoSl.new r2 hB)
  have hBx : hideM (upd H dx (.own x)) μ x = none := by rw [hideM_out nx]; exact hB
  have s1 : Same (hideM H μ) (hideM (upd H dx (.own x)) μ) := fun a u e => by
    have : ∀ o, (a, o) ∉ μ := fun o z => by rw [hideM_in z] at e; cases e
    rw [hideM_out this] at e ⊢
    exact sH a u e
  have hF : Same F.B (hideM (upd H dx (.own x)) μ) := fun a u e => by
    have : ∀ o, (a, o) ∉ μ := fun o z => by rw [(hc a o z).1] at e; cases e
    rw [hideM_out this]
    exact sH a u (r.b a u e)
  have has : ∀ {j : Nat} {z : SV} {ov : Option V} {q : Addr}, (SV.rf (.i C []) :: (as.map SV.d ++ [SV.mm μ]))[j]? = some z → ((V.ref x :: (vs ++ [V.non])).map some)[j]? = some ov → Has z ov q → (j = 0 ∧ q = x) ∨ (j = n ∧ ∃ o, (q, o) ∈ μ) := fun {j z ov q} e s w => by
    cases j with
    | zero =>
      cases e
      cases s
      have w : some (V.ref x) = some (V.ref q) := w
      cases w
      exact .inl ⟨rfl, rfl⟩
    | succ j =>
      have e : (as.map SV.d ++ [SV.mm μ])[j]? = some z := by simpa using e
      have hj := has_dm e w
      refine .inr ⟨by omega, ?_⟩
      rw [hj, List.getElem?_append_right (by simp)] at e
      simp at e
      rw [← e] at w
      exact w
  have r1 : R K ⟨hideM (upd H dx (.own x)) μ, .ref x :: vs ++ [V.non], n + 1⟩ S (.rf (.i C []) :: (as.map .d ++ [.mm μ])) ((V.ref x :: vs ++ [V.non]).map some) (upd (upd H dx (.own x)) x (.ins C dx [])) := by
    refine ⟨by simp [ln], by simp [lm], fun c w e => ?_, r0.s, fun j z e => ?_, fun i j a b ov ow q ha hb sa sb xa yb => ?_⟩
    · have e : hideM (upd H dx (.own x)) μ c = some w := e
      have h1 : ∀ o, (c, o) ∉ μ := fun o z => by rw [hideM_in z] at e; cases e
      have h2 : c ≠ x := fun z => by rw [z, hBx] at e; cases e
      rw [hideM_out h1] at e
      rw [upd_ne h2]
      exact e
    · cases j with
      | zero =>
        cases e
        exact ⟨_, rfl, x, rfl, rfl, hBx, hSx, dx, [], upd_same, rfl⟩
      | succ j =>
        obtain ⟨ov, e1, e2⟩ := RpL.slotsM (H := upd (upd H dx (.own x)) x (.ins C dx [])) (B' := hideM (upd H dx (.own x)) μ) p nd (fun q o z => ⟨hideM_in z, (hc q o z).2.1, (r0.memAt hm).2 q o z |>.2.2⟩) j z (by simpa using e)
        exact ⟨ov, by simpa using e1, e2 _⟩
    · rcases has ha sa xa with ⟨h1, h2⟩ | ⟨h1, o, h2⟩ <;> rcases has hb sb yb with ⟨h3, h4⟩ | ⟨h3, o', h4⟩
      · omega
      · exact absurd (h2 ▸ h4) (nx o')
      · exact absurd (h4 ▸ h2) (nx o)
      · omega
  refine ⟨by rw [List.length_cons]; exact hn, _, S, _, μ, _, _, r1, by subst hn; simp [ln], h, fun v z S' bs H' g' r' vr' nx' ny' q' => ?_, fun e cls d S' bs H' g' r' xr' q' => ?_⟩
  · obtain ⟨o', μ', h0, hj, rfl, q'⟩ := q'
    obtain ⟨g2, r2, ns⟩ := ret_mem r hm s1 hF r' hj g'
    obtain ⟨ov, e1, pp, e2, e3, b1, s1', or1⟩ := r'.at_ 0 (.rf o') h0
    have e1 : some (some (V.ref x)) = some ov := e1
    cases e1
    cases e2
    obtain ⟨oz, sz, _⟩ := r'.at_ n _ hj
    refine ⟨vr', kq o' S' _ H' g2 r2 ⟨x, rfl, hF.free b1, s1', ns x b1 fun u hu => ?_, or1⟩ q'⟩
    have := r'.ap 0 n _ _ _ oz x h0 hj rfl sz rfl ⟨u, hu⟩
    omega
  · obtain ⟨μ', hj, q'⟩ := q'
    obtain ⟨g2, r2, _⟩ := ret_mem r hm s1 hF r' hj g'
    exact ke e cls d S' _ H' g2 r2 xr' q'
end
/-! ### calls that are handed the memory, by pure readings -/
def backM (m n : Nat) (ρ : List SV) (bs : List SV) (k : List SV → Prop) : Prop := match bs[n]? with
  | some (.mm μ') => k (ρ.set m (.mm μ'))
  | _ => False
theorem backM_eq (m n : Nat) (ρ bs : List SV) (k : List SV → Prop) : backM m n ρ bs k = ∃ μ', bs[n]? = some (.mm μ') ∧ k (ρ.set m (.mm μ')) := by
  unfold backM
  split
  · rename_i μ' z
    exact propext ⟨fun h => ⟨_, z, h⟩, fun ⟨_, e, h⟩ => by rw [z] at e; cases e; exact h⟩
  · rename_i hno
    exact propext ⟨fun h => h.elim, fun ⟨_, e, _⟩ => (hno _ e).elim⟩
def backO (x : DV) (m n : Nat) (ρ : List SV) (bs : List SV) (k : OO → List SV → Prop) : Prop := match x, bs[0]?, bs[n]? with
  | .d .non, some (SV.rf o), some (SV.mm μ') => k o (ρ.set m (.mm μ'))
  | _, _, _ => False
theorem backO_eq (x : DV) (m n : Nat) (ρ bs : List SV) (k : OO → List SV → Prop) : backO x m n ρ bs k = ∃ o' μ', bs[0]? = some (.rf o') ∧ bs[n]? = some (.mm μ') ∧ x = .d .non ∧ k o' (ρ.set m (.mm μ')) := by
  unfold backO
  split
  · rename_i h1 h2
    exact propext ⟨fun h => ⟨_, _, h1, h2, rfl, h⟩, fun ⟨_, _, e1, e2, _, h⟩ => by rw [h1] at e1; rw [h2] at e2; cases e1; cases e2; exact h⟩
  · rename_i hno
    exact propext ⟨fun h => h.elim, fun ⟨_, _, e1, e2, e3, _⟩ => (hno _ _ e3 e1 e2).elim⟩
def dCallM (m n : Nat) (G : DSp) (dl : DTA) : DTE := fun ρ Q E => dl ρ (fun as ρ1 => as.length = n ∧ atM ρ1 m fun μ => G (as.map .d ++ [.mm μ]) (fun x bs => backM m n ρ1 bs (Q x)) (fun e bs => backM m n ρ1 bs (E e))) E
/-- a method of what data points to -/
def dMethM (m n : Nat) (C0 : Addr) (f : Str) (G : DSp) (de : DTE) (dl : DTA) : DTE := fun ρ Q E => de ρ (fun x ρ1 => match x with
  | .d (.ptr p) => (atM ρ1 m fun μ => match μ.lookup p with | some (.i C fs) => C = C0 ∧ fs.lookup f = none | _ => False) ∧ dl ρ1 (fun as ρ2 => as.length + 1 = n ∧ atM ρ2 m fun μ => G (.d (.ptr p) :: as.map .d ++ [.mm μ]) (fun x bs => backM m n ρ2 bs (Q x)) (fun e bs => backM m n ρ2 bs (E e))) E
  | _ => False) E
def dMakeM (m n : Nat) (C : Addr) (G : DSp) (dl : DTA) : DTE := fun ρ Q E => dl ρ (fun as ρ1 => as.length + 1 = n ∧ atM ρ1 m fun μ => G (.rf (.i C []) :: (as.map .d ++ [.mm μ])) (fun x bs => backO x m n ρ1 bs fun o ρ2 => Q (.fr o) ρ2) (fun e bs => backM m n ρ1 bs (E e))) E
section
variable {X : Cx} {W : WX} {k : Nat} {f C : Addr} {fd : FuncData} {ps : List Str} {G : DSp} {x fn : Str} {p pos apos : Pos} {e o : Expr} {es : List Expr} {dl : DTA} {de : DTE}
theorem d_callM (m : Nat) (F0 : FnOk X.prog X.w X.K X.mg X.base (L2N.CX X.prog X.w) k f fd ps (spDM X.K ps.length G)) (hr : Room k X.A) (hm : X.mg x = some (.ref f)) (hk : PySem.W.keepIn X.K (.ref f) = true) (hb : Binds X.K fd ps []) (tk : L2N.Takes X W) (ha : DA X W (e :: es) dl) (hg : Gl X x := by rfl)
    (hdb : (x == ("__debug__" : Str)) = false := by decide) (he : starEach (e :: es) X.env = (false, eval e X.env) :: starEach es X.env := by rfl) (hpl : (backTo pos (starEach es X.env)).any (·.1) = false := by rfl) :
    DE X W (.Call (.Name x p) (e :: es) [] pos) (dCallM m ps.length G dl) := by
  refine pe_imp (pe_callS (E := WE W) F0 hr hg hm hk hb (fun σ => L2N.passAt tk σ) ha hdb he hpl) fun σ H QQ ⟨F, S, ρ, Q, Ee, r, h, kq, ke⟩ => ?_
  refine ⟨F, S, ρ, _, Ee, r, h, fun vs xs S1 ρ1 H1 g1 r1 p1 q1 => ?_, ke⟩
  obtain ⟨hl, q1⟩ := q1
  obtain ⟨μ, e, q2⟩ := atM_ok q1
  simp only [backM_eq] at q2
  exact callM_ok (Q := Q) (E := Ee) r1 e p1 (by rw [p1.length]; exact hl) q2 (fun v x S' ρ' H' g' r' vr' q' => kq v x S' ρ' H' (g1.trans g') r' vr' q') fun e cls d S' ρ' H' g' r' xr' q' => ke e cls d S' ρ' H' (g1.trans g') r' xr' q'
theorem d_methM (m : Nat) {pl : Sem Bool} (c : Cls X.K C) (hm : Meth X.K C fn f) (F0 : FnOk X.prog X.w X.K X.mg X.base (L2N.CX X.prog X.w) k f fd ps (spDM X.K ps.length G)) (hr : Room k X.A) (hb : Binds X.K fd ps []) (tk : L2N.Takes X W) (ho : DE X W o de) (ha : DA X W (e :: es) dl)
    (hst : starEach (e :: es) X.env = (false, eval e X.env) :: starEach es X.env := by rfl) (hpl : (backTo pos (starEach es X.env)).any (·.1) = false := by rfl)
    (ht : eval (.Call (.Attribute o fn apos) (e :: es) [] pos) X.env = (do let ov ← eval o X.env; standAt apos.atName; let (f, first) ← holding [ov] (getMethod ov fn pl); callWith pos f first (backTo pos (starEach (e :: es) X.env)) (backToKw pos (keywordEach [] X.env))) := by rfl) :
    DE X W (.Call (.Attribute o fn apos) (e :: es) [] pos) (dMethM m ps.length C fn G de dl) := by
  refine pe_imp (pe_methQ (E := WE W) ho c hm F0 hr hb (fun σ => L2N.passAt tk σ) ha hst hpl ht) fun σ H QQ ⟨F, S, ρ, Q, Ee, r, h, kq, ke⟩ => ?_
  refine ⟨F, S, ρ, _, Ee, r, h, fun v x S1 ρ1 H1 g1 r1 vr1 q1 => ?_, ke⟩
  cases x with
  | d a =>
    cases a with
    | ptr p =>
      have vr1 : v = .ref p := vr1
      obtain ⟨q0, q1⟩ := q1
      obtain ⟨μ0, e0, q0⟩ := atM_ok q0
      cases l0 : μ0.lookup p with
      | none => simp only [l0] at q0
      | some oo0 =>
        cases oo0 with
        | i C' fs =>
          simp only [l0] at q0
          obtain ⟨rfl, qf⟩ := q0
          obtain ⟨_, _, dx, ws, a4, a5⟩ := (r1.memAt e0).2 p _ (look_mem l0)
          refine ⟨p, dx, ws, vr1, a4, (a5.lookup (f := fn)).2 qf, F, S1, ρ1, _, Ee, r1, q1, fun vs xs S2 ρ2 H2 g2 r2 p2 q2 => ?_, fun er cls d S' ρ' H' g' r' => ke er cls d S' ρ' H' (g1.trans g') r'⟩
          obtain ⟨hl, q2⟩ := q2
          obtain ⟨μ, e, q3⟩ := atM_ok q2
          simp only [backM_eq] at q3
          have g12 := g1.trans g2
          exact callM_ok (as := .ptr p :: xs) (Q := Q) (E := Ee) r2 e (RpL.cons vr1 p2) (by rw [List.length_cons, p2.length]; exact hl) q3 (fun v x S' ρ' H' g' r' vr' q' => kq v x S' ρ' H' (g12.trans g') r' vr' q') fun e cls d S' ρ' H' g' r' xr' q' => ke e cls d S' ρ' H' (g12.trans g') r' xr' q'
        | _ => simp only [l0] at q0
    | _ => exact False.elim q1
  | _ => exact False.elim q1
theorem d_makeM (m : Nat) (M : Mk X.K C f) (F0 : FnOk X.prog X.w X.K X.mg X.base (L2N.CX X.prog X.w) k f fd ps (spDM X.K ps.length G)) (hr : Room (k + 1) X.A) (hm : X.mg x = some (.ref C)) (hb : Binds X.K fd ps []) (tk : L2N.Takes X W) (ha : DA X W (e :: es) dl) (hg : Gl X x := by rfl)
    (hdb : (x == ("__debug__" : Str)) = false := by decide) (he : starEach (e :: es) X.env = (false, eval e X.env) :: starEach es X.env := by rfl) (hpl : (backTo pos (starEach es X.env)).any (·.1) = false := by rfl) :
    DE X W (.Call (.Name x p) (e :: es) [] pos) (dMakeM m ps.length C G dl) := by
  refine pe_imp (pe_makeQ M F0 hr hm hb tk ha hg hdb he hpl) fun σ H QQ ⟨F, S, ρ, Q, Ee, r, h, kq, ke⟩ => ?_
  refine ⟨F, S, ρ, _, Ee, r, h, fun vs xs S1 ρ1 H1 g1 r1 p1 q1 ob dx hx hdx hne => ?_, ke⟩
  obtain ⟨hl, q1⟩ := q1
  obtain ⟨μ, e, q2⟩ := atM_ok q1
  simp only [backM_eq, backO_eq] at q2
  exact makeM_ok (Q := fun o ρ' => Q (.fr o) ρ') (E := Ee) r1 e hx hdx hne p1 (by rw [p1.length]; exact hl) q2 (fun o' S' ρ' H' g' r' vr' q' => kq _ _ S' ρ' H' (g1.trans g') r' vr' q') fun er cls d S' ρ' H' g' r' xr' q' => ke er cls d S' ρ' H' (g1.trans g') r' xr' q'
/-- a def's own memory: it starts empty -/
def dMem (m : Nat) (d : DTS) : DTS := fun De ρ => m < ρ.length ∧ d De (ρ.set m (.mm []))
theorem R.mem0 {K : PySem.W.Frag} {F : Fm} {S H : Hp} {ρ : List SV} {σ : St} {m : Nat} (r : R K F S ρ σ H) : R K F S (ρ.set m (.mm [])) σ H := by
  refine ⟨by rw [List.length_set]; exact r.len, by rw [List.length_set]; exact r.ln, r.b, r.s, fun j y e => ?_, fun a b x y ov ow q ha hb sa sb xa yb => ?_⟩
  · rcases set_at e with ⟨rfl, rfl, hr⟩ | ⟨_, e⟩
    · exact ⟨_, List.getElem?_eq_getElem (by rw [← r.len]; exact hr), by simp, fun q o z => nomatch z⟩
    · exact r.at_ j y e
  · rcases set_at ha with ⟨rfl, rfl, _⟩ | ⟨_, ha⟩
    · obtain ⟨o, z⟩ := xa
      cases z
    · rcases set_at hb with ⟨rfl, rfl, _⟩ | ⟨_, hb⟩
      · obtain ⟨o, z⟩ := yb
        cases z
      · exact r.ap a b x y ov ow q ha hb sa sb xa yb
theorem d_mem (m : Nat) {sts : List Stmt} {d : DTS} (h : DSs X W sts d) : DSs X W sts (dMem m d) := ⟨fun pp s σ H D I hw => by
  obtain ⟨F, S, ρ, De, r, q, k⟩ := hw
  exact h.run pp s σ H D I ⟨F, S, _, De, r.mem0, q.2, k⟩⟩
end
end DW
/-! DWt: dicts with tuples as keys: stores, walks over their keys (locked meanwhile). -/
namespace DW
open PySem L2
def keyKD : Key → D
  | .inl i => .int i
  | .inr x => .str x
def keyTD (k : List Key) : D := .tup (k.map keyKD)
section
variable {K : PySem.W.Frag} {S S' H H' : Hp} {p : Addr} {ws : List (List Key × V)}
theorem RpL.keys : ∀ k : List Key, RpL K S (k.map keyKD) (k.map kV)
  | [] => rfl
  | .inl i :: k => ⟨_, _, rfl, rfl, RpL.keys k⟩
  | .inr x :: k => ⟨_, _, rfl, rfl, RpL.keys k⟩
/-- a dict's place in the heap -/
def IsDic (u : HO) : Prop := (∃ ws, u = .dT ws) ∨ ∃ ws, u = .dK ws
theorem IsDic.ne {u v : HO} (h : IsDic u) (h1 : ∀ ws, v ≠ .dT ws) (h2 : ∀ ws, v ≠ .dK ws) : v ≠ u := fun e => by
  rcases h with ⟨ws, rfl⟩ | ⟨ws, rfl⟩
  · exact h1 ws e
  · exact h2 ws e
theorem IsDic.nf {u v : HO} (h : IsDic u) (h1 : ∀ o ws, v ≠ .frz o (.dT ws)) (h2 : ∀ o ws, v ≠ .frz o (.dK ws)) : ∀ o, v ≠ .frz o u := fun o e => by
  rcases h with ⟨ws, rfl⟩ | ⟨ws, rfl⟩
  · exact h1 o ws e
  · exact h2 o ws e
theorem rd_one {S : Hp} {p : Addr} {u v : HO} (d : IsDic u) (d2 : IsDic v) (h : Rd S p u) (g : Rd S p v) : v = u := by
  have nf : ∀ {u v : HO} {o : Obj}, IsDic u → IsDic v → v ≠ .frz o u := fun {u v o} _ b e => by
    rcases b with ⟨ws, rfl⟩ | ⟨ws, rfl⟩ <;> cases e
  rcases h with h | ⟨o, h⟩ <;> rcases g with g | ⟨o', g⟩
  · rw [h] at g; exact (Option.some.inj g).symm
  · rw [h] at g; exact (nf d2 d (Option.some.inj g)).elim
  · rw [h] at g; exact (nf d d2 (Option.some.inj g).symm).elim
  · rw [h] at g; cases g; rfl
/-- the same but at p, where the dict is locked or unlocked -/
structure Relock (S S' : Hp) (p : Addr) (u : HO) : Prop where
  o : ∀ a v, a ≠ p → S a = some v → S' a = some v
  s : Rd S p u
  t : Rd S' p u
  d : IsDic u
theorem Rd.not {u v : HO} (h : Rd S p u) (e : S p = some v) (h1 : v ≠ u) (h2 : ∀ o, v ≠ .frz o u) : False := by
  rcases h with h | ⟨o, h⟩
  · rw [e] at h; exact h1 (Option.some.inj h)
  · rw [e] at h; exact h2 o (Option.some.inj h)
theorem Relock.at0 {u v : HO} (L : Relock S S' p u) {a : Addr} (e : S a = some v) (h1 : v ≠ u) (h2 : ∀ o, v ≠ .frz o u) : S' a = some v :=
  L.o a v (fun z => Rd.not L.s (z ▸ e) h1 h2) e
theorem Relock.at {u v : HO} (L : Relock S S' p u) {a : Addr} (e : S a = some v) (h1 : ∀ ws, v ≠ .dT ws) (h2 : ∀ ws, v ≠ .dK ws) (h3 : ∀ o w, v = .frz o w → ¬ IsDic w) : S' a = some v :=
  L.at0 e (L.d.ne h1 h2) (fun o z => h3 o u z L.d)
theorem Relock.seq {u : HO} (L : Relock S S' p u) {a : Addr} {xs : List V} (h : SqL K S a xs) : SqL K S' a xs := by
  rcases h with (h | ⟨o, h⟩) | ⟨o, its, n, h1, h2⟩
  · exact .inl (.inl (L.at h (fun _ z => nomatch z) (fun _ z => nomatch z) fun _ _ z => nomatch z))
  · exact .inl (.inr ⟨o, L.at h (fun _ z => nomatch z) (fun _ z => nomatch z) fun _ w z => by
      cases z
      rintro (⟨_, e⟩ | ⟨_, e⟩) <;> cases e⟩)
  · exact .inr ⟨o, its, n, h1, h2⟩
theorem Relock.rd {u w : HO} (L : Relock S S' p u) {a : Addr} (dw : IsDic w) (h2 : Rd S a w) : Rd S' a w := by
  by_cases e : a = p
  · subst e
    rw [rd_one L.d dw L.s h2]
    exact L.t
  · exact h2.imp (L.o _ _ e) fun ⟨o, h⟩ => ⟨o, L.o _ _ e h⟩
mutual
theorem Rp.relock {u : HO} (L : Relock S S' p u) : ∀ {x : D} {v : V}, Rp K S x v → Rp K S' x v
  | .non, _, h => h
  | .bl _, _, h => h
  | .int _, _, h => h
  | .str _, _, h => h
  | .lst _, _, ⟨a, vs, h1, h2, h3⟩ => ⟨a, vs, h1, L.at h2 (fun _ z => nomatch z) (fun _ z => nomatch z) (fun _ _ z => nomatch z), RpL.relock L h3⟩
  | .tup _, _, ⟨a, vs, h1, h2, h3⟩ => ⟨a, vs, h1, L.at h2 (fun _ z => nomatch z) (fun _ z => nomatch z) (fun _ _ z => nomatch z), RpL.relock L h3⟩
  | .scr _, _, ⟨a, h1, h2⟩ => ⟨a, h1, L.seq h2⟩
  | .dct _, _, ⟨a, vs, h1, h2, h3⟩ => ⟨a, vs, h1, L.rd (.inr ⟨_, rfl⟩) h2, RpK.relock L h3⟩
  | .ins _ _, _, ⟨a, dx, vs, h1, h2, h3⟩ => ⟨a, dx, vs, h1, L.at h2 (fun _ z => nomatch z) (fun _ z => nomatch z) (fun _ _ z => nomatch z), RpF.relock L h3⟩
  | .ptr _, _, h => h
  | .tkd _, _, ⟨a, vs, h1, h2, h3⟩ => ⟨a, vs, h1, L.rd (.inl ⟨_, rfl⟩) h2, RpT.relock L h3⟩
  | .exc _ _ _ _, _, ⟨h1, .inl h2⟩ => ⟨h1, .inl h2⟩
  | .exc _ _ _ _, _, ⟨h1, .inr ⟨dd, us, h2, h3, h4⟩⟩ => ⟨h1, .inr ⟨dd, us, h2, L.at h3 (fun _ z => nomatch z) (fun _ z => nomatch z) (fun _ _ z => nomatch z), RpF.relock L h4⟩⟩
theorem RpL.relock {u : HO} (L : Relock S S' p u) : ∀ {x : List D} {v : List V}, RpL K S x v → RpL K S' x v
  | [], _, h => h
  | _ :: _, _, ⟨v, us, h1, h2, h3⟩ => ⟨v, us, h1, Rp.relock L h2, RpL.relock L h3⟩
theorem RpK.relock {u : HO} (L : Relock S S' p u) : ∀ {x : List (Key × D)} {v : List (Key × V)}, RpK K S x v → RpK K S' x v
  | [], _, h => h
  | (_, _) :: _, _, ⟨v, us, h1, h2, h3⟩ => ⟨v, us, h1, Rp.relock L h2, RpK.relock L h3⟩
theorem RpF.relock {u : HO} (L : Relock S S' p u) : ∀ {x : List (Str × D)} {v : List (Str × V)}, RpF K S x v → RpF K S' x v
  | [], _, h => h
  | (_, _) :: _, _, ⟨v, us, h1, h2, h3⟩ => ⟨v, us, h1, Rp.relock L h2, RpF.relock L h3⟩
theorem RpT.relock {u : HO} (L : Relock S S' p u) : ∀ {x : List (List Key × D)} {v : List (List Key × V)}, RpT K S x v → RpT K S' x v
  | [], _, h => h
  | (_, _) :: _, _, ⟨v, us, h1, h2, h3⟩ => ⟨v, us, h1, Rp.relock L h2, RpT.relock L h3⟩
end
theorem OR.relock {u : HO} (L : Relock S S' p u) {q : Addr} {o : OO} (e : H' q = H q) (h : OR K S H q o) : OR K S' H' q o := by
  cases o with
  | l xs => obtain ⟨vs, h, r⟩ := h; exact ⟨vs, e.trans h, r.relock L⟩
  | k xs => obtain ⟨vs, h, r⟩ := h; exact ⟨vs, e.trans h, r.relock L⟩
  | i C fs => obtain ⟨dx, vs, h, r⟩ := h; exact ⟨dx, vs, e.trans h, r.relock L⟩
  | t xs => obtain ⟨vs, h, r⟩ := h; exact ⟨vs, e.trans h, r.relock L⟩
  | tL xs => obtain ⟨vs, o, h, r⟩ := h; exact ⟨vs, o, e.trans h, r.relock L⟩
  | tb p q => obtain ⟨z, ps, h, r, c⟩ := h; exact ⟨z, ps, e.trans h, r, fun pos cv hc => (c pos cv hc).imp fun _ y => ⟨y.1, L.at y.2 (fun _ z => nomatch z) (fun _ z => nomatch z) (fun _ _ z => nomatch z)⟩⟩
theorem SR.relock {B B' : Hp} {ov arg : Option V} {y : SV} {u : HO} (L : Relock S S' p u) (hp : ¬ Has y ov p) (hn : ∀ q, q ≠ p → (B q = none → B' q = none) ∧ (S q = none → S' q = none) ∧ H' q = H q) (h : SR K B S H ov arg y) : SR K B' S' H' ov arg y := by
  have go : ∀ {q : Addr} {o : OO}, q ≠ p → B q = none → S q = none → OR K S H q o → B' q = none ∧ S' q = none ∧ OR K S' H' q o := fun {q o} n b s r => ⟨(hn q n).1 b, (hn q n).2.1 s, r.relock L (hn q n).2.2⟩
  cases y with
  | un => exact trivial
  | d x => obtain ⟨v, e, h⟩ := h; exact ⟨v, e, h.relock L⟩
  | ow o =>
    obtain ⟨q, e, h1, h2, h⟩ := h
    exact ⟨q, e, go (fun z => hp (by rw [← z]; exact e)) h1 h2 h⟩
  | rf o =>
    obtain ⟨q, e, e2, h1, h2, h⟩ := h
    exact ⟨q, e, e2, go (fun z => hp (by rw [← z]; exact e)) h1 h2 h⟩
  | mm μ =>
    refine ⟨h.1, fun q o m => ?_⟩
    obtain ⟨a, b, c⟩ := h.2 q o m
    exact go (fun z => hp ⟨o, z ▸ m⟩) a b c
end
/-- the frame with the dict at p locked or unlocked -/
def Fm.re (F : Fm) (p : Addr) (u : HO) : Fm := ⟨fun a => if a = p then (F.B p).map fun _ => u else F.B a, F.vs, F.n⟩
section
variable {K : PySem.W.Frag} {F : Fm} {S S' H H' : Hp} {ρ ρ' : List SV} {σ : St} {p : Addr} {u : HO} {v : V} {x : DV}
theorem Fm.re_ne {a : Addr} (h : a ≠ p) : (F.re p u).B a = F.B a := if_neg h
theorem Fm.re_at : (F.re p u).B p = (F.B p).map fun _ => u := if_pos rfl
theorem Fm.re_none {a : Addr} : (F.re p u).B a = none ↔ F.B a = none := by
  by_cases h : a = p
  · subst h
    rw [Fm.re_at, Option.map_eq_none_iff]
  · rw [Fm.re_ne h]
/-- a told dict is locked -/
theorem R.lock {od : Obj} (r : R K F S ρ σ H) (di : IsDic u) (h : S p = some u) : R K (F.re p (.frz od u)) (upd S p (.frz od u)) ρ σ (upd H p (.frz od u)) := by
  have L : Relock S (upd S p (.frz od u)) p u := ⟨fun a w n e => by rw [upd_ne n]; exact e, .inl h, .inr ⟨od, upd_same⟩, di⟩
  refine ⟨r.len, r.ln, fun a w e => ?_, fun a w e => ?_, fun i y e => ?_, r.ap⟩
  · by_cases n : a = p
    · subst n
      rw [Fm.re_at] at e
      obtain ⟨_, _, e2⟩ := Option.map_eq_some_iff.mp e
      rw [upd_same, e2]
    · rw [Fm.re_ne n] at e
      rw [upd_ne n]
      exact r.b a w e
  · by_cases n : a = p
    · subst n
      rw [upd_same] at e ⊢
      exact e
    · rw [upd_ne n] at e ⊢
      exact r.s a w e
  · obtain ⟨ov, e1, e2⟩ := r.at_ i y e
    refine ⟨ov, e1, e2.relock L (fun z => ?_) fun q n => ⟨fun b => Fm.re_none.mpr b, fun s => by rw [upd_ne n]; exact s, upd_ne n⟩⟩
    obtain ⟨_, s, _⟩ := r.held e e1 z
    rw [h] at s
    cases s
/-- .. and unlocked again -/
theorem R.unlock {od : Obj} (r : R K (F.re p (.frz od u)) S ρ σ H) (di : IsDic u) (h : S p = some (.frz od u)) (hB : ∀ w, F.B p = some w → w = u) : R K F (upd S p u) ρ σ (upd H p u) := by
  have L : Relock S (upd S p u) p u := ⟨fun a w n e => by rw [upd_ne n]; exact e, .inr ⟨od, h⟩, .inl upd_same, di⟩
  refine ⟨r.len, r.ln, fun a w e => ?_, fun a w e => ?_, fun i y e => ?_, r.ap⟩
  · by_cases n : a = p
    · subst n
      rw [upd_same, hB w e]
    · rw [upd_ne n]
      exact r.b a w (by rw [Fm.re_ne n]; exact e)
  · by_cases n : a = p
    · subst n
      rw [upd_same] at e ⊢
      exact e
    · rw [upd_ne n] at e ⊢
      exact r.s a w e
  · obtain ⟨ov, e1, e2⟩ := r.at_ i y e
    refine ⟨ov, e1, e2.relock L (fun z => ?_) fun q n => ⟨fun b => Fm.re_none.mp b, fun s => by rw [upd_ne n]; exact s, upd_ne n⟩⟩
    obtain ⟨_, s, _⟩ := r.held e e1 z
    rw [h] at s
    cases s
theorem VR.unlock {od : Obj} (di : IsDic u) (hs : S p = some (.frz od u)) (hr : R K (F.re p (.frz od u)) S ρ σ H) (h : VR K (F.re p (.frz od u)) S ρ σ H v x) : VR K F (upd S p u) ρ σ (upd H p u) v x := by
  have L : Relock S (upd S p u) p u := ⟨fun a w n e => by rw [upd_ne n]; exact e, .inr ⟨od, hs⟩, .inl upd_same, di⟩
  cases x with
  | d a => exact Rp.relock L h
  | fr o =>
    obtain ⟨q, e, h1, h2, h3, h4⟩ := h
    have n : q ≠ p := fun z => by rw [z, hs] at h2; cases h2
    exact ⟨q, e, Fm.re_none.mp h1, by rw [upd_ne n]; exact h2, h3, h4.relock L (upd_ne n)⟩
  | sl i => exact h
  | me q => exact h
theorem Gr.unlock {od : Obj} (h : S p = some u) (g : Gr (F.re p (.frz od u)).B (upd S p (.frz od u)) S') : S' p = some (.frz od u) ∧ Gr F.B S (upd S' p u) := by
  refine ⟨g.s p _ upd_same, fun a w e => ?_, fun a w e k => ?_⟩
  · by_cases n : a = p
    · subst n
      rw [upd_same, ← h, e]
    · rw [upd_ne n]
      exact g.s a w (by rw [upd_ne n]; exact e)
  · have n : a ≠ p := fun z => by rw [z, h] at e; cases e
    rw [upd_ne n] at k
    exact (g.n a w (by rw [upd_ne n]; exact e) k).imp (fun b => Fm.re_none.mp b) id
end

/-! ### walks over a told dict's keys -/
theorem RpT.fst {K : PySem.W.Frag} {S : Hp} : ∀ {kvs : List (List Key × D)} {ws : List (List Key × V)}, RpT K S kvs ws → ws.map Prod.fst = kvs.map Prod.fst
  | [], _, h => by rw [h]; rfl
  | (_, _) :: _, _, ⟨v, us, e, _, h⟩ => by rw [e, List.map_cons, List.map_cons, RpT.fst h]
def keysD (kvs : List (List Key × D)) : List D := kvs.map fun kv => keyTD kv.1
/-- a key that the walk gives, told from now on -/
theorem key_told {K : PySem.W.Frag} {F : Fm} {S H : Hp} {ρ : List SV} {σ : St} {kvs : List (List Key × D)} {ws : List (List Key × V)} {i : Nat} {k : List Key} {v : V} {q : Addr} (r : R K F S ρ σ H) (f : ws.map Prod.fst = kvs.map Prod.fst) (hi : i < (keysD kvs).length) (e : ws[i]? = some (k, v)) (hq : H q = some (.tup (k.map kV))) :
    ∃ S', R K F S' ρ σ H ∧ Gr F.B S S' ∧ Rp K S' (keysD kvs)[i] (.ref q) := by
  obtain ⟨S', r', g, h⟩ := r.tellT hq
  refine ⟨S', r', g, ?_⟩
  have e1 : (ws.map Prod.fst)[i]? = some k := by rw [List.getElem?_map, e]; rfl
  rw [f, List.getElem?_map] at e1
  have hl : i < kvs.length := by simpa [keysD] using hi
  rw [List.getElem?_eq_getElem hl] at e1
  have e2 : kvs[i].1 = k := by simpa using e1
  have e3 : (keysD kvs)[i] = keyTD k := by simp [keysD, e2]
  rw [e3]
  exact ⟨q, _, rfl, h, RpL.keys k⟩
section
variable {K : PySem.W.Frag} {F : Fm} {S H : Hp} {ρ : List SV} {σ : St} {p : Addr} {od : Obj} {kvs : List (List Key × D)} {ws : List (List Key × V)} {dg : DTG} {db : DTS} {js : List Nat}
theorem for_coreT {De : DEnds} {D0 : Ends} (r : R K F S ρ σ H) (hp : S p = some (.frz od (.dT ws))) (hk : RpT K S kvs ws) (h : dForN dg db De (keysD kvs) ρ)
    (k1 : ∀ ρ' σ' S' H', Gr F.B S S' → R K F S' ρ' σ' H' → De.nx ρ' → D0.nx σ' H') (k2 : ∀ v x ρ' σ' S' H', Gr F.B S S' → R K F S' ρ' σ' H' → VR K F S' ρ' σ' H' v x → De.rt x ρ' → D0.rt v H') (k5 : ∀ e ρ, De.ex e ρ → False) {W : WX} :
    ∃ Wt : Nat → Nat → St → Hp → Prop, (∃ m, Wt 0 m σ H) ∧ ∀ i m σ H, Wt i m σ H → ((Itkt p od ws).stop i H ∧ D0.nx σ H) ∨ ((Itkt p od ws).go i H ∧ ∃ N : St → Hp → Prop, (∀ σ' H', N σ' H' → ∃ m', m' < m ∧ Wt (i + 1) m' σ' H') ∧ ∀ x H', (Itkt p od ws).yld i H x H' →
      gD K js dg x σ H' fun σ2 H2 => tSD K W db { D0 with nx := N, ct := N, bk := D0.nx } σ2 H2) := by
  have f := hk.fst
  have ln : ws.length = (keysD kvs).length := by
    have := congrArg List.length f
    simpa [keysD] using this
  generalize hds : keysD kvs = ds at h ln
  refine ⟨fun i m σ1 H1 => m = ds.length - i ∧ i ≤ ds.length ∧ ∃ S1 ρ1, Gr F.B S S1 ∧ R K F S1 ρ1 σ1 H1 ∧ dForN dg db De (ds.drop i) ρ1, ⟨_, rfl, Nat.zero_le _, S, ρ, Gr.refl _ _, r, h⟩, ?_⟩
  rintro i m σ1 H1 ⟨rfl, hi, S1, ρ1, g1, r1, w1⟩
  have sH : Same S H1 := g1.s.trans r1.s
  by_cases c : i < ds.length
  · have e : ds.drop i = ds[i] :: ds.drop (i + 1) := List.drop_eq_getElem_cons c
    rw [e] at w1
    refine .inr ⟨⟨sH p _ hp, by omega⟩, fun σ' H' => ∃ S' ρ', Gr F.B S S' ∧ R K F S' ρ' σ' H' ∧ dForN dg db De (ds.drop (i + 1)) ρ', fun σ' H' q => ⟨ds.length - (i + 1), by omega, rfl, c, q⟩, fun x H2 y => ?_⟩
    obtain ⟨rfl, k, v, q, e1, rfl, hq⟩ := y
    subst hds
    obtain ⟨S1', r1', g1', hp'⟩ := key_told r1 f c e1 hq
    have g11 := g1.trans g1'
    refine ⟨F, S1', ρ1, _, _, r1', hp', w1, fun ρ2 σ2 S2 H3 g2 r2 _ q2 => ?_⟩
    have g12 := g11.trans g2
    exact ⟨F, S2, ρ2, _, r2, q2, fun ρ' σ' S' H' g' r' q' => ⟨S', ρ', g12.trans g', r', q'⟩, fun v x ρ' σ' S' H' g' => k2 v x ρ' σ' S' H' (g12.trans g'), fun ρ' σ' S' H' g' => k1 ρ' σ' S' H' (g12.trans g'),
      fun ρ' σ' S' H' g' r' q' => ⟨S', ρ', g12.trans g', r', q'⟩, fun e cls d ρ' σ' S' H' g' _ _ q' => (k5 e ρ' q').elim⟩
  · have e : i = ds.length := by omega
    rw [e, List.drop_length] at w1
    exact .inl ⟨⟨sH p _ hp, by omega⟩, k1 ρ1 σ1 S1 H1 g1 r1 w1⟩
theorem lc_turnsT {dt : DTT} {de : DTE} {us : List Nat} {Qd : List D → List SV → Prop} {QQ : VK} (r0 : R K F S ρ σ H) (hp : S p = some (.frz od (.dT ws))) (hk : RpT K S kvs ws) (hjs : ∀ j, j ∈ js → j ∈ us)
    (h : dLcN dg dt de us (fun acc ρ3 => Qd acc (backD ρ3 ρ us)) (keysD kvs) [] (wipeD ρ us))
    (kq : ∀ v acc S' ρ' H', Gr F.B S S' → R K F S' ρ' σ H' → VR K F S' ρ' σ H' v (.fr (.l acc)) → Qd acc ρ' → QQ v H') : ∀ L, H L = none → ∃ Wt : Nat → Nat → Hp → Prop, (∃ m, Wt 0 m (upd H L (.lst []))) ∧ ∀ i m H, Wt i m H →
      ((Itkt p od ws).stop i H ∧ QQ (.ref L) H) ∨ ((Itkt p od ws).go i H ∧ ∃ Nx : Hp → Prop, (∀ H', Nx H' → ∃ m', m' < m ∧ Wt (i + 1) m' H') ∧ ∀ x H', (Itkt p od ws).yld i H x H' → gD K js dg x (L2.wipe σ us) H' fun σ2 H2 => L2.wipe σ2 us = L2.wipe σ us ∧ tDT K W0 dt σ2 H2 fun b H3 =>
        if b = true then tD K W0 de σ2 H3 fun y H4 => ∃ acc, H4 L = some (.lst acc) ∧ acc.length < sizeLine ∧ Nx (upd H4 L (.lst (acc ++ [y]))) else Nx H3) := by
  intro L hL
  have f := hk.fst
  have ln : ws.length = (keysD kvs).length := by
    have := congrArg List.length f
    simpa [keysD] using this
  have bL := r0.newB hL
  have nL := NoSl.new r0 hL
  generalize hds : keysD kvs = ds at h ln
  refine ⟨fun i m H1 => m = ds.length - i ∧ i ≤ ds.length ∧ ∃ S1 ρ1 acc us', Gr F.B S S1 ∧ R K F S1 ρ1 (L2.wipe σ us) H1 ∧ S1 L = none ∧ NoSl ρ1 (L2.wipe σ us) L ∧ H1 L = some (.lst us') ∧ RpL K S1 acc us' ∧ dLcN dg dt de us (fun acc ρ3 => Qd acc (backD ρ3 ρ us)) (ds.drop i) acc ρ1,
    ⟨_, rfl, Nat.zero_le _, S, wipeD ρ us, [], [], Gr.refl _ _, (r0.beside bL.1 bL.2 nL).wipe us, bL.2, NoSl.new (r0.wipe us) hL, upd_same, rfl, h⟩, ?_⟩
  rintro i m H1 ⟨rfl, hi, S1, ρ1, acc, us', g1, r1, s1, n1, hw, pa, w1⟩
  have sH : Same S H1 := g1.s.trans r1.s
  by_cases c : i < ds.length
  · have e : ds.drop i = ds[i] :: ds.drop (i + 1) := List.drop_eq_getElem_cons c
    rw [e] at w1
    refine .inr ⟨⟨sH p _ hp, by omega⟩, fun H' => ∃ S' ρ' acc us', Gr F.B S S' ∧ R K F S' ρ' (L2.wipe σ us) H' ∧ S' L = none ∧ NoSl ρ' (L2.wipe σ us) L ∧ H' L = some (.lst us') ∧ RpL K S' acc us' ∧ dLcN dg dt de us (fun acc ρ3 => Qd acc (backD ρ3 ρ us)) (ds.drop (i + 1)) acc ρ',
      fun H' q => ⟨ds.length - (i + 1), by omega, rfl, c, q⟩, fun x H2 y => ?_⟩
    obtain ⟨rfl, k, v, q, e1, rfl, hq⟩ := y
    subst hds
    have r1' := r1.keep hw n1
    obtain ⟨S1', r1'', g1', hp'⟩ := key_told r1' f c e1 hq
    refine ⟨F.and L (.lst us'), S1', ρ1, _, _, r1'', hp', w1, fun ρ2 σ2 S2 H3 g2 r2 hwipe q2 => ⟨(hwipe us hjs).trans (wipe_wipe us fun _ h => h), ?_⟩⟩
    have ew := hwipe us hjs
    rw [wipe_wipe us fun _ h => h] at ew
    have fin : ∀ {S' ρ' H'}, Gr (F.and L (.lst us')).B S1 S' → R K (F.and L (.lst us')) S' ρ' σ2 H' → ∃ r' : R K F S' (wipeD ρ' us) (L2.wipe σ us) H', S' L = none ∧ NoSl (wipeD ρ' us) (L2.wipe σ us) L := fun {S' ρ' H'} g' r' => by
      have rw' := r'.wipe us
      rw [ew] at rw'
      exact ⟨rw'.drop bL.1, g'.kept r' (fun _ z => nomatch z) s1, rw'.noSl⟩
    have g12 := g1'.trans g2
    refine ⟨F.and L (.lst us'), S2, ρ2, _, _, r2, q2, fun k S3 ρ3 H4 g3 r3 q3 => ?_, fun _ _ _ _ _ _ _ _ _ z => z.elim⟩
    have g13 := g12.trans g3
    cases k with
    | false =>
      obtain ⟨ra, rb, rc⟩ := fin g13 r3
      exact ⟨S3, _, acc, us', g1.trans (g13.drop bL.1), ra, rb, rc, r3.kept, RpL.mono g13.s pa, q3⟩
    | true =>
      refine ⟨F.and L (.lst us'), S3, ρ3, _, _, r3, q3, fun w z S4 ρ4 H5 g4 r4 vr4 q4 => ?_, fun _ _ _ _ _ _ _ _ _ z => z.elim⟩
      obtain ⟨a', S5, ρ5, g5, r5, p5, q5⟩ := VR.stab r4 vr4 q4
      have g15 := (g13.trans g4).trans g5
      obtain ⟨ra, rb, rc⟩ := fin g15 r5
      refine ⟨us', r5.kept, by rw [pa.length]; exact q5.1, S5, _, acc ++ [a'], us' ++ [w], g1.trans (g15.drop bL.1), ra.beside bL.1 rb rc, rb, rc, upd_same, RpL.append (RpL.mono g15.s pa) (RpL.one p5), q5.2⟩
  · have e : i = ds.length := by omega
    rw [e, List.drop_length] at w1
    refine .inl ⟨⟨sH p _ hp, by omega⟩, ?_⟩
    have rb := r1.back r0 g1
    refine kq _ acc S1 _ H1 g1 rb ⟨L, rfl, bL.1, s1, fun i x ov h es ho => ?_, us', hw, pa⟩ w1
    have hv : i ∉ us := fun hv => by
      have hi2 : i < ρ1.length := by
        have := (List.getElem?_eq_some_iff.mp h).1
        rw [back_len] at this; exact this
      rw [back_in hv hi2] at h
      cases h
      exact (keepD_has ho).elim
    rw [back_out hv] at h
    exact n1 i x ov h (by rw [wipe_out hv]; exact es) ho
end
/-- the dict in slot i, told -/
def tkAt (i : Nat) (ρ : List SV) (k : List (List Key × D) → List SV → Prop) : Prop := match ρ[i]? with
  | some (.d (.tkd kvs)) => k kvs ρ
  | some (.ow (.t kvs)) => k kvs (ρ.set i (.d (.tkd kvs)))
  | _ => False
theorem tkAt_ok {K : PySem.W.Frag} {F : Fm} {S H : Hp} {ρ : List SV} {σ : St} {i : Nat} {k : List (List Key × D) → List SV → Prop} (r : R K F S ρ σ H) (h : tkAt i ρ k) : ∃ p kvs S' ρ', σ[i]? = some (some (.ref p)) ∧ Gr F.B S S' ∧ R K F S' ρ' σ H ∧ Rp K S' (.tkd kvs) (.ref p) ∧ k kvs ρ' := by
  unfold tkAt at h
  cases c : ρ[i]? with
  | none => simp only [c] at h
  | some y =>
    cases y with
    | d a =>
      cases a with
      | tkd kvs =>
        simp only [c] at h
        obtain ⟨ov, e1, v, e2, h2⟩ := r.at_ i _ c
        have h3 := h2
        obtain ⟨p, ws, rfl, _⟩ := h3
        exact ⟨p, kvs, S, ρ, by rw [e1, e2], Gr.refl _ _, r, h2, h⟩
      | _ => simp only [c] at h
    | ow o =>
      cases o with
      | t kvs =>
        simp only [c] at h
        obtain ⟨p, e1, _⟩ := r.own c rfl
        obtain ⟨S', g, r', q⟩ := r.freeze c e1
        exact ⟨p, kvs, S', _, e1, g, r', q, h⟩
      | _ => simp only [c] at h
    | _ => simp only [c] at h
def noEx (De : DEnds) : DEnds := { De with ex := fun _ _ => False }
def dForT (i : Nat) (dg : DTG) (body : DTS) : DTS := fun De ρ => tkAt i ρ fun kvs ρ1 => dForN dg body (noEx De) (keysD kvs) ρ1
def dLcT (i : Nat) (dg : DTG) (dt : DTT) (de : DTE) (vs : List Nat) : DTE := fun ρ Q _ => tkAt i ρ fun kvs ρ2 => dLcN dg dt de vs (fun acc ρ3 => Q (.fr (.l acc)) (backD ρ3 ρ2 vs)) (keysD kvs) [] (wipeD ρ2 vs)
theorem ps_or {X : Cx} {st : Stmt} {t t' : TS} (h : PS X st t) (h' : PS X st t') : PS X st (fun D σ H => t D σ H ∨ t' D σ H) := ⟨fun pins s σ H D I q => q.elim (h.run pins s σ H D I) (h'.run pins s σ H D I)⟩
theorem pe_or2 {X : Cx} {e : Expr} {t t' : TE} (h : PE X e t) (h' : PE X e t') : PE X e (fun σ H Q => t σ H Q ∨ t' σ H Q) := ⟨fun pins s σ H Q I q => q.elim (h.run pins s σ H Q I) (h'.run pins s σ H Q I)⟩
section
variable {X : Cx} {W : WX} {tg elt : Expr} {es : List Stmt} {ifs : List Expr} {scope : Scope} {own : List (Str × Nat)} {pos : Pos} {y : Str} {py : Pos} {dg : DTG} {db : DTS} {dt : DTT} {de : DTE} {js : List Nat}
theorem d_forT (i : Nat) (hp : PassesOwn (model X.prog X.w) X.A X.env X.xe) (hc : X.calm = true) (hg : DG X tg js dg) (hb : DSs X W es db)
    (hN : X.N[i]? = some y := by rfl) (hv : Vis X.env.scope y := by first | exact Or.inl rfl | exact Or.inr (Or.inl rfl) | exact Or.inr (Or.inr rfl)) (hd : (y == ("__debug__" : Str)) = false := by decide) (hcd : (y == ("__classdict__" : Str)) = false := by decide)
    (hs : ∀ x, foldedSetIterable (.Name y py) X.env x = pure x := by intro _; rfl) : DS X W (.For tg (.Name y py) es [] pos) (dForT i dg db) := by
  have base := ps_for (pos := pos) hp hc (pi_keys (tg := tg) (pv (pos := py) i hN hv hd hcd)) hg hb hs
  refine ps_imp (ps_or (ps_lock base) base) fun D σ H ⟨F, S, ρ, De, r, h, k1, k2, k3, k4, k5⟩ => ?_
  obtain ⟨p, kvs, S2, ρ2, e1, g2, r2, p2, q⟩ := tkAt_ok r h
  obtain ⟨p', ws, e, hrd, hk⟩ := id p2
  cases e
  rcases hrd with hrd | ⟨od, hrd⟩
  · refine .inl ⟨p, .dT ws, r2.s _ _ hrd, trivial, fun od => ?_⟩
    have L : Relock S2 (upd S2 p (.frz od (.dT ws))) p (.dT ws) := ⟨fun a u n e => by rw [upd_ne n]; exact e, .inl hrd, .inr ⟨od, upd_same⟩, .inl ⟨_, rfl⟩⟩
    have hB : ∀ w, F.B p = some w → w = .dT ws := fun w e => by
      have e' := r2.b p w e
      rw [r2.s _ _ hrd] at e'
      exact (Option.some.inj e').symm
    refine ⟨_, e1, p, od, rfl, .inr ⟨ws, upd_same, for_coreT (De := noEx De) (r2.lock (od := od) (.inl ⟨_, rfl⟩) hrd) upd_same (hk.relock L) q (fun ρ' σ' S' H' g' r' q' => ?_) (fun v x ρ' σ' S' H' g' r' vr' q' => ?_) fun _ _ z => z⟩⟩
    · obtain ⟨s1, g3⟩ := Gr.unlock hrd g'
      exact ⟨r'.s _ _ s1, k1 ρ' σ' _ _ (g2.trans g3) (r'.unlock (.inl ⟨_, rfl⟩) s1 hB) q'⟩
    · obtain ⟨s1, g3⟩ := Gr.unlock hrd g'
      exact ⟨r'.s _ _ s1, k2 v x ρ' σ' _ _ (g2.trans g3) (r'.unlock (.inl ⟨_, rfl⟩) s1 hB) (vr'.unlock (.inl ⟨_, rfl⟩) s1 r') q'⟩
  · exact .inr ⟨_, e1, p, od, rfl, .inr ⟨ws, r2.s _ _ hrd, for_coreT (De := noEx De) r2 hrd hk q (fun ρ' σ' S' H' g' => k1 ρ' σ' S' H' (g2.trans g')) (fun v x ρ' σ' S' H' g' => k2 v x ρ' σ' S' H' (g2.trans g')) fun _ _ z => z⟩⟩
theorem d_lcT (i : Nat) (hc : X.calm = true) (hN : X.N.Nodup) (ok : BlkOk X.N X.env.scope scope own) (hjs : ∀ j, j ∈ js → j ∈ own.map (·.2))
    (hg : ∀ (s : Shared) (H : Hp) (C : Addr) (cl : List (Str × Addr)) (fp : List Addr), DG (X.blk s H scope (compEnvC scope cl C X.env) fp) tg js dg) (ht : ∀ (s : Shared) (H : Hp) (C : Addr) (cl : List (Str × Addr)) (fp : List Addr), DTs (X.blk s H scope (compEnvC scope cl C X.env) fp) ifs dt)
    (he : ∀ (s : Shared) (H : Hp) (C : Addr) (cl : List (Str × Addr)) (fp : List Addr), DE (X.blk s H scope (compEnvC scope cl C X.env) fp) W0 elt de)
    (hi : X.N[i]? = some y := by rfl) (hv : Vis X.env.scope y := by first | exact Or.inl rfl | exact Or.inr (Or.inl rfl) | exact Or.inr (Or.inr rfl)) (hd : (y == ("__debug__" : Str)) = false := by decide) (hcd : (y == ("__classdict__" : Str)) = false := by decide)
    (hs : ∀ x, foldedSetIterable (.Name y py) X.env x = pure x := by intro _; rfl) :
    DE X W (.ListComp elt [⟨tg, .Name y py, ifs, 0⟩] scope pos) (dLcT i dg dt de (own.map (·.2))) := by
  have base := pe_lc (pos := pos) (g := gD X.K js dg) (tt := tDT X.K W0 dt) (te := tD X.K W0 de) hc hN (pi_keys (tg := tg) (pv (pos := py) i hi hv hd hcd)) ok hg ht he hs
  refine pe_imp (pe_or2 (pe_lock base) base) fun σ H QQ ⟨F, S, ρ, Q, Ee, r, h, kq, ke⟩ => ?_
  obtain ⟨p, kvs, S2, ρ2, e1, g2, r2, p2, q⟩ := tkAt_ok r h
  obtain ⟨p', ws, e, hrd, hk⟩ := id p2
  cases e
  rcases hrd with hrd | ⟨od, hrd⟩
  · refine .inl ⟨p, .dT ws, r2.s _ _ hrd, trivial, fun od => ?_⟩
    have L : Relock S2 (upd S2 p (.frz od (.dT ws))) p (.dT ws) := ⟨fun a u n e => by rw [upd_ne n]; exact e, .inl hrd, .inr ⟨od, upd_same⟩, .inl ⟨_, rfl⟩⟩
    have hB : ∀ w, F.B p = some w → w = .dT ws := fun w e => by
      have e' := r2.b p w e
      rw [r2.s _ _ hrd] at e'
      exact (Option.some.inj e').symm
    refine ⟨_, e1, p, od, rfl, .inr ⟨ws, upd_same, lc_turnsT (Qd := fun acc ρ' => Q (.fr (.l acc)) ρ') (QQ := fun v H' => H' p = some (HO.frz od (HO.dT ws)) ∧ QQ v (upd H' p (HO.dT ws))) (r2.lock (od := od) (.inl ⟨_, rfl⟩) hrd) upd_same (hk.relock L) hjs q fun v acc S' ρ' H' g' r' vr' q' => ?_⟩⟩
    obtain ⟨s1, g3⟩ := Gr.unlock hrd g'
    exact ⟨r'.s _ _ s1, kq v _ _ ρ' _ (g2.trans g3) (r'.unlock (.inl ⟨_, rfl⟩) s1 hB) (vr'.unlock (.inl ⟨_, rfl⟩) s1 r') q'⟩
  · exact .inr ⟨_, e1, p, od, rfl, .inr ⟨ws, r2.s _ _ hrd, lc_turnsT (Qd := fun acc ρ' => Q (.fr (.l acc)) ρ') (QQ := QQ) r2 hrd hk hjs q fun v acc S' ρ' H' g' r' vr' q' => kq v _ S' ρ' H' (g2.trans g') r' vr' q'⟩⟩
end
/-! ### walks over a dict with numbers or texts as keys -/
def keysK (kvs : List (Key × D)) : List D := kvs.map fun kv => keyKD kv.1
theorem key_rp {K : PySem.W.Frag} {S : Hp} (k : Key) : Rp K S (keyKD k) (kV k) := by
  cases k <;> exact rfl
section
variable {K : PySem.W.Frag} {F : Fm} {S H : Hp} {ρ : List SV} {σ : St} {p : Addr} {od : Obj} {kvs : List (Key × D)} {ws : List (Key × V)} {dg : DTG} {db : DTS} {js : List Nat}
theorem for_coreK {De : DEnds} {D0 : Ends} (r : R K F S ρ σ H) (hp : S p = some (.frz od (.dK ws))) (hk : RpK K S kvs ws) (h : dForN dg db De (keysK kvs) ρ)
    (k1 : ∀ ρ' σ' S' H', Gr F.B S S' → R K F S' ρ' σ' H' → De.nx ρ' → D0.nx σ' H') (k2 : ∀ v x ρ' σ' S' H', Gr F.B S S' → R K F S' ρ' σ' H' → VR K F S' ρ' σ' H' v x → De.rt x ρ' → D0.rt v H') (k5 : ∀ e ρ, De.ex e ρ → False) {W : WX} :
    ∃ Wt : Nat → Nat → St → Hp → Prop, (∃ m, Wt 0 m σ H) ∧ ∀ i m σ H, Wt i m σ H → ((Itk p od ws).stop i H ∧ D0.nx σ H) ∨ ((Itk p od ws).go i H ∧ ∃ N : St → Hp → Prop, (∀ σ' H', N σ' H' → ∃ m', m' < m ∧ Wt (i + 1) m' σ' H') ∧ ∀ x H', (Itk p od ws).yld i H x H' →
      gD K js dg x σ H' fun σ2 H2 => tSD K W db { D0 with nx := N, ct := N, bk := D0.nx } σ2 H2) := by
  have f := hk.keys
  have ln : ws.length = (keysK kvs).length := by
    have := congrArg List.length f
    simpa [keysK] using this
  have gk : ∀ (i : Nat) (hi : i < (keysK kvs).length) k v, ws[i]? = some (k, v) → (keysK kvs)[i] = keyKD k := fun i hi k v e => by
    have e1 : (ws.map (·.1))[i]? = some k := by rw [List.getElem?_map, e]; rfl
    have hl : i < kvs.length := by simpa [keysK] using hi
    rw [f, List.getElem?_map, List.getElem?_eq_getElem hl] at e1
    have e2 : kvs[i].1 = k := by simpa using e1
    simp [keysK, e2]
  generalize hds : keysK kvs = ds at h ln gk
  refine ⟨fun i m σ1 H1 => m = ds.length - i ∧ i ≤ ds.length ∧ ∃ S1 ρ1, Gr F.B S S1 ∧ R K F S1 ρ1 σ1 H1 ∧ dForN dg db De (ds.drop i) ρ1, ⟨_, rfl, Nat.zero_le _, S, ρ, Gr.refl _ _, r, h⟩, ?_⟩
  rintro i m σ1 H1 ⟨rfl, hi, S1, ρ1, g1, r1, w1⟩
  have sH : Same S H1 := g1.s.trans r1.s
  by_cases c : i < ds.length
  · have e : ds.drop i = ds[i] :: ds.drop (i + 1) := List.drop_eq_getElem_cons c
    rw [e] at w1
    refine .inr ⟨⟨sH p _ hp, by omega⟩, fun σ' H' => ∃ S' ρ', Gr F.B S S' ∧ R K F S' ρ' σ' H' ∧ dForN dg db De (ds.drop (i + 1)) ρ', fun σ' H' q => ⟨ds.length - (i + 1), by omega, rfl, c, q⟩, fun x H2 y => ?_⟩
    obtain ⟨rfl, k, v, e1, rfl⟩ := y
    have hp' : Rp K S1 ds[i] (kV k) := by
      rw [gk i c k v e1]
      exact key_rp k
    refine ⟨F, S1, ρ1, _, _, r1, hp', w1, fun ρ2 σ2 S2 H3 g2 r2 _ q2 => ?_⟩
    have g12 := g1.trans g2
    exact ⟨F, S2, ρ2, _, r2, q2, fun ρ' σ' S' H' g' r' q' => ⟨S', ρ', g12.trans g', r', q'⟩, fun v x ρ' σ' S' H' g' => k2 v x ρ' σ' S' H' (g12.trans g'), fun ρ' σ' S' H' g' => k1 ρ' σ' S' H' (g12.trans g'),
      fun ρ' σ' S' H' g' r' q' => ⟨S', ρ', g12.trans g', r', q'⟩, fun e cls d ρ' σ' S' H' g' _ _ q' => (k5 e ρ' q').elim⟩
  · have e : i = ds.length := by omega
    rw [e, List.drop_length] at w1
    exact .inl ⟨⟨sH p _ hp, by omega⟩, k1 ρ1 σ1 S1 H1 g1 r1 w1⟩
end
/-- the dict in slot i, told -/
def dkAt (i : Nat) (ρ : List SV) (k : List (Key × D) → List SV → Prop) : Prop := match ρ[i]? with
  | some (.d (.dct kvs)) => k kvs ρ
  | some (.ow (.k kvs)) => k kvs (ρ.set i (.d (.dct kvs)))
  | _ => False
theorem dkAt_ok {K : PySem.W.Frag} {F : Fm} {S H : Hp} {ρ : List SV} {σ : St} {i : Nat} {k : List (Key × D) → List SV → Prop} (r : R K F S ρ σ H) (h : dkAt i ρ k) : ∃ p kvs S' ρ', σ[i]? = some (some (.ref p)) ∧ Gr F.B S S' ∧ R K F S' ρ' σ H ∧ Rp K S' (.dct kvs) (.ref p) ∧ k kvs ρ' := by
  unfold dkAt at h
  cases c : ρ[i]? with
  | none => simp only [c] at h
  | some y =>
    cases y with
    | d a =>
      cases a with
      | dct kvs =>
        simp only [c] at h
        obtain ⟨ov, e1, v, e2, h2⟩ := r.at_ i _ c
        have h3 := h2
        obtain ⟨p, ws, rfl, _⟩ := h3
        exact ⟨p, kvs, S, ρ, by rw [e1, e2], Gr.refl _ _, r, h2, h⟩
      | _ => simp only [c] at h
    | ow o =>
      cases o with
      | k kvs =>
        simp only [c] at h
        obtain ⟨p, e1, _⟩ := r.own c rfl
        obtain ⟨S', g, r', q⟩ := r.freeze c e1
        exact ⟨p, kvs, S', _, e1, g, r', q, h⟩
      | _ => simp only [c] at h
    | _ => simp only [c] at h
def dForK (i : Nat) (dg : DTG) (body : DTS) : DTS := fun De ρ => dkAt i ρ fun kvs ρ1 => dForN dg body (noEx De) (keysK kvs) ρ1
theorem d_forK {X : Cx} {W : WX} {tg : Expr} {es : List Stmt} {pos : Pos} {y : Str} {py : Pos} {dg : DTG} {db : DTS} {js : List Nat} (i : Nat) (hp : PassesOwn (model X.prog X.w) X.A X.env X.xe) (hc : X.calm = true) (hg : DG X tg js dg) (hb : DSs X W es db)
    (hN : X.N[i]? = some y := by rfl) (hv : Vis X.env.scope y := by first | exact Or.inl rfl | exact Or.inr (Or.inl rfl) | exact Or.inr (Or.inr rfl)) (hd : (y == ("__debug__" : Str)) = false := by decide) (hcd : (y == ("__classdict__" : Str)) = false := by decide)
    (hs : ∀ x, foldedSetIterable (.Name y py) X.env x = pure x := by intro _; rfl) : DS X W (.For tg (.Name y py) es [] pos) (dForK i dg db) := by
  have base := ps_for (pos := pos) hp hc (pi_keys (tg := tg) (pv (pos := py) i hN hv hd hcd)) hg hb hs
  refine ps_imp (ps_or (ps_lock base) base) fun D σ H ⟨F, S, ρ, De, r, h, k1, k2, k3, k4, k5⟩ => ?_
  obtain ⟨p, kvs, S2, ρ2, e1, g2, r2, p2, q⟩ := dkAt_ok r h
  obtain ⟨p', ws, e, hrd, hk⟩ := id p2
  cases e
  rcases hrd with hrd | ⟨od, hrd⟩
  · refine .inl ⟨p, .dK ws, r2.s _ _ hrd, trivial, fun od => ?_⟩
    have L : Relock S2 (upd S2 p (.frz od (.dK ws))) p (.dK ws) := ⟨fun a u n e => by rw [upd_ne n]; exact e, .inl hrd, .inr ⟨od, upd_same⟩, .inr ⟨_, rfl⟩⟩
    have hB : ∀ w, F.B p = some w → w = .dK ws := fun w e => by
      have e' := r2.b p w e
      rw [r2.s _ _ hrd] at e'
      exact (Option.some.inj e').symm
    refine ⟨_, e1, p, od, rfl, .inl ⟨ws, upd_same, for_coreK (De := noEx De) (r2.lock (od := od) (.inr ⟨_, rfl⟩) hrd) upd_same (hk.relock L) q (fun ρ' σ' S' H' g' r' q' => ?_) (fun v x ρ' σ' S' H' g' r' vr' q' => ?_) fun _ _ z => z⟩⟩
    · obtain ⟨s1, g3⟩ := Gr.unlock hrd g'
      exact ⟨r'.s _ _ s1, k1 ρ' σ' _ _ (g2.trans g3) (r'.unlock (.inr ⟨_, rfl⟩) s1 hB) q'⟩
    · obtain ⟨s1, g3⟩ := Gr.unlock hrd g'
      exact ⟨r'.s _ _ s1, k2 v x ρ' σ' _ _ (g2.trans g3) (r'.unlock (.inr ⟨_, rfl⟩) s1 hB) (vr'.unlock (.inr ⟨_, rfl⟩) s1 r') q'⟩
  · exact .inr ⟨_, e1, p, od, rfl, .inl ⟨ws, r2.s _ _ hrd, for_coreK (De := noEx De) r2 hrd hk q (fun ρ' σ' S' H' g' => k1 ρ' σ' S' H' (g2.trans g')) (fun v x ρ' σ' S' H' g' => k2 v x ρ' σ' S' H' (g2.trans g')) fun _ _ z => z⟩⟩
/-! ### stores -/
def dDictT : DTE := fun ρ Q _ => Q (.fr (.t [])) ρ
theorem d_dictT {X : Cx} {W : WX} {pos : Pos} : DE X W (.Dict [] [] pos) dDictT := by
  refine pe_imp pe_dnewT fun σ H QQ ⟨F, S, ρ, Q, Ee, r, h, kq, ke⟩ => fun p hp => ?_
  obtain ⟨S5, g5, r5, vr5⟩ := (Res.fr (S := S) (o := .t []) (u := .dT []) hp ⟨[], upd_same, rfl⟩).ok r
  exact kq _ _ S5 ρ _ g5 r5 vr5 h
def putTD (kvs : List (List Key × D)) (k : List Key) (v : D) : List (List Key × D) :=
  if (kvs.any fun kv => decide (kv.1 = k)) = true then kvs.map (fun kv => if kv.1 = k then (kv.1, v) else kv) else kvs ++ [(k, v)]
section
variable {K : PySem.W.Frag} {S H : Hp}
theorem RpT.length : ∀ {xs : List (List Key × D)} {vs : List (List Key × V)}, RpT K S xs vs → vs.length = xs.length
  | [], _, h => by rw [h]; rfl
  | (_, _) :: _, _, ⟨v, ws, e, h1, h2⟩ => by rw [e, List.length_cons, List.length_cons, RpT.length h2]
theorem RpT.any {k : List Key} : ∀ {xs : List (List Key × D)} {vs : List (List Key × V)}, RpT K S xs vs → (vs.any fun kv => decide (kv.1 = k)) = (xs.any fun kv => decide (kv.1 = k))
  | [], _, h => by rw [h]; rfl
  | (_, _) :: _, _, ⟨v, ws, e, h1, h2⟩ => by rw [e, List.any_cons, List.any_cons, RpT.any h2]
theorem RpT.app : ∀ {xs ys : List (List Key × D)} {vs ws : List (List Key × V)}, RpT K S xs vs → RpT K S ys ws → RpT K S (xs ++ ys) (vs ++ ws)
  | [], _, _, _, h, g => by rw [h]; exact g
  | (_, _) :: _, _, _, _, ⟨v, ws, e, h1, h2⟩, g => by rw [e]; exact ⟨v, _, rfl, h1, RpT.app h2 g⟩
theorem RpT.mapPut {k : List Key} {a : D} {w : V} (g : Rp K S a w) : ∀ {xs : List (List Key × D)} {vs : List (List Key × V)}, RpT K S xs vs → RpT K S (xs.map fun kv => if kv.1 = k then (kv.1, a) else kv) (vs.map fun kv => if kv.1 = k then (kv.1, w) else kv)
  | [], _, h => by rw [h]; exact rfl
  | (q, _) :: _, _, ⟨v, ws, e, h1, h2⟩ => by
    rw [e, List.map_cons, List.map_cons]
    by_cases c : q = k
    · simp only [c, if_true]
      exact ⟨w, _, rfl, g, RpT.mapPut g h2⟩
    · simp only [c, if_false]
      exact ⟨v, _, rfl, h1, RpT.mapPut g h2⟩
theorem RpT.put {k : List Key} {a : D} {w : V} {xs : List (List Key × D)} {vs : List (List Key × V)} (h : RpT K S xs vs) (g : Rp K S a w) : RpT K S (putTD xs k a) (putK vs k w) := by
  unfold putTD putK
  rw [h.any]
  split
  · exact h.mapPut g
  · exact h.app ⟨w, [], rfl, g, rfl⟩
end
def hasT (ρ : List SV) (i : Nat) : Prop := match ρ[i]? with
  | some (.ow (.t _)) => True
  | _ => False
/-- d[k] = v of a dict of one's own -/
def dSetKT (i : Nat) (dk de : DTE) : DTS := fun De ρ => de ρ (fun z ρ1 => stab z ρ1 fun b ρ2 => hasT ρ2 i ∧ dk ρ2 (fun w ρ3 => pk ρ3 w fun c => match keyT c, ρ3[i]? with
  | some q, some (.ow (.t kvs)) => kvs.length < sizeLine ∧ De.nx (ρ3.set i (.ow (.t (putTD kvs q b))))
  | _, _ => False) De.ex) De.ex
theorem d_setKT {X : Cx} {W : WX} (i : Nat) {y : Str} {py pos' pos : Pos} {ix e : Expr} {dk de : DTE} (hu : X.A.units + 1 < cLine) (hk : DE X W ix dk) (he : DE X W e de)
    (hN : X.N[i]? = some y := by rfl) (hv : Vis X.env.scope y := by first | exact Or.inl rfl | exact Or.inr (Or.inl rfl) | exact Or.inr (Or.inr rfl)) (hd : (y == ("__debug__" : Str)) = false := by decide) (hcd : (y == ("__classdict__" : Str)) = false := by decide)
    (hs : swapsWith e (some (.Subscript (.Name y py) ix pos')) pos.line X.env = pure false := by rfl) : DS X W (.Assign [.Subscript (.Name y py) ix pos'] e pos) (dSetKT i dk de) := by
  refine ps_imp (ps_dput hu (pv i hN hv hd hcd) hk he hs) fun D σ H ⟨F, S, ρ, De, r, h, k1, k2, k3, k4, k5⟩ => ?_
  refine ⟨F, S, ρ, _, _, r, h, fun v x S1 ρ1 H1 g1 r1 vr1 q1 => ?_, fun er cls d S' ρ' H' g' r' => k5 er cls d ρ' σ S' H' g' r'⟩
  obtain ⟨b, S2, ρ2, g2, r2, p2, q2⟩ := VR.stab r1 vr1 q1
  obtain ⟨q0, q2⟩ := q2
  have h0 : ∃ kvs, ρ2[i]? = some (.ow (.t kvs)) := by
    unfold hasT at q0
    split at q0
    · exact ⟨_, ‹_›⟩
    · exact q0.elim
  obtain ⟨kvs0, h0⟩ := h0
  obtain ⟨p, e1, _⟩ := r2.own h0 rfl
  refine ⟨_, e1, F, S2, ρ2, _, _, r2, q2, fun w z S3 ρ3 H3 g3 r3 vr3 q3 => ?_, fun er cls d S' ρ' H' g' r' => k5 er cls d ρ' σ S' H' ((g1.trans g2).trans g') r'⟩
  obtain ⟨c, p3, q4⟩ := VR.pk r3 vr3 q3
  cases kc : keyT c with
  | none => simp only [kc] at q4
  | some q =>
    cases h3 : ρ3[i]? with
    | none => simp only [kc, h3] at q4
    | some y1 =>
      cases y1 with
      | ow o =>
        cases o with
        | t kvs =>
          simp only [kc, h3] at q4
          obtain ⟨p', e3, b1, s1, ws, a1, a2⟩ := r3.own h3 rfl
          rw [e1] at e3
          cases e3
          obtain ⟨bb, eb, hb⟩ := keyT_at r3.s kc p3
          refine ⟨p, _, rfl, by rw [eb]; exact DPut.t (k := q) a1 hb (by rw [a2.length]; exact q4.1), ?_⟩
          exact k1 _ σ S3 _ ((g1.trans g2).trans g3) (r3.change (y := .ow (.t kvs)) (y' := .ow (.t (putTD kvs q b))) h3 rfl e1 rfl ⟨_, upd_same, a2.put (Rp.mono g3.s p2)⟩) q4.2
        | _ => simp only [kc, h3] at q4
      | _ => simp only [kc, h3] at q4
end DW
/-! DWx: extend by a tuple; index of nested items; a list's item stored through a pointer. -/
namespace DW
open PySem L2
open PySem.AutoSeq1 PySem.Spec PyProof.Rows in
theorem ext_tup (l : Addr) (items : Array Value) (n : Nat) (b : Addr) (dd : Option Addr) (sl : Array (Option Value)) (items2 : Array Value) (n2 : Nat) (h0 : ¬(!items.isEmpty && Builtin.List.listTooLong (items.size + items2.size)) = true) (h1 : items.size ≤ sizeLine) (h2 : items.size + items2.size ≤ sizeLine + 1) :
    Meets (Builtin.«list.extend» ⟨[.ref l, .ref b], []⟩) (fun _ R s => s.heap.get? l = some { cls := .type "list", dict := none, data := .seq items n, slots := #[] } ∧ s.heap.get? b = some { cls := .type "tuple", dict := dd, data := .seq items2 n2, slots := sl } ∧
      R (.ok (.ret Value.none)) { s with heap := s.heap.update l (Obj.mapSeq fun x => x ++ items2), toks := s.toks }) := by
  refine .of_wp fun prog w A R s h => ?_
  obtain ⟨hp, g, d, tk, os⟩ := s
  obtain ⟨hl, hb, h⟩ := h
  have f1 := idx_int
  have f2 := PySem.AutoSeq1.sub_tuple_tuple
  have f3 := PySem.AutoSeq1.sub_list_list
  have f4 := PySem.AutoSeq1.sub_tuple_list
  have f5 := PySem.AutoSeq1.sub_list_tuple
  have hz' : (items ++ items2).size ≤ sizeLine + 1 := by
    rw [Array.size_append]
    exact h2
  wp_walk using (wpAny_updateSeq hl rfl (hz := h1) (_hz' := hz')), wpAny_loadPart' hl, wpAny_loadPart' hb
  exact ⟨_, rfl, h⟩
def rExtT : V → List V → Hp → VK → Prop := fun x vs H Q => ∃ l b xs zs, x = .ref l ∧ vs = [.ref b] ∧ H l = some (.lst xs) ∧ H b = some (.tup zs) ∧ xs.length + zs.length ≤ sizeLine ∧ Q .non (upd H l (.lst (xs ++ zs)))
open PyProof.Rows PySem.Spec in
theorem mt_extT {X : Cx} : MtR X "list.extend" rExtT := by
  intro pins s σ H x vs v us Q I rx rv h
  obtain ⟨l, b, xs, zs, rfl, rfl, hH, hB, hz, q⟩ := h
  cases rx
  obtain ⟨u, rfl, ru⟩ := rv.one
  cases ru
  obtain ⟨z, its, n, r, hl, e⟩ := I.lstM hH
  obtain ⟨its2, r2, ⟨o2, g2, c2, n2, d2⟩, z2⟩ := I.tuple (SqT.of hB)
  have l2 := r2.length
  have sz : its.toArray.size + its2.toArray.size ≤ sizeLine := by
    simp only [List.size_toArray]
    omega
  have long : ¬ (!its.toArray.isEmpty && Builtin.List.listTooLong (its.toArray.size + its2.toArray.size)) = true := by
    rw [notLongL sz, Bool.and_false]
    decide
  obtain ⟨oc, od, odt, osl⟩ := o2
  dsimp only at c2 d2
  subst c2 d2
  have sz1 : its.toArray.size ≤ sizeLine := Nat.le_trans (Nat.le_add_right _ _) sz
  refine call_meets F.slot_list_extend ⟨_, e, rfl⟩ F.entry_list_extend (F.args_list_extend_2 _ _) (ext_tup l its.toArray n b od osl its2.toArray n2 long sz1 (by omega)) ⟨e, g2, ?_⟩
  refine ⟨.non, _, I.lset (its' := its ++ its2) hH e (by simp) (r.append r2) ?_, rfl, q⟩
  rw [List.length_append]
  exact hz
/-- extend by a tuple -/
def gExtT : DLM := fun xs as k => match as with
  | [.tup ys] => xs.length + ys.length ≤ sizeLine ∧ k .non (xs ++ ys)
  | _ => False
section
variable {K : PySem.W.Frag}
theorem ok_extT : MtOk K gExtT rExtT := by
  intro S H p xs as vs ws k QQ sh sp hp hx ha h kq
  unfold gExtT at h
  split at h
  · obtain ⟨v, us, e, ⟨q, zs, e2, h1, h2⟩, h3⟩ := ha
    have h3 : us = [] := h3
    exact ⟨p, q, vs, zs, rfl, by rw [e, e2, h3], hp, sh _ _ h1, by rw [hx.length, h2.length]; exact h.1, kq .non .non _ _ rfl (RpL.append hx h2) h.2⟩
  · exact h.elim
/-- the first place of an item -/
def gIndexD : DLM := fun xs as k => match as with
  | [a] => a.pl 7 = true ∧ (D.lst xs).pl 8 = true ∧ match xs.findIdx? fun z => D.eqv z a with
    | some j => k (.int (j : Nat)) xs
    | none => False
  | _ => False
theorem pyL_get : ∀ (xs : List D) (i : Nat), (D.pyL xs)[i]? = xs[i]?.map D.py
  | [], i => by simp [D.pyL]
  | x :: xs, 0 => by simp [D.pyL]
  | x :: xs, i + 1 => by simpa [D.pyL] using pyL_get xs i
theorem upd_id {H : Hp} {p : Addr} {u : HO} (h : H p = some u) : upd H p u = H := funext fun a => by
  by_cases e : a = p
  · rw [e, upd_same, h]
  · rw [upd_ne e]
theorem ok_indexD : MtOk K gIndexD (rIndexD K) := by
  intro S H p xs as vs ws k QQ sh sp hp hx ha h kq
  unfold gIndexD at h
  split at h
  · rename_i a
    obtain ⟨v, us, e, h1, h2⟩ := ha
    have h2 : us = [] := h2
    obtain ⟨pa, px, h⟩ := h
    cases c : xs.findIdx? fun z => D.eqv z a with
    | none => simp only [c] at h
    | some j =>
      simp only [c] at h
      rw [List.findIdx?_eq_some_iff_getElem] at c
      obtain ⟨hj, hz, hno⟩ := c
      have e1 : (D.lst xs).py = .list (D.pyL xs) := by simp [D.py]
      have rl : Rp K H (.lst xs) (.ref p) := ⟨p, vs, rfl, hp, RpL.mono sh hx⟩
      refine ⟨p, v, a.py, D.pyL xs, j, (xs[j]).py, rfl, by rw [e, h2], by rw [← e1]; exact Rp.dp _ 8 _ rl px, Rp.dp a 7 v (Rp.mono sh h1) pa, by rw [← e1]; exact D.shaped (by decide) px, D.shaped (by decide) pa, by rw [pyL_get, List.getElem?_eq_getElem hj]; rfl, hz, fun m z' hm hz' => ?_, ?_⟩
      · have hm' : m < xs.length := by omega
        rw [pyL_get, List.getElem?_eq_getElem hm'] at hz'
        cases hz'
        exact Bool.eq_false_iff.mpr (hno m hm)
      · have := kq (.int (j : Nat)) (.int (j : Nat)) xs vs rfl hx h
        rw [upd_id hp] at this
        exact this
  · exact h.elim
end
/-- o[i] = e, o a pointer to a list -/
def dSetIxM (m : Nat) (da dx de : DTE) : DTS := fun De ρ => de ρ (fun z ρ1 => stab z ρ1 fun b ρ2 => da ρ2 (fun x ρ3 => match x with
  | .d (.ptr p) => dx ρ3 (fun w ρ4 => pk ρ4 w fun c => match c with
    | .int j => atM ρ4 m fun μ => match μ.lookup p with
      | some (.l xs) => match ixN xs.length j with
        | some n => De.nx (ρ4.set m (.mm (memU μ p (.l (xs.set n b)))))
        | none => False
      | _ => False
    | _ => False) De.ex
  | _ => False) De.ex) De.ex
theorem d_setIxM {X : Cx} {W : WX} (m : Nat) {o ix e : Expr} {pos' pos : Pos} {da dx de : DTE} (ho : DE X W o da) (hx : DE X W ix dx) (he : DE X W e de)
    (hg : ∀ {to ti : TE}, PE X o to → PE X ix ti → PG X (.Subscript o ix pos') (gSub to ti rSetL) := by exact fun a b => pg_sub a b set_list)
    (hs : swapsWithSole [.Subscript o ix pos'] e pos.line X.env = pure false := by rfl) (hw : swappedStores [.Subscript o ix pos'] e X.env = pure none := by rfl)
    (h1 : (assignEach [.Subscript o ix pos'] X.env).map (·.2) = [assign (.Subscript o ix pos') X.env] := by rfl) : DS X W (.Assign [.Subscript o ix pos'] e pos) (dSetIxM m da dx de) := by
  refine ps_imp (ps_asg he (hg ho hx) hs hw h1) fun D σ H ⟨F, S, ρ, De, r, h, k1, k2, k3, k4, k5⟩ => ?_
  refine ⟨F, S, ρ, _, _, r, h, fun v x S1 ρ1 H1 g1 r1 vr1 q1 => ?_, fun er cls d S' ρ' H' g' r' => k5 er cls d ρ' σ S' H' g' r'⟩
  obtain ⟨b, S2, ρ2, g2, r2, p2, q2⟩ := VR.stab r1 vr1 q1
  have g12 := g1.trans g2
  refine ⟨F, S2, ρ2, _, _, r2, q2, fun w z S3 ρ3 H3 g3 r3 vr3 q3 => ?_, fun er cls d S' ρ' H' g' r' => k5 er cls d ρ' σ S' H' (g12.trans g') r'⟩
  have g13 := g12.trans g3
  cases z with
  | d a =>
    cases a with
    | ptr p =>
      have vr3 : w = .ref p := vr3
      refine ⟨F, S3, ρ3, _, _, r3, q3, fun w2 z2 S4 ρ4 H4 g4 r4 vr4 q4 => ?_, fun er cls d S' ρ' H' g' r' => k5 er cls d ρ' σ S' H' (g13.trans g') r'⟩
      obtain ⟨c, p4, q5⟩ := VR.pk r4 vr4 q4
      cases c with
      | int j =>
        obtain ⟨μ, e, q6⟩ := atM_ok q5
        cases l : μ.lookup p with
        | none => simp only [l] at q6
        | some oo =>
          cases oo with
          | l xs =>
            simp only [l] at q6
            cases n : ixN xs.length j with
            | none => simp only [n] at q6
            | some m' =>
              simp only [n] at q6
              obtain ⟨_, _, us, a4, a5⟩ := (r4.memAt e).2 p _ (look_mem l)
              refine ⟨p, us, j, m', vr3, p4, a4, by rw [a5.length]; exact n, ?_⟩
              exact k1 _ σ S4 _ (g13.trans g4) (r4.setM e l (OR.mkL (a5.set m' (Rp.mono (g3.trans g4).s p2)))) q6
          | _ => simp only [l] at q6
      | _ => exact False.elim q5
    | _ => exact False.elim q3
  | _ => exact False.elim q3
end DW
/-! DWr: raising the program's own exceptions, catching them. -/
namespace DW
open PySem L2
/-- the base class, whose __init__ is the built-in one, asked by its name -/
structure BaseC (K : PySem.W.Frag) (C : Addr) : Prop where
  ga : PySem.W.specialIn K (.ref C) "__getattribute__" = some (some (.builtin "type.__getattribute__"))
  ty : PySem.W.typeIn K (.ref C) = some (.type "type")
  rd : PySem.W.readsIn K C (.type "type") = true
  fi : PySem.W.findCls K (.ref C) (.type "type") "__init__" = some (.val (.builtin "ValueError.__init__"))
open PySem.Spec PyProof.Rows in
theorem pe_base {X : Cx} {x : Str} {C : Addr} {e : Expr} {es : List Expr} {ta : TA} {p1 p2 pos : Pos} {pl : Sem Bool} (B : BaseC X.K C) (hm : X.mg x = some (.ref C)) (ha : PA X (e :: es) ta) (hg : Gl X x := by rfl) (hdb : (x == ("__debug__" : Str)) = false := by decide)
    (hc : eval (.Call (.Attribute (.Name x p1) "__init__" p2) (e :: es) [] pos) X.env = (do
      let o ← eval (.Name x p1) X.env
      standAt p2.atName
      let (g, first) ← holding [o] (getMethod o "__init__" pl)
      callWith pos g first (backTo pos (starEach (e :: es) X.env)) (backToKw pos (keywordEach [] X.env))) := by rfl)
    (he : starEach (e :: es) X.env = (false, eval e X.env) :: starEach es X.env := by rfl) (hpl : (backTo pos (starEach es X.env)).any (·.1) = false := by rfl) :
    PE X (.Call (.Attribute (.Name x p1) "__init__" p2) (e :: es) [] pos) (tVeI X.K ta) := by
  refine ⟨fun pins s σ H Q I h => ?_⟩
  refine PySem.W.methodCall_KW (ld_glob I hg hm ?_ hdb) hc
  obtain ⟨m, fr⟩ := I.fr
  refine PySem.W.method_of_cls fr I.ok.mod.kin B.ga (PySem.W.cls_val fr I.ok.mod.kin B.ty B.rd B.fi (by decide +kernel) ?_)
  show wpAny _ _ (callWith pos (Value.builtin "ValueError.__init__") [] (backTo pos (starEach (e :: es) X.env)) []) _ _ _
  refine callWith_method1 (thn (ha.run pos pins _ σ H _ (I.tok _) h) fun us s1 ⟨vs, H1, I1, r1, a, C', ws, ev, hl, T, ea, q⟩ => ?_) he hpl
  subst ev
  cases r1 with
  | @cons _ u0 _ ur ra rw' =>
    obtain rfl : u0 = Value.ref a := ra
    have hlen : ur.length ≤ sizeLine := by
      have e1 := rw'.length
      rw [sizeLine_eq]
      omega
    exact oinit_ok T I1 ea hlen fun s' J => ⟨.non, H1, J, rfl, q⟩
/-- what the __init__ of an exception with one field promises -/
def spX1 (K : PySem.W.Frag) (C : Addr) (f : Str) : Sp := fun vs H Q _ => ∃ (a : Addr) (v : V), vs = [.ref a, v] ∧ H a = some (exo a C none) ∧ ∀ dx, H dx = none → dx ≠ a → Q .non (upd (upd H dx (exd dx [(f, v)])) a (exo a C (some dx)))
/-- .. with two -/
def spX2 (K : PySem.W.Frag) (C : Addr) (f g : Str) : Sp := fun vs H Q _ => ∃ (a : Addr) (v w : V), vs = [.ref a, v, w] ∧ H a = some (exo a C none) ∧ ∀ dx, H dx = none → dx ≠ a → Q .non (upd (upd (upd H dx (exd dx [(f, v)])) a (exo a C (some dx))) dx (exd dx [(g, w), (f, v)]))
theorem heap1 {H : Hp} {a d : Addr} {u v w : HO} (ha : H a = none) (hd : d ≠ a) : upd (del (upd (upd (upd H a u) d v) a w) a) d (.xd []) = upd H d (.xd []) := by
  funext b
  by_cases e : b = d
  · rw [e, upd_same, upd_same]
  · rw [upd_ne e, upd_ne e]
    by_cases e2 : b = a
    · rw [e2, del_same, ha]
    · rw [del_ne e2, upd_ne e2, upd_ne e, upd_ne e2]
theorem heapX {H : Hp} {a d : Addr} {G : Hp} {x : HO} (ha : H a = none) (hd : d ≠ a) (h : ∀ b, b ≠ a → b ≠ d → G b = H b) : upd (del G a) d x = upd H d x := by
  funext b
  by_cases e : b = d
  · rw [e, upd_same, upd_same]
  · rw [upd_ne e, upd_ne e]
    by_cases e2 : b = a
    · rw [e2, del_same, ha]
    · rw [del_ne e2, h b e2 e]
/-- the new exception's dict is told -/
theorem R.excDict {K : PySem.W.Frag} {F : Fm} {S H : Hp} {ρ : List SV} {σ : St} {d : Addr} {ws : List (Str × V)} (r : R K F S ρ σ H) (hd : H d = none) : ∃ S', Gr F.B S S' ∧ R K F S' ρ σ (upd H d (.xd ws)) ∧ S' d = some (.xd ws) := by
  have hb := r.newB hd
  have hn := NoSl.new r hd
  have q := (r.beside (u := .xd ws) hb.1 hb.2 hn).tell upd_same hb.2 hb.1 hn
  exact ⟨_, q.2, q.1, upd_same⟩
section
open PySem.Spec PyProof.Rows
variable {X : Cx} {e : Expr} {es : List Expr} {p pos : Pos} {ta : TA}
/-- C(e, ..), C an exception class with a written __init__: what it makes has no context -/
theorem pmk_new {Y : CXT} {nm : Str} {C fI : Addr} {j : Nat} {fd : FuncData} {qs : List Str} {sp : Sp} (T : OexC X.K C) (hi : PySem.W.findIn X.K (.ref C) "__init__" = some (some (.ref fI)))
    (ht : PySem.W.typeIn X.K (.ref fI) = some (.type "function")) (G : FnOk X.prog X.w X.K X.mg X.base Y j fI fd qs sp) (room : Room (j + 1) X.A) (bd : Binds X.K fd qs [])
    (px : Passes Y X (fun _ _ _ => False)) (gl : Gl X nm) (mg : X.mg nm = some (.ref C)) (pa : PA X (e :: es) ta)
    (db : (nm == ("__debug__" : Str)) = false := by decide) (st : starEach (e :: es) X.env = (false, eval e X.env) :: starEach es X.env := by rfl)
    (bt : (backTo pos (starEach es X.env)).any (·.1) = false := by rfl) :
    L2N.PMk X (.Call (.Name nm p) (e :: es) [] pos) (tMkO C sp [] ta) := by
  intro pp st0 ρ G0 QQ J0 start
  obtain ⟨c1, c2, c3, c4, bm, c6, c7, c8, c9, c10, c11, c12, c13, c14, c15, look, rv⟩ := T.cls
  refine wpAny_Call_Name_kw (ld_glob J0 gl mg ?_ db)
  refine PySem.W.callWith_K (h₀ := X.base) J0.ok.mod.kin T.kC (thn (pa.run pos pp st0 ρ G0 _ J0 start) fun ys t1 ⟨zs, G1, J1, rel, small, q1⟩ => ⟨J1.kIn, ?_⟩) st bt
  show wpAny _ _ (call (.ref C) ys) _ _ _
  obtain ⟨h0, ge, dw, tk, os⟩ := t1
  have le : h0.objs.size ≤ h0.objs.size + 1 := by omega
  have free : G1 (h0.objs.size + 1) = none := J1.hok.fresh le
  have first := q1 (h0.objs.size + 1) free
  rw [List.append_nil] at first
  have old : ∀ b o, h0.get? b = some o →
      ((h0.push (PySem.W.kdv_tup ys)).push (PySem.HandSPX.excO C h0.objs.size)).get? b = some o :=
    fun b o z => Heap.get?_push_of_some _ (Heap.get?_push_of_some _ z)
  have here : ((h0.push (PySem.W.kdv_tup ys)).push (PySem.HandSPX.excO C h0.objs.size)).get? (h0.objs.size + 1) =
      some (PySem.HandSPX.excO C h0.objs.size) := by heap_get
  have J2 : Inv X pp ρ (upd G1 (h0.objs.size + 1) (exo (h0.objs.size + 1) C none))
      ⟨(h0.push (PySem.W.kdv_tup ys)).push (PySem.HandSPX.excO C h0.objs.size), ge, dw, tk, os⟩ :=
    J1.laid (t' := tk) (a := h0.objs.size + 1) (o := exo (h0.objs.size + 1) C none)
      (h' := (h0.push (PySem.W.kdv_tup ys)).push (PySem.HandSPX.excO C h0.objs.size)) old le (exo_ok here)
  have rel2 : Vals (V.ref (h0.objs.size + 1) :: zs) (Value.ref (h0.objs.size + 1) :: ys) := .cons rfl rel
  have many : (Value.ref (h0.objs.size + 1) :: ys).length = qs.length := by
    have z := rel2.length
    rw [G.len _ _ _ _ first] at z
    exact z.symm
  have lim : ys.length ≤ sizeLine := by
    rw [← Paired.length rel, sizeLine_eq]
    omega
  have bd2 := bd _ (Value.ref (h0.objs.size + 1) :: ys) J2.kIn (by rw [List.append_nil]; exact many)
  rw [List.append_nil] at bd2
  refine wpAny_call (PySem.HandSPX.call_own F.excBase_ValueError (fun Z => PySem.HandSPX.refsVE_contains Z bm rv) (J1.kIn _ _ look)
    (PySem.W.looks_findIn J1.kIn hi) (fun me => PySem.W.bind_fn J1.kIn me ht) lim
    (codeAny_mono (G.run _ X.stack _ _ ⟨Value.ref (h0.objs.size + 1) :: ys, []⟩ (Value.ref (h0.objs.size + 1) :: ys) _ _
      (fun _ _ _ => False) (room.make C ys []) (J2.env0.make C ys []) bd2 rel2 first) fun r t2 out => ?_))
  cases r with
  | error er => exact px pp ρ _ _ er t2 J2 out
  | ok fl =>
    cases fl with
    | ret u =>
      obtain ⟨v, G2, o2, b2, u2, k2, vv, ev, d, fs, ea, ed, nd, q2⟩ := out
      subst ev
      obtain ⟨h2, g2, d2, tk2, o3⟩ := t2
      obtain ⟨a0, hI, K2, kept, none1, obj, na⟩ := mk_end0 (d2 := d2) (t2 := tk2) J1 le old u2 k2 o2 b2 ea ed nd
      exact ⟨vv, _, _, _, _, _, .ref C, some d, rfl, K2, kept, none1, obj, ⟨rfl, rfl, fun ws z => by cases z; rfl⟩, rfl, rfl, na, rfl, b2, raises_own T.exC T.tyC, q2⟩
    | next => exact False.elim out
    | brk => exact False.elim out
    | cont => exact False.elim out
end
/-- raise C(e, ..): what is thrown, by its class and fields -/
def dRaise (c : Value) (mk : List D → Option (List (Str × D))) (dl : DTA) : DTS := fun De ρ => dl ρ (fun as ρ1 => match mk as with
  | some fs => De.ex ⟨c, some fs⟩ ρ1
  | none => False) De.ex
def mk1 (f : Str) : List D → Option (List (Str × D))
  | [x] => some [(f, x)]
  | _ => none
def mk2 (f g : Str) : List D → Option (List (Str × D))
  | [x, y] => some [(g, y), (f, x)]
  | _ => none
def dRaise0 (c : Value) : DTS := fun De ρ => De.ex ⟨c, none⟩ ρ
section
variable {X : Cx} {W : WX} {x : Str} {C fI : Addr} {k : Nat} {fd : FuncData} {ps : List Str} {e : Expr} {es : List Expr} {p pos pos' : Pos} {dl : DTA} {f g : Str}
theorem d_raise1 (hc : X.calm = true) (tk : L2N.Takes X W) (T : OexC X.K C) (iC : PySem.W.findIn X.K (.ref C) "__init__" = some (some (.ref fI))) (tI : PySem.W.typeIn X.K (.ref fI) = some (.type "function"))
    (F1 : FnOk X.prog X.w X.K X.mg X.base CX0 k fI fd ps (spX1 X.K C f)) (hr : Room (k + 1) X.A) (hb : Binds X.K fd ps []) (hm : X.mg x = some (.ref C)) (ha : DA X W (e :: es) dl) (hg : Gl X x := by rfl)
    (hdb : (x == ("__debug__" : Str)) = false := by decide) (he : starEach (e :: es) X.env = (false, eval e X.env) :: starEach es X.env := by rfl) (hpl : (backTo pos (starEach es X.env)).any (·.1) = false := by rfl) :
    DS X W (.Raise (some (.Call (.Name x p) (e :: es) [] pos)) none pos') (dRaise (.ref C) (mk1 f) dl) := by
  refine ps_imp (L2N.ps_raise hc tk (pmk_new T iC tI F1 hr hb pass0 hg hm ha hdb he hpl)) fun D σ H ⟨F, S, ρ, De, r, h, k1, k2, k3, k4, k5⟩ => ?_
  refine ⟨F, S, ρ, _, _, r, h, fun vs xs S1 ρ1 H1 g1 r1 p1 q1 => ?_, fun er cls d S' ρ' H' g' r' => k5 er cls d ρ' σ S' H' g' r'⟩
  unfold mk1 at q1
  match xs, p1, q1 with
  | [y], ⟨v, us, e1, h1, h2⟩, q1 =>
    have h2 : us = [] := h2
    subst h2 e1
    refine ⟨by simp, fun a ha => ⟨a, v, rfl, upd_same, fun dx hdx hne => ⟨rfl, dx, _, upd_same, by rw [upd_ne hne]; exact upd_same, ?_, ?_⟩⟩⟩
    · rw [upd_ne hne] at hdx; exact hdx
    · have hd : H1 dx = none := by rw [upd_ne hne] at hdx; exact hdx
      rw [heapX ha hne fun b n1 n2 => by rw [upd_ne n1, upd_ne n2, upd_ne n1]]
      obtain ⟨S2, g2, r2, s2⟩ := r1.excDict (ws := [(f, v)]) hd
      exact k5 ⟨.ref C, some [(f, y)]⟩ _ _ ρ1 σ S2 _ (g1.trans g2) r2 ⟨rfl, dx, _, rfl, s2, v, [], rfl, Rp.mono g2.s h1, rfl⟩ q1
theorem d_raise2 (hc : X.calm = true) (tk : L2N.Takes X W) (T : OexC X.K C) (iC : PySem.W.findIn X.K (.ref C) "__init__" = some (some (.ref fI))) (tI : PySem.W.typeIn X.K (.ref fI) = some (.type "function"))
    (F1 : FnOk X.prog X.w X.K X.mg X.base CX0 k fI fd ps (spX2 X.K C f g)) (hr : Room (k + 1) X.A) (hb : Binds X.K fd ps []) (hm : X.mg x = some (.ref C)) (ha : DA X W (e :: es) dl) (hg : Gl X x := by rfl)
    (hdb : (x == ("__debug__" : Str)) = false := by decide) (he : starEach (e :: es) X.env = (false, eval e X.env) :: starEach es X.env := by rfl) (hpl : (backTo pos (starEach es X.env)).any (·.1) = false := by rfl) :
    DS X W (.Raise (some (.Call (.Name x p) (e :: es) [] pos)) none pos') (dRaise (.ref C) (mk2 f g) dl) := by
  refine ps_imp (L2N.ps_raise hc tk (pmk_new T iC tI F1 hr hb pass0 hg hm ha hdb he hpl)) fun D σ H ⟨F, S, ρ, De, r, h, k1, k2, k3, k4, k5⟩ => ?_
  refine ⟨F, S, ρ, _, _, r, h, fun vs xs S1 ρ1 H1 g1 r1 p1 q1 => ?_, fun er cls d S' ρ' H' g' r' => k5 er cls d ρ' σ S' H' g' r'⟩
  unfold mk2 at q1
  match xs, p1, q1 with
  | [y, z], ⟨v, us, e1, h1, v2, us2, e2, h2, h3⟩, q1 =>
    have h3 : us2 = [] := h3
    subst h3 e2 e1
    refine ⟨by simp, fun a ha => ⟨a, v, v2, rfl, upd_same, fun dx hdx hne => ⟨rfl, dx, _, by rw [upd_ne (Ne.symm hne)]; exact upd_same, upd_same, ?_, ?_⟩⟩⟩
    · rw [upd_ne hne] at hdx; exact hdx
    · have hd : H1 dx = none := by rw [upd_ne hne] at hdx; exact hdx
      rw [heapX ha hne fun b n1 n2 => by rw [upd_ne n2, upd_ne n1, upd_ne n2, upd_ne n1]]
      obtain ⟨S2, g2, r2, s2⟩ := r1.excDict (ws := [(g, v2), (f, v)]) hd
      exact k5 ⟨.ref C, some [(g, z), (f, y)]⟩ _ _ ρ1 σ S2 _ (g1.trans g2) r2 ⟨rfl, dx, _, rfl, s2, v2, _, rfl, Rp.mono g2.s h2, v, [], rfl, Rp.mono g2.s h1, rfl⟩ q1
theorem d_raise0 {m : Str} {j : Nat} {p2 : Pos} (hc : X.calm = true) (tk : L2N.Takes X W) (h : L2N.PMk X (.Call (.Name x p) [.Constant (.str m) j p2] [] pos) (fun _ H Q => Q (.ref C) none H)) :
    DS X W (.Raise (some (.Call (.Name x p) [.Constant (.str m) j p2] [] pos)) none pos') (dRaise0 (.ref C)) :=
  ps_imp (L2N.ps_raise hc tk h) fun D σ H ⟨F, S, ρ, De, r, h, k1, k2, k3, k4, k5⟩ => k5 ⟨.ref C, none⟩ _ _ ρ σ S H (Gr.refl _ _) r ⟨rfl, rfl⟩ h
end

/-! ### try .. except -/
/-- yes: the classes that the clause names; no: those that it lets pass; the suite by the exception's place, class, dict -/
def dTry (yes no : List Value) (body : DTS) (suite : Addr → Value → Option Addr → DTS) : DTS := fun De ρ => body { De with ex := fun e ρ1 => (e.cls ∈ yes ∧ ∀ a d, suite a e.cls d (noEx De) ρ1) ∨ (e.cls ∈ no ∧ De.ex e ρ1) } ρ
/-- .. as n, n in slot i -/
def dTryAs (i : Nat) (yes no : List Value) (body : DTS) (suite : Addr → Value → Option Addr → DTS) : DTS := fun De ρ => body { De with ex := fun e ρ1 => (e.cls ∈ yes ∧ i < ρ1.length ∧ ∀ a d, (e.fs = none → d = none) → suite a e.cls d
  { nx := fun ρ2 => De.nx (ρ2.set i .un), rt := De.rt, bk := fun ρ2 => De.bk (ρ2.set i .un), ct := fun ρ2 => De.ct (ρ2.set i .un), ex := fun _ _ => False } (ρ1.set i (.d (.exc e.cls a d (e.fs.getD []))))) ∨ (e.cls ∈ no ∧ De.ex e ρ1) } ρ
/-- n.f of the exception that the suite holds -/
def dExcF (a : Addr) (cls : Value) (d : Option Addr) (i : Nat) (C : Addr) (f : Str) : DTE := fun ρ Q _ => match ρ[i]? with
  | some (.d (.exc _ a' d' fs)) => cls = .ref C ∧ a' = a ∧ d' = d ∧ match fs.lookup f with
    | some y => Q (.d y) ρ
    | none => False
  | _ => False
section
variable {X : Cx} {W : WX} {x n : Str} {c : Value} {i : Nat} {body suite : List Stmt} {b₀ : Stmt} {np pos pos' : Pos} {db : DTS} {ds : Addr → Value → Option Addr → DTS} {yes no : List Value}
theorem d_try (hs : X.stack = X.env :: X.outer) (hf : X.env.frame = some X.env.locals) (hc : Names X x c) (tk : L2N.Takes X W) (hy : ∀ v, v ∈ yes → PySem.W.exmOne X.K v c = some true) (hn : ∀ v, v ∈ no → PySem.W.exmOne X.K v c = some false)
    (hb : ∀ (W' : WX) (pn : List (Addr × Obj)) (xe : Value → Shared → Prop), L2N.Takes (X.tr pn xe) W' → PassesOwn (model X.prog X.w) X.A X.env xe → DSs (X.tr pn xe) W' body db)
    (hsu : ∀ (a : Addr) (oe : Obj) (cls : Value) (d : Option Addr) (pn : List (Addr × Obj)), L2N.Zn cls d oe → (∃ vs, oe.data = .fields vs) → DSs (X.suite a ((a, oe) :: pn)) W0 (b₀ :: suite) (ds a cls d)) :
    DS X W (.Try body [.ExceptHandler (some (.Name x np)) none (b₀ :: suite) pos'] [] [] pos) (dTry yes no db ds) := by
  refine ps_imp (L2N.ps_try_many (l := [(c, fun a cls d => tSD X.K W0 (ds a cls d))]) (tb := fun W' => tSD X.K W' db) hs hf tk hb (.cons hc hsu .nil)) fun D σ H ⟨F, S, ρ, De, r, h, k1, k2, k3, k4, k5⟩ => ?_
  refine ⟨F, S, ρ, _, r, h, k1, k2, k3, k4, fun e cls d ρ' σ' S' H' g' r' xr' q' => ?_⟩
  obtain ⟨rfl, _⟩ := id xr'
  rcases q' with ⟨hm, q'⟩ | ⟨hm, q'⟩
  · exact ⟨true, hy _ hm, fun _ a na => ⟨F, S', ρ', noEx De, r', q' a d, fun ρ2 σ2 S2 H2 g2 => k1 ρ2 σ2 S2 H2 (g'.trans g2), fun v x ρ2 σ2 S2 H2 g2 => k2 v x ρ2 σ2 S2 H2 (g'.trans g2), fun ρ2 σ2 S2 H2 g2 => k3 ρ2 σ2 S2 H2 (g'.trans g2), fun ρ2 σ2 S2 H2 g2 => k4 ρ2 σ2 S2 H2 (g'.trans g2), fun _ _ _ _ _ _ _ _ _ _ z => z⟩, fun z => nomatch z⟩
  · exact ⟨false, hn _ hm, (fun z => Bool.noConfusion z), fun _ => k5 e _ d ρ' σ' S' H' g' r' xr' q'⟩
theorem d_tryAs (i : Nat) (hs : X.stack = X.env :: X.outer) (hf : X.env.frame = some X.env.locals) (hN : X.N.Nodup) (hi : X.N[i]? = some n) (hln : X.env.kindOf n = some .local) (hc : Names X x c) (tk : L2N.Takes X W) (hy : ∀ v, v ∈ yes → PySem.W.exmOne X.K v c = some true) (hn : ∀ v, v ∈ no → PySem.W.exmOne X.K v c = some false)
    (hb : ∀ (W' : WX) (pn : List (Addr × Obj)) (xe : Value → Shared → Prop), L2N.Takes (X.tr pn xe) W' → PassesOwn (model X.prog X.w) X.A X.env xe → DSs (X.tr pn xe) W' body db)
    (hsu : ∀ (a : Addr) (oe : Obj) (cls : Value) (d : Option Addr) (pn : List (Addr × Obj)), L2N.Zn cls d oe → (∃ vs, oe.data = .fields vs) → DSs (X.suite a ((a, oe) :: pn)) W0 (b₀ :: suite) (ds a cls d)) :
    DS X W (.Try body [.ExceptHandler (some (.Name x np)) (some n) (b₀ :: suite) pos'] [] [] pos) (dTryAs i yes no db ds) := by
  refine ps_imp (L2N.ps_try_as (i := i) (tb := fun W' => tSD X.K W' db) (ts := fun a cls d => tSD X.K W0 (ds a cls d)) hs hf hN hi hln hc tk hb hsu) fun D σ H ⟨F, S, ρ, De, r, h, k1, k2, k3, k4, k5⟩ => ?_
  refine ⟨F, S, ρ, _, r, h, k1, k2, k3, k4, fun e cls d ρ' σ' S' H' g' r' xr' q' => ?_⟩
  obtain ⟨rfl, xf⟩ := id xr'
  rcases q' with ⟨hm, hl, q'⟩ | ⟨hm, q'⟩
  · refine ⟨true, hy _ hm, fun _ a na => ⟨F, S', _, _, r'.setD (x := .exc e.cls a d (e.fs.getD [])) (by rw [← r'.len]; exact hl) ⟨rfl, ?_⟩, q' a d (fun z => by rw [z] at xf; exact xf), fun ρ2 σ2 S2 H2 g2 r2 z => k1 _ _ S2 H2 (g'.trans g2) (r2.setUn i none) z, fun v x ρ2 σ2 S2 H2 g2 => k2 v x ρ2 σ2 S2 H2 (g'.trans g2), fun ρ2 σ2 S2 H2 g2 r2 z => k3 _ _ S2 H2 (g'.trans g2) (r2.setUn i none) z, fun ρ2 σ2 S2 H2 g2 r2 z => k4 _ _ S2 H2 (g'.trans g2) (r2.setUn i none) z, fun _ _ _ _ _ _ _ _ _ _ z => z⟩, fun z => nomatch z⟩
    cases c : e.fs with
    | none => exact .inl rfl
    | some fs =>
      rw [c] at xf
      exact .inr xf
  · exact ⟨false, hn _ hm, (fun z => Bool.noConfusion z), fun _ => k5 e _ d ρ' σ' S' H' g' r' xr' q'⟩
theorem d_excF {W' : WX} {a C : Addr} {oe : Obj} {cls : Value} {d : Option Addr} {pn : List (Addr × Obj)} {f : Str} (i : Nat) (T : XfC X.K C) (hno : PySem.W.findIn X.K (.ref C) f = some none) (hz : Zc cls d oe) (hf : ∃ vs, oe.data = .fields vs)
    (hN : X.N[i]? = some n := by rfl) (hv : Vis X.env.scope n := by first | exact Or.inl rfl | exact Or.inr (Or.inl rfl) | exact Or.inr (Or.inr rfl)) (hd : (n == ("__debug__" : Str)) = false := by decide) (hcd : (n == ("__classdict__" : Str)) = false := by decide)
    (hb : attributeBase (.Name n np) f X.env (eval (.Name n np) X.env) = eval (.Name n np) X.env := by rfl) :
    DE (X.suite a ((a, oe) :: pn)) W' (.Attribute (.Name n np) f pos) (dExcF a cls d i C f) := by
  refine pe_imp (pe_xf (X := X) T hno hz hf (pv (X := X.suite a ((a, oe) :: pn)) (pos := np) i hN hv hd hcd) hb) fun σ H QQ ⟨F, S, ρ, Q, Ee, r, h, kq, ke⟩ => ?_
  unfold dExcF at h
  cases c : ρ[i]? with
  | none => simp only [c] at h
  | some y =>
    cases y with
    | d x =>
      cases x with
      | exc cc a' d' fs =>
        simp only [c] at h
        obtain ⟨rfl, rfl, rfl, h⟩ := h
        obtain ⟨ov, e1, v, e2, ev, hfs⟩ := r.at_ i _ c
        subst ev
        refine ⟨.ref a', by rw [e1, e2], rfl, rfl, ?_⟩
        cases l : fs.lookup f with
        | none => simp only [l] at h
        | some y =>
          simp only [l] at h
          rcases hfs with rfl | ⟨dd, ws, hd2, hS, hr⟩
          · cases l
          · obtain ⟨v, l1, l2⟩ := (hr.lookup (f := f)).1 y l
            exact ⟨dd, ws, v, hd2, r.s _ _ hS, l1, kq v (.d y) S ρ H (Gr.refl _ _) r l2 h⟩
      | _ => simp only [c] at h
    | _ => simp only [c] at h
end
end DW
namespace DW
theorem fa0 {α : Type} {P : α → Prop} : ∀ v, v ∈ ([] : List α) → P v := fun _ h => nomatch h
theorem fa1 {α : Type} {P : α → Prop} {a : α} {l : List α} (h : P a) (t : ∀ v, v ∈ l → P v) : ∀ v, v ∈ a :: l → P v := fun v hv => (List.mem_cons.mp hv).elim (fun e => e ▸ h) (t v)
end DW
/-! DWl: taken out of the memory; list(range(..)); dict of pairs. -/
namespace DW
open PySem L2
def memD (μ : List (Addr × OO)) (p : Addr) : List (Addr × OO) := μ.filter fun c => decide (c.1 ≠ p)
theorem memD_mem {μ : List (Addr × OO)} {p q : Addr} {u : OO} : (q, u) ∈ memD μ p ↔ (q, u) ∈ μ ∧ q ≠ p := by
  unfold memD
  rw [List.mem_filter, decide_eq_true_eq]
/-- a cell is taken out of the memory: nobody else holds it -/
theorem R.outM {K : PySem.W.Frag} {F : Fm} {S H : Hp} {ρ : List SV} {σ : St} {m : Nat} {μ : List (Addr × OO)} {p : Addr} {o : OO} (r : R K F S ρ σ H) (h : ρ[m]? = some (.mm μ)) (hp : μ.lookup p = some o) :
    R K F S (ρ.set m (.mm (memD μ p))) σ H ∧ VR K F S (ρ.set m (.mm (memD μ p))) σ H (.ref p) (.fr o) := by
  have hm := look_mem hp
  obtain ⟨nd, hc⟩ := r.memAt h
  obtain ⟨b1, s1, h1⟩ := hc p o hm
  obtain ⟨om, sm, _⟩ := r.at_ m _ h
  refine ⟨r.setMem h r.b r.s (nd.sublist ((List.filter_sublist (l := μ)).map _)) (fun q u hq => hc q u (memD_mem.mp hq).1) (fun q u hq => .inl ⟨u, (memD_mem.mp hq).1⟩) fun _ _ _ _ _ _ _ _ => rfl, p, rfl, b1, s1, fun j y ov hj sj hy => ?_, h1⟩
  rcases set_at hj with ⟨rfl, rfl, _⟩ | ⟨hne, hj⟩
  · obtain ⟨u, hu⟩ := hy
    exact (memD_mem.mp hu).2 rfl
  · exact hne (r.ap m j _ y om ov p h hj sm sj ⟨o, hm⟩ hy)
def dOutM (m : Nat) (de : DTE) : DTE := fun ρ Q E => de ρ (fun x ρ1 => match x with
  | .d (.ptr p) => atM ρ1 m fun μ => match μ.lookup p with
    | some o => Q (.fr o) (ρ1.set m (.mm (memD μ p)))
    | none => False
  | _ => False) E
theorem d_outM {X : Cx} {W : WX} {e : Expr} {de : DTE} (m : Nat) (h : DE X W e de) : DE X W e (dOutM m de) := by
  refine pe_imp h fun σ H QQ ⟨F, S, ρ, Q, Ee, r, h, kq, ke⟩ => ⟨F, S, ρ, _, Ee, r, h, fun v x S1 ρ1 H1 g1 r1 vr1 q1 => ?_, ke⟩
  cases x with
  | d a =>
    cases a with
    | ptr p =>
      obtain rfl : v = .ref p := vr1
      obtain ⟨μ, e, q⟩ := atM_ok q1
      cases l : μ.lookup p with
      | none => simp only [l] at q
      | some o =>
        simp only [l] at q
        obtain ⟨r2, v2⟩ := r1.outM e l
        exact kq _ (.fr o) S1 _ H1 g1 r2 v2 q
    | _ => exact False.elim q1
  | _ => exact False.elim q1
/-! list(range(a)), list(range(a, b)) -/
theorem rg_rp {K : PySem.W.Frag} {S : Hp} (a : Int) : ∀ n : List Nat, RpL K S (n.map fun i => D.int (a + (i : Nat))) (n.map fun i => V.int (a + (i : Nat)))
  | [] => rfl
  | i :: n => ⟨_, _, rfl, rfl, rg_rp a n⟩
def dListR (da : DTE) : DTE := fun ρ Q E => da ρ (fun x ρ1 => pk ρ1 x fun a => match a with
  | .int n => 0 ≤ n ∧ n ≤ 1000000 ∧ Q (.fr (.l (rangeD 0 n.toNat))) ρ1
  | _ => False) E
theorem d_listR {X : Cx} {W : WX} {a : Expr} {da : DTE} {p p2 pos pos2 : Pos} (hc : X.calm = true) (hm : X.mg "list" = none) (hm2 : X.mg "range" = none) (ha : DE X W a da) (hg : Gl X "list" := by rfl) (hg2 : Gl X "range" := by rfl)
    (na : starEach [.Call (.Name "range" p2) [a] [] pos2] X.env = (false, eval (.Call (.Name "range" p2) [a] [] pos2) X.env) :: starEach [] X.env := by rfl)
    (na2 : starEach [a] X.env = (false, eval a X.env) :: starEach [] X.env := by rfl) :
    DE X W (.Call (.Name "list" p) [.Call (.Name "range" p2) [a] [] pos2] [] pos) (dListR da) := by
  refine pe_imp (pe_listRg hc hg hm (prg_1 hg2 hm2 ha na2) na) fun σ H QQ ⟨F, S, ρ, Q, Ee, r, h, kq, ke⟩ => ?_
  refine ⟨F, S, ρ, _, Ee, r, h, fun v x S1 ρ1 H1 g1 r1 vr1 q1 => ?_, ke⟩
  obtain ⟨a', p1, q2⟩ := VR.pk r1 vr1 q1
  cases a' with
  | int n =>
    have e : v = .int n := p1
    obtain ⟨b1, b2, q3⟩ := q2
    refine ⟨n, e, RgOk.of_le (by decide) (by omega) (by decide) b1, fun q hq => ?_⟩
    have rp : RpL X.K S1 (rangeD 0 n.toNat) (rgV 0 n) := by
      unfold rangeD rgV
      rw [Int.sub_zero]
      exact rg_rp 0 _
    obtain ⟨S5, g5, r5, vr5⟩ := (Res.fr (S := S1) (u := .lst (rgV 0 n)) (o := .l (rangeD 0 n.toNat)) hq ⟨_, upd_same, rp⟩).ok r1
    exact kq (.ref q) (.fr (.l (rangeD 0 n.toNat))) S5 ρ1 _ (g1.trans g5) r5 vr5 q3
  | _ => exact False.elim q2
def dListR2 (da db : DTE) : DTE := fun ρ Q E => da ρ (fun x ρ1 => pk ρ1 x fun a => db ρ1 (fun y ρ2 => pk ρ2 y fun b => match a, b with
  | .int l, .int n => 0 ≤ l ∧ l ≤ 1000000 ∧ 0 ≤ n ∧ n ≤ 1000000 ∧ Q (.fr (.l (rangeD l (n - l).toNat))) ρ2
  | _, _ => False) E) E
theorem d_listR2 {X : Cx} {W : WX} {a b : Expr} {da db : DTE} {p p2 pos pos2 : Pos} (hc : X.calm = true) (hm : X.mg "list" = none) (hm2 : X.mg "range" = none) (ha : DE X W a da) (hb : DE X W b db) (hg : Gl X "list" := by rfl) (hg2 : Gl X "range" := by rfl)
    (na : starEach [.Call (.Name "range" p2) [a, b] [] pos2] X.env = (false, eval (.Call (.Name "range" p2) [a, b] [] pos2) X.env) :: starEach [] X.env := by rfl)
    (na2 : starEach [a, b] X.env = (false, eval a X.env) :: starEach [b] X.env := by rfl) (nb : starEach [b] X.env = (false, eval b X.env) :: starEach [] X.env := by rfl) (hp : (backTo pos2 (starEach [b] X.env)).any (·.1) = false := by rfl) :
    DE X W (.Call (.Name "list" p) [.Call (.Name "range" p2) [a, b] [] pos2] [] pos) (dListR2 da db) := by
  refine pe_imp (pe_listRg hc hg hm (prg_2 hg2 hm2 ha hb na2 nb hp) na) fun σ H QQ ⟨F, S, ρ, Q, Ee, r, h, kq, ke⟩ => ?_
  refine ⟨F, S, ρ, _, Ee, r, h, fun v x S1 ρ1 H1 g1 r1 vr1 q1 => ?_, ke⟩
  obtain ⟨a', p1, q2⟩ := VR.pk r1 vr1 q1
  refine ⟨F, S1, ρ1, _, Ee, r1, q2, fun w y S2 ρ2 H2 g2 r2 vr2 q3 => ?_, fun e cls d S' ρ' H' g' r' xr' q' => ke e cls d S' ρ' H' (g1.trans g') r' xr' q'⟩
  obtain ⟨b', p2, q4⟩ := VR.pk r2 vr2 q3
  cases a' with
  | int l =>
    cases b' with
    | int n =>
      have e : v = .int l := p1
      have e2 : w = .int n := p2
      obtain ⟨c1, c2, b1, b2, q5⟩ := q4
      refine ⟨l, n, e, e2, RgOk.of_le c1 (by omega) (by omega) b1, fun q hq => ?_⟩
      have rp : RpL X.K S2 (rangeD l (n - l).toNat) (rgV l n) := by
        unfold rangeD rgV
        exact rg_rp l _
      obtain ⟨S5, g5, r5, vr5⟩ := (Res.fr (S := S2) (u := .lst (rgV l n)) (o := .l (rangeD l (n - l).toNat)) hq ⟨_, upd_same, rp⟩).ok r2
      exact kq (.ref q) (.fr (.l (rangeD l (n - l).toNat))) S5 ρ2 _ ((g1.trans g2).trans g5) r5 vr5 q5
    | _ => exact False.elim q4
  | _ => exact False.elim q4
/-! dict of pairs -/
/-- the pairs, where all are tuples (key, value) -/
def pairsD : List D → Option (List (Key × D))
  | [] => some []
  | .tup [k, x] :: r => match keyD k, pairsD r with
    | some q, some s => some ((q, x) :: s)
    | _, _ => none
  | _ => none
def mergeD (kvs more : List (Key × D)) : List (Key × D) := more.foldl (fun acc kv => putKD acc kv.1 kv.2) kvs
def fDictP (a : D) (k : DV → Prop) : Prop := match a with
  | .lst xs => match pairsD xs with
    | some ps => k (.fr (.k (mergeD [] ps)))
    | none => False
  | _ => False
theorem RpK.merge {K : PySem.W.Frag} {S : Hp} : ∀ {more : List (Key × D)} {kvs : List (Key × D)} {vs ws : List (Key × V)}, RpK K S more vs → RpK K S kvs ws → RpK K S (mergeD kvs more) (mergeK ws vs)
  | [], _, vs, _, h, g => by
    have h : vs = [] := h
    subst h
    exact g
  | (k, x) :: more, kvs, vs, ws, h, g => by
    obtain ⟨v, us, e, h1, h2⟩ := h
    subst e
    show RpK K S (mergeD (putKD kvs k x) more) (mergeK (putK ws k v) us)
    exact RpK.merge h2 (RpK.put g h1)
theorem keyD_rp {K : PySem.W.Frag} {S : Hp} {a : D} {k : Key} {v : V} (h : keyD a = some k) (g : Rp K S a v) : v = kV k := by
  cases a with
  | int i => cases h; exact g
  | str x => cases h; exact g
  | _ => cases h
theorem pairs_rp {K : PySem.W.Frag} {S H : Hp} (sh : Same S H) : ∀ {xs : List D} {vs : List V} {ps : List (Key × D)}, RpL K S xs vs → pairsD xs = some ps → ∃ (as : List Addr) (kvs : List (Key × V)), vs = as.map V.ref ∧ Paired (fun p kv => SqT K H p [kV kv.1, kv.2]) as kvs ∧ RpK K S ps kvs
  | [], vs, ps, h, e => by
    have h : vs = [] := h
    subst h
    cases e
    exact ⟨[], [], rfl, .nil, rfl⟩
  | x :: xs, vs, ps, h, e => by
    obtain ⟨v, us, ev, h1, h2⟩ := h
    subst ev
    unfold pairsD at e
    split at e
    · cases ‹_ :: _ = []›
    · rename_i k y r heq
      cases heq
      split at e
      · rename_i q s hk hs
        cases e
        obtain ⟨as, kvs, e1, e2, e3⟩ := pairs_rp sh h2 hs
        obtain ⟨p, ws, e4, e5, w1, t1, e6, g1, w2, t2, e7, g2, e8⟩ := h1
        have e8 : t2 = [] := e8
        subst e8 e7 e6 e4
        have hq := keyD_rp hk g1
        subst hq
        exact ⟨p :: as, (q, w2) :: kvs, by rw [e1]; rfl, .cons (sqT_mono sh e5) e2, w2, kvs, rfl, g2, e3⟩
      · cases e
    · cases e
theorem d_dictP {X : Cx} {W : WX} {e : Expr} {p pos : Pos} {da : DTE} (hc : X.calm = true) (hm : X.mg "dict" = none) (ha : DE X W e da) (hg : Gl X "dict" := by rfl) (h1 : A1 X e pos := by exact ⟨rfl, rfl⟩) : DE X W (.Call (.Name "dict" p) [e] [] pos) (dUn fDictP da) := by
  refine d_t1 (call_dictP hc) (fun S H a x Qz QQ sh ha h kq => ?_) hm ha hg (by decide +kernel) (by decide) (by decide) h1
  cases a with
  | lst xs =>
    obtain ⟨p, vs, e1, e2, e3⟩ := ha
    unfold fDictP at h
    cases hp : pairsD xs with
    | none => simp only [hp] at h
    | some ps =>
      simp only [hp] at h
      obtain ⟨as, kvs, q1, q2, q3⟩ := pairs_rp sh e3 hp
      subst q1
      exact ⟨p, as, kvs, by rw [e1], SqL.of e2, q2, fun t ht => kq _ _ _ (Res.dct ht (RpK.merge q3 (show RpK X.K S [] [] from rfl))) h⟩
  | _ => exact False.elim h
/-! x, y = a, b: a's data, b's thing as it is -/
def dPar2 (i j : Nat) (da db : DTE) : DTS := fun De ρ => da ρ (fun x ρ1 => stab x ρ1 fun a ρ2 => db ρ2 (fun y ρ3 => i < ρ3.length ∧ i ≠ j ∧ storeS j y ρ3 fun ρ4 => De.nx (ρ4.set i (.d a))) De.ex) De.ex
theorem d_par2 {X : Cx} {W : WX} (i j : Nat) {x y : Str} {a b : Expr} {da db : DTE} {px py pt pos : Pos} {kt k2 pt2} (hc : X.calm = true) (hN : X.N.Nodup) (hi : X.N[i]? = some x) (hj : X.N[j]? = some y) (hij : i ≠ j)
    (hx : X.env.scope.names.lookup x = some .local) (hy : X.env.scope.names.lookup y = some .local) (ha : DE X W a da) (hb : DE X W b db)
    (hw : swappedStores [.Tuple [.Name x px, .Name y py] kt pt] (.Tuple [a, b] k2 pt2) X.env = pure (some [x, y]))
    (hs : swapsWithSole [.Tuple [.Name x px, .Name y py] kt pt] (.Tuple [a, b] k2 pt2) pos.line X.env = pure false := by rfl)
    (ea : starEach [a, b] X.env = (false, eval a X.env) :: starEach [b] X.env := by rfl) (eb : starEach [b] X.env = (false, eval b X.env) :: starEach [] X.env := by rfl) :
    DS X W (.Assign [.Tuple [.Name x px, .Name y py] kt pt] (.Tuple [a, b] k2 pt2) pos) (dPar2 i j da db) := by
  refine ps_imp (ps_par hc hN hi hj hij hx hy (pa_cons ha (pa_cons hb pa_nil eb) ea) hw hs) fun D σ H ⟨F, S, ρ, De, r, h, k1, k2, k3, k4, k5⟩ => ?_
  refine ⟨F, S, ρ, _, _, r, h, fun v z S1 ρ1 H1 g1 r1 vr1 q1 => ?_, fun e cls d S' ρ' H' g' r' => k5 e cls d ρ' σ S' H' g' r'⟩
  obtain ⟨a', S2, ρ2, g2, r2, p2, q2⟩ := VR.stab r1 vr1 q1
  have g12 := g1.trans g2
  refine ⟨F, S2, ρ2, _, _, r2, q2, fun w y' S3 ρ3 H3 g3 r3 vr3 q3 => ?_, fun e cls d S' ρ' H' g' r' => k5 e cls d ρ' σ S' H' (g12.trans g') r'⟩
  obtain ⟨h1, hne, q4⟩ := q3
  obtain ⟨S4, ρ4, g4, r4, q5⟩ := VR.store r3 vr3 q4
  refine ⟨v, w, rfl, ?_⟩
  have hl : i < (σ.set j (some w)).length := by rw [List.length_set, ← r3.len]; exact h1
  have r5 := r4.setD (i := i) hl (Rp.mono (g3.trans g4).s p2)
  rw [List.set_comm _ _ (fun z => hne z.symm)] at r5
  exact k1 _ _ S4 H3 ((g12.trans g3).trans g4) r5 q5
end DW
/-! DWv: lists of the memory lent to a call. -/
namespace DW
open PySem L2
/-! a call by data into which the memory's lists are lent: what comes back is a number or a truth value -/
section
def vw1 (μ : List (Addr × OO)) : D → D
  | .ptr p => match μ.lookup p with
    | some (.l xs) => .lst xs
    | _ => .ptr p
  | x => x
def vw2 (μ : List (Addr × OO)) : D → D
  | .tup xs => .tup (xs.map (vw1 μ))
  | x => vw1 μ x
def lentH (S H : Hp) (μ : List (Addr × OO)) : Hp := fun a => match μ.lookup a with
  | some _ => H a
  | none => S a
def bare (Q : DV → Prop) : DV → Prop
  | .d (.int i) => Q (.d (.int i))
  | .d (.bl b) => Q (.d (.bl b))
  | _ => False
def dCallL (m n : Nat) (G : DSp) (dl : DTA) : DTE := fun ρ Q E => dl ρ (fun as ρ1 => as.length = n ∧ atM ρ1 m fun μ => G ((as.map (vw2 μ)).map .d) (fun x _ => bare (fun y => Q y ρ1) x) (fun _ _ => False)) E
variable {K : PySem.W.Frag} {F : Fm} {S H : Hp} {ρ : List SV} {σ : St} {m : Nat} {μ : List (Addr × OO)}
theorem lent_same (hc : ∀ q o, (q, o) ∈ μ → S q = none) : Same S (lentH S H μ) := fun a u e => by
  unfold lentH
  cases l : μ.lookup a with
  | none => exact e
  | some o => rw [hc a o (look_mem l)] at e; cases e
theorem lent_in (hs : Same S H) : Same (lentH S H μ) H := fun a u e => by
  unfold lentH at e
  cases l : μ.lookup a with
  | none => rw [l] at e; exact hs a u e
  | some o => rw [l] at e; exact e
theorem Rp.lend1 (hc : ∀ q o, (q, o) ∈ μ → S q = none ∧ OR K S H q o) {x : D} {v : V} (h : Rp K S x v) : Rp K (lentH S H μ) (vw1 μ x) v := by
  have sm := lent_same (H := H) fun q o z => (hc q o z).1
  cases x with
  | ptr p =>
    have e : v = .ref p := h
    cases l : μ.lookup p with
    | none =>
      have z : vw1 μ (.ptr p) = .ptr p := by unfold vw1; simp only [l]
      rw [z]
      exact e
    | some o =>
      cases o with
      | l xs =>
        have z : vw1 μ (.ptr p) = .lst xs := by unfold vw1; simp only [l]
        rw [z]
        obtain ⟨vs, h1, h2⟩ := (hc p _ (look_mem l)).2
        refine ⟨p, vs, e, ?_, RpL.mono sm h2⟩
        unfold lentH
        simp only [l]
        exact h1
      | _ =>
        have z : vw1 μ (.ptr p) = .ptr p := by unfold vw1; simp only [l]
        rw [z]
        exact e
  | _ => exact Rp.mono sm h
theorem RpL.lend1 (hc : ∀ q o, (q, o) ∈ μ → S q = none ∧ OR K S H q o) : ∀ {xs : List D} {vs : List V}, RpL K S xs vs → RpL K (lentH S H μ) (xs.map (vw1 μ)) vs
  | [], vs, h => h
  | x :: xs, vs, h => by
    obtain ⟨v, ws, e, h1, h2⟩ := h
    exact ⟨v, ws, e, h1.lend1 hc, RpL.lend1 hc h2⟩
theorem Rp.lend2 (hc : ∀ q o, (q, o) ∈ μ → S q = none ∧ OR K S H q o) {x : D} {v : V} (h : Rp K S x v) : Rp K (lentH S H μ) (vw2 μ x) v := by
  have sm := lent_same (H := H) fun q o z => (hc q o z).1
  cases x with
  | tup xs =>
    obtain ⟨a, vs, e, h1, h2⟩ := h
    exact ⟨a, vs, e, sm _ _ h1, RpL.lend1 hc h2⟩
  | _ => exact Rp.lend1 hc h
theorem RpL.lend2 (hc : ∀ q o, (q, o) ∈ μ → S q = none ∧ OR K S H q o) : ∀ {xs : List D} {vs : List V}, RpL K S xs vs → RpL K (lentH S H μ) (xs.map (vw2 μ)) vs
  | [], vs, h => h
  | x :: xs, vs, h => by
    obtain ⟨v, ws, e, h1, h2⟩ := h
    exact ⟨v, ws, e, h1.lend2 hc, RpL.lend2 hc h2⟩
theorem callL_ok {n : Nat} {G : DSp} {as : List D} {vs : List V} {Q : DV → List SV → Prop} {QQ : VK} {EE : XK} (r : R K F S ρ σ H) (hm : ρ[m]? = some (.mm μ)) (p : RpL K S as vs) (hn : vs.length = n) (h : G ((as.map (vw2 μ)).map .d) (fun x _ => bare (fun y => Q y ρ) x) (fun _ _ => False))
    (kq : ∀ v x S' H', Gr F.B S S' → R K F S' ρ σ H' → VR K F S' ρ σ H' v x → Q x ρ → QQ v H') : spD K n G vs H QQ EE := by
  obtain ⟨nd, hc0⟩ := r.memAt hm
  have hc : ∀ q o, (q, o) ∈ μ → S q = none ∧ OR K S H q o := fun q o z => (hc0 q o z).2
  have p2 := p.lend2 hc
  have r1 : R K ⟨H, vs, n⟩ (lentH S H μ) ((as.map (vw2 μ)).map .d) (vs.map some) H := ⟨by simpa using p2.length.symm, by simpa using p2.length.symm.trans hn, Same.refl H, lent_in r.s, fun i x e => by
    obtain ⟨ov, e1, e2⟩ := p2.slots (H := H) (B := H) i x e
    exact ⟨ov, e1, e2 _⟩, fun i j x y ov ow q ha hb _ _ xa yb => (own_d ha xa).elim⟩
  refine ⟨hn, H, lentH S H μ, _, _, _, r1, h, fun v x S' bs H' g' r' vr' nx ny q' => ?_, fun e cls d S' bs H' g' r' xr' q' => q'.elim⟩
  have sm : Same H H' := r'.b
  have r2 : R K F S ρ σ H' := by
    refine ⟨r.len, r.ln, r.b.trans sm, r.s.trans sm, fun i x e => ?_, r.ap⟩
    obtain ⟨ov, e1, e2⟩ := r.at_ i x e
    refine ⟨ov, e1, e2.mono (Same.refl S) fun q ho hq => ?_⟩
    obtain ⟨_, _, o, h3⟩ := e2.held ho
    obtain ⟨u, hu⟩ := h3.there
    exact ⟨hq, by rw [hu, sm q u hu]⟩
  cases x with
  | d a =>
    cases a with
    | int i => exact kq v (.d (.int i)) S H' (Gr.refl _ _) r2 (show Rp K S (.int i) v from (show Rp K S' (.int i) v from vr')) q'
    | bl b => exact kq v (.d (.bl b)) S H' (Gr.refl _ _) r2 (show Rp K S (.bl b) v from (show Rp K S' (.bl b) v from vr')) q'
    | _ => exact q'.elim
  | _ => exact q'.elim
variable {X : Cx} {W : WX} {k : Nat} {f C : Addr} {fd : FuncData} {ps : List Str} {G : DSp} {x fn : Str} {p pos apos : Pos} {e o : Expr} {es : List Expr} {dl : DTA} {de : DTE}
theorem d_callL (m : Nat) (F0 : FnOk X.prog X.w X.K X.mg X.base (L2N.CX X.prog X.w) k f fd ps (spD X.K ps.length G)) (hr : Room k X.A) (hm : X.mg x = some (.ref f)) (hk : PySem.W.keepIn X.K (.ref f) = true) (hb : Binds X.K fd ps []) (tk : L2N.Takes X W) (ha : DA X W (e :: es) dl) (hg : Gl X x := by rfl)
    (hdb : (x == ("__debug__" : Str)) = false := by decide) (he : starEach (e :: es) X.env = (false, eval e X.env) :: starEach es X.env := by rfl) (hpl : (backTo pos (starEach es X.env)).any (·.1) = false := by rfl) :
    DE X W (.Call (.Name x p) (e :: es) [] pos) (dCallL m ps.length G dl) := by
  refine pe_imp (pe_callS (E := WE W) F0 hr hg hm hk hb (fun σ => L2N.passAt tk σ) ha hdb he hpl) fun σ H QQ ⟨F, S, ρ, Q, Ee, r, h, kq, ke⟩ => ?_
  refine ⟨F, S, ρ, _, Ee, r, h, fun vs xs S1 ρ1 H1 g1 r1 p1 q1 => ?_, ke⟩
  obtain ⟨hl, q1⟩ := q1
  obtain ⟨μ, e, q2⟩ := atM_ok q1
  exact callL_ok (Q := Q) r1 e p1 (by rw [p1.length]; exact hl) q2 fun v x S' H' g' r' vr' q' => kq v x S' ρ1 H' (g1.trans g') r' vr' q'
end
end DW
/-! DWy: defs that are called in an except suite. -/
namespace DW
open PySem L2
open PySem.Spec PyProof.Rows L2H
theorem huH {k n : Nat} {A : Around} (r : RoomH k A) (h : n ≤ 200) : A.units + n < cLine := by have := r.un; omega
/-- a promise by the handled exception's place, class and dict -/
abbrev SpX := Addr → Value → Option Addr → Sp
/-- what a def promises that is called while an exception is handled -/
structure FnX (P : Program) (w : World) (K : PySem.W.Frag) (mg : Str → Option Value) (base : Heap) (Y : CXT) (k : Nat) (f : Addr) (fd : FuncData) (ps : List Str) (sp : SpX) : Prop where
  many : ∀ a c d vs H Q E, sp a c d vs H Q E → vs.length = ps.length
  runs : ∀ (A : Around) (up : List Env) (s : Shared) (H : Hp) (ar : Args) (us : List Value) (vs : List V) (Q : VK) (E : XK) (p : Addr × Obj) (c : Value) (d : Option Addr), RoomH k A → Hot1 A p → L2N.Zn c d p.2 →
    PinOk up H s p → Env0 P w K mg base A up s H → BindsTo s fd ar (ps.zip us) → Vals vs us → sp p.1 c d vs H Q E → codeAny (model P w) A (.call (.ref f) ar) (CR Y up P w H s Q E) s
/-- a def by its body -/
theorem fnX_of {Y : CXT} {P : Program} {w : World} {K : PySem.W.Frag} {mg : Str → Option Value} {base : Heap} {nm ql : Str} {sd : Stmt} {f : Addr} {fd : FuncData} {N ps : List Str} {k : Nat} {sp : SpX} (F : Fun K nm ql sd f fd) (S : FnScope N ps (defScope sd))
    (hl : ∀ a c d vs H Q E, sp a c d vs H Q E → vs.length = ps.length)
    (hb : ∀ (cd : Value) (A : Around) (up : List Env) (s : Shared) (H : Hp) (vs : List V) (Q : VK) (E : XK) (p : Addr × Obj) (c : Value) (d : Option Addr), Hot1 A p → L2N.Zn c d p.2 →
      RoomH k (A.deeper (envOfC ql (defScope sd) s.heap.objs.size f cd)) → sp p.1 c d vs H Q E →
      ∃ t, PSs (cxH Y P w K mg base N ql (defScope sd) f cd A up s H E p) (defBody sd) t ∧ t { nx := fun _ G => Q .non G, rt := Q } (L2.start N vs) H) :
    FnX P w K mg base Y (k + 1) f fd ps sp := by
  obtain ⟨a1, a2, a3, a4, a5, a6, cd, a8, a9, e, look, code⟩ := F.ex
  subst e
  refine ⟨hl, fun A up s H ar us vs Q E p c d room hot zn pin e0 bind rel start => ?_⟩
  have fits := hl _ _ _ _ _ _ _ start
  have grown : ∀ b o, base.get? b = some o → s.heap.get? b = some o := fun b o z => (e0.bs b o z).1
  have kin := e0.mod.kin.keeps grown
  have kinds : ∀ y ∈ ps.zip us, (defScope sd).names.lookup y.1 = some .local ∨
      ((defScope sd).names.lookup y.1 = some .cell ∧ ((cellsFrom (s.heap.objs.size + 1) (defScope sd).names []).lookup y.1).isSome = true) := by
    rintro ⟨n, v⟩ hy
    cases S.par n (List.of_mem_zip hy).1 with
    | inl z => exact .inl z
    | inr z => exact .inr ⟨z, PySem.W.cellsFrom_some _ _ _ (.inl z)⟩
  refine codeAny_call_function room.depth (kin _ _ look) rfl S.co S.gen rfl (PySem.W.codeRec_of kin code) (bind _ _ _ _ ?_)
  refine wpAny_newFunctionEnv_cells S.kind kinds fun env he s1 x => ?_
  subst he
  obtain ⟨t, body, go⟩ := hb cd A up s H vs Q E p c d hot zn (room.deeper _) start
  refine ⟨(e0.mod.nolimit.keeps grown).keeps x.toInCall.keep, codeAny_func ?_⟩
  have J := inv_startH (CX := Y) (f := f) (cd := cd) (qual := ql) (E := E) S pin e0 fits rel x
  refine wpAny_mono (body.run [] s1 _ H _ J go) (fun fl s' out => ?_) fun _ _ z => z
  have leave : ∀ {σ' : L2.St} {G : Hp} {v : V} {u : Value}, Inv (cxH Y P w K mg base N ql (defScope sd) f cd A up s H E p) [] σ' G s' → RelV v u → Q v G → CE up P w H s Q u s' :=
    fun {_ G v _} I' rv q => ⟨v, G, I'.os, I'.bare, I'.base, I'.hok, rv, q⟩
  match fl, out with
  | .next, ⟨σ', G, I', q⟩ => exact leave (v := V.non) (u := Value.none) I' rfl q
  | .ret u, ⟨v, σ', G, I', rv, q⟩ => exact leave I' rv q
  | .brk, ⟨_, _, _, z⟩ => exact z.elim
  | .cont, ⟨_, _, _, z⟩ => exact z.elim
section
variable {X : Cx} {W : WX} {Y : CXT} {k : Nat} {f : Addr} {fd : FuncData} {ps : List Str} {sp : SpX} {E : L2.St → XK} {x : Str} {q pos : Pos} {e : Expr} {es : List Expr} {t : TA}
/-- the suite's exception, as it stands -/
def HotX1 (X : Cx) (a : Addr) (c : Value) (d : Option Addr) : Prop := ∃ oe : Obj, Hot1 X.A (a, oe) ∧ L2N.Zn c d oe ∧ (a, oe) ∈ X.pn
theorem pe_callX {a : Addr} {c : Value} {d : Option Addr} (F0 : FnX X.prog X.w X.K X.mg X.base Y k f fd ps sp) (room : RoomH k X.A) (hot : HotX1 X a c d) (gl : Gl X x) (hm : X.mg x = some (.ref f)) (hk : PySem.W.keepIn X.K (.ref f) = true) (hb : Binds X.K fd ps [])
    (hx : ∀ σ : L2.St, PassesAt Y X σ (E σ)) (ha : PA X (e :: es) t) (db : (x == ("__debug__" : Str)) = false := by decide)
    (st : starEach (e :: es) X.env = (false, eval e X.env) :: starEach es X.env := by rfl) (bt : (backTo pos (starEach es X.env)).any (·.1) = false := by rfl) :
    PE X (.Call (.Name x q) (e :: es) [] pos) (tCallS (sp a c d) E t) := by
  refine ⟨fun pp s σ H Q I h => ?_⟩
  obtain ⟨oe, h1, zn, hp⟩ := hot
  refine wpAny_Call_Name_kw (ld_glob I gl hm ?_ db)
  refine PySem.W.callWith_K (h₀ := X.base) I.ok.mod.kin hk (thn (ha.run pos pp s σ H _ I h) fun us s1 ⟨vs, H1, I1, rel, h9⟩ => ⟨I1.kIn, ?_⟩) st bt
  have nn : us.length = ps.length := by rw [← rel.length]; exact F0.many _ _ _ _ _ _ _ h9
  have b := hb s1 us I1.kIn (by rw [List.append_nil]; exact nn)
  rw [List.append_nil] at b
  obtain ⟨p1, p2, p3, p4, p5⟩ := I1.pin (a, oe) (List.mem_append_left _ hp)
  have pin : PinOk X.stack H1 s1 (a, oe) := ⟨p1, p2, fun z => (List.mem_cons.mp (I1.stkSub a z)).elim p3 p4, p5⟩
  refine wpAny_call (codeAny_mono (F0.runs X.A X.stack s1 H1 ⟨us, []⟩ us vs Q (E σ) (a, oe) c d room h1 zn pin I1.env0 b rel h9) fun r s2 out => ?_)
  match r, out with
  | .error er, z => exact hx σ pp H1 s1 er s2 I1 z
  | .ok (.ret u), z => exact I1.after z
  | .ok .next, z => exact z.elim
  | .ok .brk, z => exact z.elim
  | .ok .cont, z => exact z.elim
end
/-- a promise by a pure reading -/
def spDX (K : PySem.W.Frag) (n : Nat) (G : Addr → Value → Option Addr → DSp) : SpX := fun a c d => spD K n (G a c d)
theorem fn_DX {P : Program} {w : World} {K : PySem.W.Frag} {mg : Str → Option Value} {base : Heap} {x qual : Str} {st : Stmt} {f : Addr} {fd : FuncData} {N ps : List Str} {k : Nat} {body : Addr → Value → Option Addr → DTS} (F : Fun K x qual st f fd) (S : FnScope N ps (defScope st))
    (h : ∀ (cdv : Value) (A : Around) (outer : List Env) (s : Shared) (H : Hp) (E : XK) (p : Addr × Obj) (c : Value) (d : Option Addr), Hot1 A p → L2N.Zn c d p.2 → RoomH k (A.deeper (envOfC qual (defScope st) s.heap.objs.size f cdv)) →
      DSs (cxH (L2N.CX P w) P w K mg base N qual (defScope st) f cdv A outer s H E p) (fun cls d _ H' => E cls d H') (defBody st) (body p.1 c d)) :
    FnX P w K mg base (L2N.CX P w) (k + 1) f fd ps (spDX K ps.length fun a c d => dRun ps.length (N.length - ps.length) (body a c d)) := by
  refine fnX_of F S (fun a c d vs H Q E q => q.1) fun cdv A outer s H vs Q E p c d hot zn hr ⟨hl, B, S0, as, Qd, Ee, r, g, kq, ke⟩ => ⟨_, h cdv A outer s H E p c d hot zn hr, ?_⟩
  have hN : vs.length ≤ N.length := by
    have e := congrArg List.length S.pre
    rw [List.length_take] at e
    omega
  have r0 := R.start (N := N) r hN
  rw [hl] at r0 hN
  refine ⟨_, S0, _, _, r0, g, fun ρ' σ' S' H' g' r' q' => ?_, fun v x ρ' σ' S' H' g' r' vr' q' => ?_, fun _ _ _ _ _ _ z => z.elim, fun _ _ _ _ _ _ z => z.elim, fun e cls d ρ' σ' S' H' g' r' xr' q' => ?_⟩
  · exact kq .non (.d .non) S' _ H' g' (R.out r' hl hN) rfl (fun _ z => nomatch z) (fun _ z => nomatch z) q'
  · obtain ⟨y, q2, vr2, ny⟩ := VR.out (n := ps.length) (k := fun y => Qd y (outS ps.length ρ')) r' vr' hl q'
    exact kq v y S' _ H' g' (R.out r' hl hN) vr2 ny.1 ny.2 q2
  · exact ke e cls d S' _ H' g' (R.out r' hl hN) xr' q'
/-- a call in a suite -/
def dCallX (a : Addr) (c : Value) (d : Option Addr) (n : Nat) (G : Addr → Value → Option Addr → DSp) (dl : DTA) : DTE := fun ρ Q E => dl ρ (fun as ρ1 => as.length = n ∧ G a c d (as.map .d) (fun x _ => Q x ρ1) (fun e _ => E e ρ1)) E
theorem d_callX {X : Cx} {W : WX} {k : Nat} {f : Addr} {fd : FuncData} {ps : List Str} {G : Addr → Value → Option Addr → DSp} {x : Str} {p pos : Pos} {e : Expr} {es : List Expr} {dl : DTA} {a : Addr} {c : Value} {d : Option Addr}
    (F0 : FnX X.prog X.w X.K X.mg X.base (L2N.CX X.prog X.w) k f fd ps (spDX X.K ps.length G)) (hr : RoomH k X.A) (hot : HotX1 X a c d) (hm : X.mg x = some (.ref f)) (hk : PySem.W.keepIn X.K (.ref f) = true) (hb : Binds X.K fd ps []) (tk : L2N.Takes X W) (ha : DA X W (e :: es) dl) (hg : Gl X x := by rfl)
    (hdb : (x == ("__debug__" : Str)) = false := by decide) (he : starEach (e :: es) X.env = (false, eval e X.env) :: starEach es X.env := by rfl) (hpl : (backTo pos (starEach es X.env)).any (·.1) = false := by rfl) :
    DE X W (.Call (.Name x p) (e :: es) [] pos) (dCallX a c d ps.length G dl) := by
  refine pe_imp (pe_callX (E := WE W) F0 hr hot hg hm hk hb (fun σ => L2N.passAt tk σ) ha hdb he hpl) fun σ H QQ ⟨F, S, ρ, Q, Ee, r, h, kq, ke⟩ => ?_
  refine ⟨F, S, ρ, _, Ee, r, h, fun vs xs S1 ρ1 H1 g1 r1 p1 q1 => ?_, ke⟩
  exact call_ok (Q := Q) (E := Ee) r1 p1 (by rw [p1.length]; exact q1.1) q1.2 (fun v x S' H' g' r' vr' q' => kq v x S' ρ1 H' (g1.trans g') r' vr' q') fun e cls d S' H' g' r' xr' q' => ke e cls d S' ρ1 H' (g1.trans g') r' xr' q'
theorem hot_suite {X : Cx} {a : Addr} {oe : Obj} {c : Value} {d : Option Addr} {pn : List (Addr × Obj)} (hz : L2N.Zn c d oe) (hf : ∃ vs, oe.data = .fields vs) : HotX1 (X.suite a ((a, oe) :: pn)) a c d := by
  obtain ⟨vs, e⟩ := hf
  exact ⟨oe, ⟨rfl, vs, e, hz.2.2 vs e⟩, hz, List.mem_cons_self⟩
end DW
/-! DWz: isinstance of the handled exception, with a dict or without. -/
namespace PySem.W
open PySem PySem.Spec PySem.Calls PyProof.Rows
section
variable {K : Frag} {x D : Addr} {ox : Obj}
/-- e.__class__, whatever e's dict holds: the class's own descriptor goes ahead of it -/
theorem dw_class {prog : Program} {w : World} {A : Around} {E : Value → Shared → Prop} {s : Shared} {od : Option Obj} {Q : Option Value → Shared → Prop} (T : L2.ExcC K D) (kin : K.In s.heap) (at_ : InstAt s.heap x ox D od) (q : Q (some (.ref D)) { s with toks := s.toks + 1 }) :
    wpAny (model prog w) A (getAttr? (.ref x) "__class__") Q E s := by
  have cls : (clsIn K D).isSome = true := by
    obtain ⟨cd, e, _⟩ := any_some T.hd
    rw [e]
    rfl
  have told : findObj K D od "__class__" = some (.bind (.builtin "getset_descriptor.__get__") (.builtin "object.__class__")) := by
    obtain ⟨cd, e⟩ := Option.isSome_iff_exists.mp cls
    simp only [findObj, e, Option.bind_some, T.ha, T.hn, T.ht]
  obtain ⟨heap, gens, drawn, tick, os⟩ := s
  have lt := at_.type (M := model prog w)
  have lf := looks_find (M := model prog w) kin at_ told
  have lb : Looks (model prog w) heap (isInstance (.ref x) (.type "BaseException")) true := lt.andThen (looks_subIn kin T.hs)
  have n1 : (Value.builtin "BaseException.__getattribute__" == Value.builtin "object.__getattribute__") = false := by decide +kernel
  have n2 : (onTheHeap (Value.ref D) && Value.builtin "BaseException.__getattribute__" == Value.builtin "object.__getattribute__") = false := by
    rw [n1]
    rfl
  unfold getAttr? getAttrBy? getAttrBy
  refine wpAny_bind (wpAny_mkText (wpAny_bind (wpAny_attempt (wpAny_holding (wpAny_bind (lt.at (wpAny_bind ((looks_findIn (M := model prog w) kin T.hg).at ?_))))))))
  show wpAny _ _ (if (onTheHeap (Value.ref D) && Value.builtin "BaseException.__getattribute__" == Value.builtin "object.__getattribute__") = true then _
    else _) _ _ _
  rw [n2, if_neg (fun z => Bool.noConfusion z)]
  unfold getAttrByItsOwn hookBefore
  refine wpAny_bind ?_
  rw [if_pos (by rfl : onTheHeap (Value.ref D) = true)]
  refine (looks_findIn (M := model prog w) kin T.hk).at (wpAny_bind (wpAny_attempt (wpAny_holding ?_)))
  unfold callGetattribute
  rw [show (false && onTheHeap (Value.builtin "BaseException.__getattribute__")) = false from rfl, if_neg (fun z => Bool.noConfusion z)]
  unfold boundAndCalled
  rw [PySem.F.excAttr_ValueError.ga.bind (.ref x)]
  refine wpAny_bind (wpAny_pure ?_)
  show wpAny _ _ (call (.builtin "BaseException.__getattribute__")
    [.ref x, .str "__class__" tick]) _ _ _
  refine wpAny_call (codeAny_call_builtin PySem.F.excAttr_ValueError.ga.plain PySem.F.entry_bexc_ga ?_)
  refine @check_slot (model prog w) _ _ ⟨heap, gens, drawn, tick + 1, os⟩ "BaseException.__getattribute__" "BaseException"
    "__getattribute__" (.ref x) [.str "__class__" tick] [] _ (by decide +kernel) (by decide +kernel) lb
    (PySem.F.args_bexc_ga (.ref x) (.str "__class__" tick)) ?_
  unfold Builtin.«object.__getattribute__»
  refine wpAny_bind (wpAny_of_eq (a := ((Value.ref x : Value), [Value.str "__class__" tick]))
    (by first | rfl | (simp only [slotArgs]; rfl)) ?_)
  refine wpAny_bind (wpAny_pure (wpAny_bind (lt.at (wpAny_bind (lf.at ?_)))))
  show wpAny _ _ (holding [Value.builtin "object.__class__"] (call (.builtin "getset_descriptor.__get__")
    [.builtin "object.__class__", .ref x, .ref D]) >>= ret) _ _ _
  refine wpAny_bind (wpAny_holding (wpAny_call (class_get (s := ⟨heap, gens, drawn, tick + 1, os⟩)
    (ox := ox) (od := od) kin at_ T.hm (wpAny_pure ?_))))
  show wpAny _ _ (handedOut (.ref D)) _ _ _
  rw [handedOut_of (v := .ref D) rfl]
  first
    | exact wpAny_pure (wpAny_pure q)
    | exact wpAny_pure q
    | exact wpAny_pure (wpAny_bind (wpAny_pure (wpAny_pure q)))
/-- what isinstance asks of it -/
theorem dw_kit {od : Option Obj} (T : L2.ExcC K D) : KitX K (.ref x) (.ref D) (fun h => InstAt h x ox D od) where
  ty := fun _ _ _ z => z.type
  it := fun M h kin _ => by
    obtain ⟨cd, e, _⟩ := any_some T.hd
    unfold clsIn at e
    split at e
    · next o =>
      intro A Q E s keep q
      unfold isType loadHead
      exact wpAny_bind (wpAny_loadPart (keep _ _ (kin _ _ o)) (wpAny_pure q))
    · cases e
  ne := fun h tp dd its n sl kin there => by
    obtain ⟨cd, e, _⟩ := any_some T.hd
    unfold clsIn at e
    split at e
    · next o =>
      have : D ≠ tp := fun z => by
        have y := kin _ _ o
        rw [z, there] at y
        cases y
      exact beq_eq_false_iff_ne.mpr fun z => this (Value.ref.inj z)
    · cases e
  ca := fun kin z q => dw_class T kin z q
end
end PySem.W
namespace DW
open PySem L2
open PySem.Spec PyProof.Rows L2H
/-- isinstance(e, c), e the exception that is handled -/
def rIsX (K : PySem.W.Frag) (a : Addr) (c : Value) (d : Option Addr) : List V → Hp → VK → Prop := fun xs H Q => ∃ (D : Addr) (v : V) (u : Value) (b : Bool), xs = [.ref a, v] ∧ c = .ref D ∧ ExcC K D ∧ ClsV v u ∧ PySem.W.kitOne K (.ref D) u = some b ∧
  (d = none ∨ ∃ dd ws, d = some dd ∧ H dd = some (.xd ws)) ∧ Q (.bl b) H
theorem call_isX {X : Cx} {a : Addr} {c : Value} {d : Option Addr} (hot : HotX1 X a c d) : CallR X (.builtin "isinstance") (rIsX X.K a c d) := by
  intro pp s σ H xs us Q I rel h
  obtain ⟨D, v, u, b, rfl, rfl, T, kv, ko, hd, q⟩ := h
  obtain ⟨oe, ⟨_, vs, e1, _⟩, ⟨z1, z2, _⟩, hp⟩ := hot
  cases rel with
  | cons ra rest =>
    cases rest with
    | cons rv rest =>
      cases rest
      cases ra
      have eu := kv.eq rv
      subst eu
      obtain ⟨here, _⟩ := I.pin (a, oe) (List.mem_append_left _ hp)
      have no : PySem.W.notCls oe = true := by
        unfold PySem.W.notCls
        have e1 : oe.data = .fields vs := e1
        rw [e1]
      have at_ : ∃ od, PySem.W.InstAt s.heap a oe D od := by
        rcases hd with rfl | ⟨dd, ws, rfl, hx⟩
        · exact ⟨none, here, z1, no, by rw [z2]; trivial⟩
        · obtain ⟨mA, hns, _⟩ := (show ObjOk X.prog X.w H s.heap dd (.xd ws) from I.hok dd _ hx)
          obtain ⟨od, ho, _⟩ := lookIn_ns hns
          exact ⟨some od, here, z1, no, by rw [z2]; exact ho⟩
      obtain ⟨od, at_⟩ := at_
      exact PySem.W.kia_one (PySem.W.dw_kit T) I.kIn at_ ko (fun z => nomatch z) fun tk => ⟨.bl b, H, I.kept (t' := tk) fun _ _ z => z, rfl, q⟩
def dIsX (a : Addr) (c : Value) (d : Option Addr) (yes no : List Value) (de : DTE) : DTE := fun ρ Q E => de ρ (fun x ρ1 => match x with
  | .d (.exc c' a' d' fs) => c' = c ∧ a' = a ∧ d' = d ∧ (d = none ∨ fs ≠ []) ∧ ((c ∈ yes ∧ Q (.d (.bl true)) ρ1) ∨ (c ∈ no ∧ Q (.d (.bl false)) ρ1))
  | _ => False) E
theorem d_isX {X : Cx} {W : WX} {e : Expr} {de : DTE} {p p2 pos : Pos} {x : Str} {a : Addr} {c : Value} {d : Option Addr} {v : V} {u : Value} {yes no : List Value} (hot : HotX1 X a c d) (hv : PE X (.Name x p2) (tC v)) (kv : ClsV v u)
    (hy : ∀ w, w ∈ yes → ∃ D, w = .ref D ∧ ExcC X.K D ∧ PySem.W.kitOne X.K (.ref D) u = some true) (hn : ∀ w, w ∈ no → ∃ D, w = .ref D ∧ ExcC X.K D ∧ PySem.W.kitOne X.K (.ref D) u = some false)
    (hm : X.mg "isinstance" = none) (ha : DE X W e de) (hg : Gl X "isinstance" := by rfl) (he : starEach (e :: [.Name x p2]) X.env = (false, eval e X.env) :: starEach [.Name x p2] X.env := by rfl)
    (he2 : starEach [.Name x p2] X.env = (false, eval (.Name x p2) X.env) :: starEach [] X.env := by rfl) (hpl : (backTo pos (starEach [.Name x p2] X.env)).any (·.1) = false := by rfl) :
    DE X W (.Call (.Name "isinstance" p) [e, .Name x p2] [] pos) (dIsX a c d yes no de) := by
  refine pe_imp (pe_callB (call_isX hot) hg hm PyProof.Rows.boot_isinstance (pa_cons ha (pa_cons hv pa_nil he2) he) (by decide) (by decide) he hpl) fun σ H QQ ⟨F, S, ρ, Q, Ee, r, h, kq, ke⟩ => ?_
  refine ⟨F, S, ρ, _, Ee, r, h, fun y z S1 ρ1 H1 g1 r1 vr1 q1 => ?_, ke⟩
  cases z with
  | d z =>
    cases z with
    | exc c' a' d' fs =>
      obtain ⟨rfl, rfl, rfl, hd, q1⟩ := q1
      obtain ⟨rfl, hx⟩ := vr1
      have hdd : d' = none ∨ ∃ dd ws, d' = some dd ∧ H1 dd = some (.xd ws) := by
        rcases hd with h | h
        · exact .inl h
        · rcases hx with h2 | ⟨dd, ws, h2, h3, _⟩
          · exact absurd h2 h
          · exact .inr ⟨dd, ws, h2, r1.s _ _ h3⟩
      rcases q1 with ⟨hm, q1⟩ | ⟨hm, q1⟩
      · obtain ⟨D, rfl, T, ko⟩ := hy _ hm
        exact ⟨D, v, u, true, rfl, rfl, T, kv, ko, hdd, kq _ (.d (.bl true)) S1 ρ1 H1 g1 r1 rfl q1⟩
      · obtain ⟨D, rfl, T, ko⟩ := hn _ hm
        exact ⟨D, v, u, false, rfl, rfl, T, kv, ko, hdd, kq _ (.d (.bl false)) S1 ρ1 H1 g1 r1 rfl q1⟩
    | _ => exact q1.elim
  | _ => exact q1.elim
end DW
/-! DWlc: a list comprehension in a def that is called while an exception is handled. -/
namespace DW
open PySem L2
open PySem.Spec PyProof.Rows L2H HotX
/-- a list's iterator comes to its end while an exception is handled -/
theorem next_end_hot {prog : Program} {w : World} {A : Around} {E : Value → Shared → Prop} {s : Shared} {it l x1 : Addr} {i : Nat} {items : Array Value} {Q : Option Value → Shared → Prop} (hot : HotAt A x1 s.heap) (ne : x1 ≠ it)
    (hit : s.heap.IsListIter it l i) (hl : s.heap.IsList l items) (hx : items[i]? = none) (q : ∀ h', Heap.ExtBut it s.heap h' → Q none { s with heap := h' }) : wpAny (model prog w) A (pyNext (.ref it)) Q E s := by
  obtain ⟨hh, o1, v1, g1, d1, c1⟩ := hot
  obtain ⟨oi, gi, _, di⟩ := id hit
  obtain ⟨ol, gl, _, _, dl⟩ := hl
  unfold pyNext
  refine wpAny_bind (wpAny_attempt (wpAny_callSpecial?_slot (name := Str.ofString "__next__") hit.typeIs slot_listiter_next
    (wpAny_call_entry slot_listiter_next hit.typeIs entry_listiter_next ?_ (args_listiter_next _))))
  show wpAny _ _ (field (.ref it) 0 >>= _) _ _ s
  refine wpAny_bind (wpAny_field gi di (x := .ref l) rfl ?_)
  show wpAny _ _ (if (Value.ref l == Value.none) = true then _ else _) _ _ s
  have nn : ¬ ((Value.ref l == Value.none) = true) := fun z => Bool.noConfusion (show false = true from z)
  rw [if_neg nn]
  show wpAny _ _ (field (.ref it) 1 >>= _) _ _ s
  refine wpAny_bind (wpAny_field gi di (x := .int i 0) rfl ?_)
  show wpAny _ _ (seqItems? (.ref l) >>= _) _ _ s
  refine wpAny_bind (wpAny_seqItems gl dl ?_)
  simp only [Int.toNat_natCast, hx]
  refine wpAny_bind (wpAny_rule (wpAny_bind (wpAny_setField gi di (by simp) ?_)))
  show wpAny _ _ (newExc (.type "StopIteration") [] >>= _) _ _ _
  refine wpAny_bind ?_
  simp only [newExc, newTuple]
  refine wpAny_bind (wpAny_newObj_type ?_ (by size_fits))
  refine wpAny_bind (m := firstArgMember _ _) (wpAny_of_eq (a := Value.none) (by first | rfl | (simp only [firstArgMember]; rfl)) ?_)
  refine wpAny_newObj_type ?_ (by size_fits)
  have g2 : (s.heap.update it (Obj.mapFields (·.setIfInBounds 0 Value.none))).get? x1 = some o1 := (Heap.get?_update_other _ _ (Ne.symm ne)).trans g1
  refine raiseNew_hot (x1 := x1) ⟨hh, o1, v1, Heap.get?_push_of_some _ (Heap.get?_push_of_some _ g2), d1, c1⟩
    (Nat.ne_of_lt (Heap.lt_size (Heap.get?_push_of_some _ g2))) (Heap.get?_push_size _ rfl) rfl
    (by first | (simp; done) | (simp; omega) | (simp only [Array.size_append]; simp; omega)) ?_
  refine wpAny_bind (wpAny_isInstance (T := "StopIteration") (b := true) ⟨_, Heap.get?_update_self _ (Heap.get?_push_size _ rfl) rfl, rfl⟩ isSubtype_stop ?_)
  refine wpAny_pure (q _ fun b o hb e => ?_)
  have e1 : (s.heap.update it (Obj.mapFields (·.setIfInBounds 0 Value.none))).get? b = some o := (Heap.get?_update_other _ _ (Ne.symm hb)).trans e
  rw [Heap.get?_update_other _ _ (Nat.ne_of_gt (Heap.lt_size (Heap.get?_push_of_some _ e1)))]
  exact Heap.get?_push_of_some _ (Heap.get?_push_of_some _ e1)
/-- [elt for tg in iter] over a list, no tests -/
theorem pe_lcH {X : Cx} {elt tg iter : Expr} {scope : Scope} {own : List (Str × Nat)} {pos : Pos} {tl : TE} {g : TG} {tt : TT} {te : TE} (hot : HotC X) (hN : X.N.Nodup) (hi : PE X iter tl) (ok : BlkOk X.N X.env.scope scope own)
    (hg : ∀ (s : Shared) (H : Hp) (C : Addr) (cl : List (Str × Addr)) (fp : List Addr), PG (X.blk s H scope (compEnvC scope cl C X.env) fp) tg g)
    (ht : ∀ (s : Shared) (H : Hp) (C : Addr) (cl : List (Str × Addr)) (fp : List Addr), PTs (X.blk s H scope (compEnvC scope cl C X.env) fp) [] tt)
    (he : ∀ (s : Shared) (H : Hp) (C : Addr) (cl : List (Str × Addr)) (fp : List Addr), PE (X.blk s H scope (compEnvC scope cl C X.env) fp) elt te) (hs : ∀ x, foldedSetIterable iter X.env x = pure x := by intro _; rfl) :
    PE X (.ListComp elt [⟨tg, iter, [], 0⟩] scope pos) (tLc (iList X.K tl) g tt te (own.map (·.2))) := by
  refine ⟨fun pp s0 σ H Q I h => ?_⟩
  rw [eval_ListComp]
  obtain ⟨pz, ⟨hh, zs, zd, zc⟩, zp⟩ := hot
  have closed : ∀ y ∈ scope.names, y.2 = .free → ∃ c, X.env.cells.lookup y.1 = some c := fun y hy e =>
    (ok.free y hy e).elim (fun k => I.ok.has _ (.inl k)) fun k => I.ok.has _ (.inr k)
  refine wpAny_comprehension_free rfl hs (closure_ok closed) ok.kind (fun y hy e => by rw [ok.uniq y hy, e]) (thn (hi.run pp s0 σ H _ I h) fun u s1 hu => ?_)
  obtain ⟨x, H1, I1, rx, a, rfl, ⟨xs0, sq⟩, q⟩ := hu
  cases rx
  obtain ⟨its, _, pl, _⟩ := I1.list sq
  refine wpAny_pyIter_list pl.isList ?_
  have new1 : H1 s1.heap.objs.size = none := I1.hok.fresh (Nat.le_refl _)
  have fI := I1.fpOk (Nat.le_refl _) new1
  have ne1 : ∀ {b : Addr} {o : Obj}, s1.heap.get? b = some o → b ≠ s1.heap.objs.size := fun z => Nat.ne_of_lt (Heap.lt_size z)
  obtain ⟨s2, e2⟩ : ∃ z : Shared, z = { s1 with heap := s1.heap.push { cls := .type "list_iterator", data := .fields #[.ref a, .int 0 0] } } := ⟨_, rfl⟩
  rw [← e2]
  have I2 : Inv X pp σ H1 s2 := by
    rw [e2]
    exact I1.kept (t' := s1.toks) fun b o e => Heap.get?_push_of_some _ e
  have st2 : s2.heap.IsListIter s1.heap.objs.size a 0 := by
    rw [e2]
    exact ⟨_, Heap.get?_push_size _ rfl, rfl, rfl⟩
  have lt2 : s1.heap.objs.size < s2.heap.objs.size := by
    rw [e2]
    show _ < (Heap.push _ _).objs.size
    rw [Heap.size_push]
    exact Nat.lt_succ_self _
  generalize s1.heap.objs.size = it at fI new1 st2 lt2 ⊢
  refine wpAny_newObj_type (newEnv_comp ?_) (by show 0 ≤ sizeLine; decide)
  have fresh2 : H1 s2.heap.objs.size = none := I2.hok.fresh (Nat.le_refl _)
  obtain ⟨W, ⟨m0, w0⟩, turn⟩ := q s2.heap.objs.size fresh2
  obtain ⟨s3, e3⟩ : ∃ z : Shared, z = { s2 with heap := s2.heap.push { cls := .type "list", data := .seq ([] : List Value).toArray } } := ⟨_, rfl⟩
  rw [← e3]
  have I3 : Inv X pp σ (upd H1 s2.heap.objs.size (.lst [])) s3 := by
    rw [e3]
    exact I2.laid (t' := s2.toks) (fun b o e => Heap.get?_push_of_some _ e) (Nat.le_refl _) ⟨Nat.zero_le _, [], 0, .nil, Heap.get?_push_size _ rfl⟩
  have st3 : s3.heap.IsListIter it a 0 := by
    rw [e3]
    exact st2.at fun o e => Heap.get?_push_of_some _ e
  have lt3 : it < s3.heap.objs.size := by
    rw [e3]
    show _ < (Heap.push _ _).objs.size
    rw [Heap.size_push]
    exact Nat.lt_succ_of_lt lt2
  have new3 : upd H1 s2.heap.objs.size (.lst []) it = none := by
    rw [upd_ne (Nat.ne_of_lt lt2)]
    exact new1
  have f3 : FpOk X pp (upd H1 s2.heap.objs.size (.lst [])) it := ⟨new3, fI.2⟩
  generalize s2.heap.objs.size = D at I3 new3 f3 w0 turn ⊢
  generalize upd H1 D (.lst []) = H3 at I3 new3 f3 w0
  -- the exception's object at this place
  obtain ⟨z1, z2, z3, z4, _⟩ := I3.pin pz (List.mem_append_left _ zp)
  have zit : pz.1 ≠ it := f3.2.2.2.2.2 pz (List.mem_append_left _ zp)
  have zfs : pz.1 ∉ frs X.stack := fun y => (List.mem_cons.mp (I3.stkSub pz.1 y)).elim z3 z4
  have one : ∀ b ∈ [it], FpOk X pp H3 b ∧ b < s3.heap.objs.size := fun b hb => by
    rw [List.mem_singleton.mp hb]
    exact ⟨f3, lt3⟩
  have I4 := block_start I3 ok hN one
  have pg := hg s3 H3 s3.heap.objs.size (cellsFrom (s3.heap.objs.size + 1) scope.names (cloFrom X.env.cells scope.names [])) [it]
  have pt := ht s3 H3 s3.heap.objs.size (cellsFrom (s3.heap.objs.size + 1) scope.names (cloFrom X.env.cells scope.names [])) [it]
  have pe := he s3 H3 s3.heap.objs.size (cellsFrom (s3.heap.objs.size + 1) scope.names (cloFrom X.env.cells scope.names [])) [it]
  obtain ⟨s4, e4⟩ : ∃ z : Shared, z = { s3 with heap := pushCells (s3.heap.push { cls := .type "dict", data := .dict #[] }) scope.names } := ⟨_, rfl⟩
  have st4 : s4.heap.IsListIter it a 0 := by
    rw [e4]
    exact st3.at fun o e => pushCells_keeps _ _ _ _ (Heap.get?_push_of_some _ e)
  rw [← e4] at I4
  show codeAny _ _ (.compStart (.ListComp elt [⟨tg, iter, [], 0⟩] scope pos) 0 (.ref it) (.ref D)
    (compEnvC scope (cellsFrom (s3.heap.objs.size + 1) scope.names (cloFrom X.env.cells scope.names [])) s3.heap.objs.size X.env))
    (compPost (model X.prog X.w) X.A X.xe none (EP X pp σ Q) (.ref D) s3.heap.objs.size)
    { s3 with heap := pushCells (s3.heap.push { cls := .type "dict", data := .dict #[] }) scope.names }
  rw [← e4]
  generalize hce : compEnvC scope (cellsFrom (s3.heap.objs.size + 1) scope.names (cloFrom X.env.cells scope.names [])) s3.heap.objs.size X.env = ce at I4 pg pt pe ⊢
  have cL : ce.locals = s3.heap.objs.size := by rw [← hce]; rfl
  have mem : it ∈ (X.blk s3 H3 scope ce [it]).ex := List.mem_singleton.mpr rfl
  have stat : ∀ {σ' : L2.St} {G : Hp} {s' : Shared} {pn : List (Addr × Obj)}, Inv (X.blk s3 H3 scope ce [it]) pn σ' G s' → pn = [] → G it = none → FpOk (X.blk s3 H3 scope ce [it]) [] G it := fun I' _ hn =>
    ⟨hn, (I'.ok.exf it mem).1, I'.ok.exfs it mem, .inl mem, fun x c e => (I'.ok.exf it mem).2 x c e, fun p hp => absurd (show p ∈ ([] : List (Addr × Obj)) ++ [] from hp) (by simp)⟩
  have loop : codeAny (model X.prog X.w) X.A (.compLoop (.ListComp elt [⟨tg, iter, [], 0⟩] scope pos) 0 (.ref it) (.ref D) ce) (compPost (model X.prog X.w) X.A X.xe none (EP X pp σ Q) (.ref D) s3.heap.objs.size) s4 := by
    refine compLoop_any (fun n s' => ∃ (i : Nat) (G : Hp), Inv (X.blk s3 H3 scope ce [it]) [] (wipe σ (own.map (·.2))) G s' ∧ s'.heap.IsListIter it a i ∧ G it = none ∧ W i n G) ?_ m0 ⟨0, H3, I4, st4, new3, w0⟩
    rintro n s5 ⟨i, H5, I5, st5, n5, w5⟩
    obtain ⟨p0, p1, p2, p3, p4, p5⟩ := stat I5 rfl n5
    rcases turn i n H5 w5 with ⟨⟨xs, hq, hx⟩, fin⟩ | ⟨⟨xs, x, hq, hx⟩, Nx, hNx, step⟩
    · obtain ⟨its5, rv, pl5, _⟩ := I5.list hq
      have len := rv.length
      refine next_end_hot ⟨hh, pz.2, zs, I5.base.keep pz.1 pz.2 z1 z2 zfs (fun y => zit (List.mem_singleton.mp y)), zd, zc⟩ zit st5 pl5.isList (by simp; omega) fun h' eb => ?_
      have I6 : Inv (X.blk s3 H3 scope ce [it]) [] (wipe σ (own.map (·.2))) H5 { s5 with heap := h' } := I5.turned (t' := s5.toks) (fun b o hb e => eb b o hb e) p0 p1 p3 p4 p5
      have I7 : Inv X pp σ H5 { s5 with heap := h' } := I3.call' (ch := [it]) I6.os I6.base I6.hok I6.bare fun b hb => by
        rw [List.mem_singleton.mp hb]
        exact ⟨f3.2.2.2.1, f3.2.1, f3.2.2.2.2.1, f3.2.2.2.2.2⟩
      have nC : H5 s3.heap.objs.size = none := by
        have z : H5 ce.locals = none := I6.free
        rwa [cL] at z
      obtain ⟨m, hn, _⟩ := I6.loc
      have hn : h'.Ns ce.locals m := hn
      rw [cL] at hn
      obtain ⟨g0, g1, g2, g3, g4, g5⟩ := I3.fpOk (Nat.le_refl _) nC
      exact ⟨m, hn, fun h2 sb => ⟨.ref D, H5, I7.turned (t' := s5.toks) (fun b o hb e => (sb.2 b hb).trans e) g0 g1 g3 g4 g5, rfl, fin⟩⟩
    · obtain ⟨its5, rv, pl5, _⟩ := I5.list hq
      obtain ⟨u, hu, ru⟩ := rv.get hx
      refine wpAny_pyNext_list_item st5 pl5.isList (x := u) (by simpa using hu) fun h' st' sb => ?_
      have I6 : Inv (X.blk s3 H3 scope ce [it]) [] (wipe σ (own.map (·.2))) H5 { s5 with heap := h' } := I5.turned (t' := s5.toks) (fun b o hb e => (sb.2 b hb).trans e) p0 p1 p3 p4 p5
      obtain ⟨oi, ei, ci, di⟩ := id st'
      refine go_of (s := { s5 with heap := h' }) ei ci di (by decide) ?_
      have P := I6.pinned (fp := [it]) (fun b hb => by rw [List.mem_singleton.mp hb]; exact stat I6 rfl n5)
        fun b hb => ⟨oi, by rw [List.mem_singleton.mp hb]; exact ei, fun v z => by rw [di] at z; cases z⟩
      refine thnF (pg.run _ _ _ H5 x u _ P ru (step x H5 ⟨rfl, fun ys hy => by rw [I5.list_inj hy hq]; exact hx⟩)) fun _ s8 ⟨σ8, H8, I8, hw8, q8⟩ => ?_
      have again : ∀ {s' : Shared} {G : Hp}, Inv (X.blk s3 H3 scope ce [it]) ([] ++ pinsAt [it] h') σ8 G s' → Nx G →
          ∃ m, m < n ∧ ∃ (i : Nat) (G : Hp), Inv (X.blk s3 H3 scope ce [it]) [] (wipe σ (own.map (·.2))) G s' ∧ s'.heap.IsListIter it a i ∧ G it = none ∧ W i m G := fun {s' G} I' nx => by
        obtain ⟨m', hm, w'⟩ := hNx G nx
        obtain ⟨y1, y2, _⟩ := I'.pin (it, oi) (List.mem_append_right _ (List.mem_append_right _ (mem_pinsAt (List.mem_singleton.mpr rfl) ei)))
        have len : (wipe σ (own.map (·.2))).length = σ8.length := by rw [← hw8, wipe_length]
        refine ⟨m', hm, i + 1, G, (I'.unpinned (pins := [])).weak len (fun j v e => ?_), st'.at fun o e => ?_, y2, w'⟩
        · rw [← hw8] at e
          exact (wipe_some e).1
        · have z : o = oi := Option.some.inj (e.symm.trans ei)
          rw [z]
          exact y1
      refine thnF (pt.run _ s8 σ8 H8 _ I8 q8) fun b s9 ⟨H9, I9, q9⟩ => ?_
      cases b with
      | false =>
        rw [if_neg (fun z => Bool.noConfusion z)] at q9 ⊢
        exact again I9 q9
      | true =>
        rw [if_pos rfl] at q9 ⊢
        exact thnF (pe.run _ s9 σ8 H9 _ I9 q9) fun z s10 ⟨yv, H10, I10, r10, acc, hD10, hz10, nx⟩ =>
          app_ok (X := X.blk s3 H3 scope ce [it]) I10 hD10 hz10 r10 fun s11 I11 => again I11 nx
  exact codeAny_compStart_list loop (wpAny_pyIter_listiter st4 loop)
def dLcH (di : DTE) (dg : DTG) (de : DTE) (vs : List Nat) : DTE := fun ρ Q E => di ρ (fun x ρ1 => stab x ρ1 fun a ρ2 => match a with
  | .lst ds => dLcN dg dYes de vs (fun acc ρ3 => Q (.fr (.l acc)) (backD ρ3 ρ2 vs)) ds [] (wipeD ρ2 vs)
  | _ => False) E
theorem d_lcH {X : Cx} {W : WX} {elt tg iter : Expr} {scope : Scope} {own : List (Str × Nat)} {pos : Pos} {di de : DTE} {dg : DTG} {js : List Nat} (hot : HotC X) (hN : X.N.Nodup) (hi : DE X W iter di) (ok : BlkOk X.N X.env.scope scope own) (hjs : ∀ j, j ∈ js → j ∈ own.map (·.2))
    (hg : ∀ (s : Shared) (H : Hp) (C : Addr) (cl : List (Str × Addr)) (fp : List Addr), DG (X.blk s H scope (compEnvC scope cl C X.env) fp) tg js dg)
    (he : ∀ (s : Shared) (H : Hp) (C : Addr) (cl : List (Str × Addr)) (fp : List Addr), DE (X.blk s H scope (compEnvC scope cl C X.env) fp) W0 elt de) (hs : ∀ x, foldedSetIterable iter X.env x = pure x := by intro _; rfl) :
    DE X W (.ListComp elt [⟨tg, iter, [], 0⟩] scope pos) (dLcH di dg de (own.map (·.2))) := by
  refine pe_imp (pe_lcH (g := gD X.K js dg) (tt := tDT X.K W0 dYes) (te := tD X.K W0 de) hot hN hi ok hg (fun _ _ _ _ _ => d_tests_nil) he hs) fun σ H QQ ⟨F, S, ρ, Q, Ee, r, h, kq, ke⟩ => ?_
  refine ⟨F, S, ρ, _, Ee, r, h, fun v x S1 ρ1 H1 g1 r1 vr1 q1 => ?_, ke⟩
  obtain ⟨a, S2, ρ2, g2, r2, p2, q2⟩ := VR.stab r1 vr1 q1
  cases a with
  | lst ds =>
    obtain ⟨p, vs, e, h1, pl⟩ := p2
    have hw : ∀ G, Same S2 G → SqL X.K G p vs := fun G s => SqL.of (s _ _ h1)
    have kk : ∀ v acc S' ρ' H', Gr F.B S2 S' → R X.K F S' ρ' σ H' → VR X.K F S' ρ' σ H' v (.fr (.l acc)) → Q (.fr (.l acc)) ρ' → QQ v H' := fun v acc S' ρ' H' g' r' vr' q' => kq v _ S' ρ' H' ((g1.trans g2).trans g') r' vr' q'
    exact ⟨p, e, ⟨vs, hw _ r2.s⟩, lc_turns r2 pl hjs q2 (goL hw) (fun G s => ⟨vs, hw G s, Nat.le_refl _⟩) kk⟩
  | _ => exact q2.elim
theorem hot_body {Y : CXT} {P : Program} {w : World} {K : PySem.W.Frag} {mg : Str → Option Value} {base : Heap} {N : List Str} {ql : Str} {sc : Scope} {f : Addr} {cd : Value} {A : Around} {up : List Env} {s : Shared} {H : Hp} {E : XK} {p : Addr × Obj} (h : Hot1 A p) : HotC (cxH Y P w K mg base N ql sc f cd A up s H E p) :=
  ⟨p, ⟨h.1, h.2⟩, List.mem_cons_self⟩
theorem hotX_body {Y : CXT} {P : Program} {w : World} {K : PySem.W.Frag} {mg : Str → Option Value} {base : Heap} {N : List Str} {ql : Str} {sc : Scope} {f : Addr} {cd : Value} {A : Around} {up : List Env} {s : Shared} {H : Hp} {E : XK} {p : Addr × Obj} {c : Value} {d : Option Addr} (h : Hot1 A p) (z : L2N.Zn c d p.2) :
    HotX1 (cxH Y P w K mg base N ql sc f cd A up s H E p) p.1 c d := ⟨p.2, ⟨h.1, h.2⟩, z, List.mem_cons_self⟩
theorem fnX_shut {P : Program} {w : World} {K : PySem.W.Frag} {mg : Str → Option Value} {base : Heap} {Y : CXT} {k n : Nat} {f : Addr} {fd : FuncData} {ps : List Str} {G : Addr → Value → Option Addr → DSp} (h : FnX P w K mg base Y k f fd ps (spDX K n G)) :
    FnX P w K mg base Y k f fd ps (spDX K n fun a c d => shut (G a c d)) := by
  have e : (fun a c d => shut (G a c d)) = G := funext fun a => funext fun c => funext fun d => shut_eq _
  rw [e]
  exact h
/-! what isinstance answers, by classes -/
theorem kit_self {K : PySem.W.Frag} {R : Addr} : PySem.W.kitOne K (.ref R) (.ref R) = some true := by
  unfold PySem.W.kitOne
  rw [if_pos (beq_self_eq_true _)]
theorem kit_cls {K : PySem.W.Frag} {R C : Addr} (hd : PySem.W.hasDictIn K C = true) (ht : PySem.W.typeIn K (.ref C) = some (.type "type")) (hc : PySem.W.subIn K (.ref C) (.ref C) = some true) (h : PySem.W.subIn K (.ref R) (.ref C) = some false) : PySem.W.kitOne K (.ref R) (.ref C) = some false := by
  have ne : R ≠ C := fun z => by
    rw [z, hc] at h
    cases h
  have e1 : ((Value.ref R == Value.ref C) = true) = False := eq_false fun z => ne (Value.ref.inj (beq_iff_eq.mp z))
  obtain ⟨cd, e, _⟩ := PySem.W.any_some hd
  have e2 : ((PySem.W.clsIn K C).isSome && PySem.W.typeIn K (.ref C) == some (.type "type")) = true := by rw [e, ht]; rfl
  unfold PySem.W.kitOne
  rw [if_neg (by rw [e1]; exact fun z => z)]
  show (if ((PySem.W.clsIn K C).isSome && PySem.W.typeIn K (.ref C) == some (.type "type")) = true then PySem.W.subIn K (.ref R) (.ref C) else none) = some false
  rw [if_pos e2, h]
theorem kit_val {K : PySem.W.Frag} {R : Addr} (h : PySem.W.subIn K (.ref R) (.type "ValueError") = some true) : PySem.W.kitOne K (.ref R) (.type "ValueError") = some true := by
  have e2 : PySem.W.kitMeta "ValueError" = true := by decide +kernel
  show (if PySem.W.kitMeta "ValueError" = true then PySem.W.subIn K (.ref R) (.type "ValueError") else none) = some true
  rw [if_pos e2, h]
theorem boot_VE : bootBuiltins "ValueError" = some (.type "ValueError") := by rfl
end DW
/-! DWmk: a making whose last argument is an own thing, handed in by reference. -/
namespace DW
open PySem L2
section
variable {K : PySem.W.Frag} {F : Fm} {S H : Hp} {ρ : List SV} {σ : St}
/-- self, data, a thing by reference -/
def mkSl (C : Addr) (as : List D) (o : OO) : List SV := .rf (.i C []) :: (as.map .d ++ [.rf o])
theorem mkSl_at {C : Addr} {as : List D} {o : OO} {j : Nat} {z : SV} (h : (mkSl C as o)[j]? = some z) : (j = 0 ∧ z = .rf (.i C [])) ∨ (∃ k, j = k + 1 ∧ k < as.length ∧ (as.map SV.d)[k]? = some z) ∨ (j = as.length + 1 ∧ z = .rf o) := by
  unfold mkSl at h
  cases j with
  | zero => cases h; exact .inl ⟨rfl, rfl⟩
  | succ k =>
    rw [List.getElem?_cons_succ] at h
    by_cases c : k < as.length
    · rw [List.getElem?_append_left (by simpa using c)] at h
      exact .inr (.inl ⟨k, rfl, c, h⟩)
    · rw [List.getElem?_append_right (by simpa using c)] at h
      have e : k - (as.map SV.d).length = 0 := by
        by_cases z0 : k - (as.map SV.d).length = 0
        · exact z0
        · rw [List.getElem?_eq_none (by simp; simp at z0; omega)] at h
          cases h
      rw [e] at h
      cases h
      refine .inr (.inr ⟨?_, rfl⟩)
      simp at e
      omega
theorem vals_mid {x a : Addr} {vs : List V} {k : Nat} (h : k < vs.length) : ((V.ref x :: (vs ++ [V.ref a])).map some)[k + 1]? = (vs.map some)[k]? := by
  rw [List.map_cons, List.getElem?_cons_succ, List.map_append, List.getElem?_append_left (by simpa using h)]
theorem vals_last {x a : Addr} {vs : List V} : ((V.ref x :: (vs ++ [V.ref a])).map some)[vs.length + 1]? = some (some (V.ref a)) := by
  rw [List.map_cons, List.getElem?_cons_succ, List.map_append, List.getElem?_append_right (by simp)]
  simp
theorem vs_last {x a : Addr} {vs : List V} : (V.ref x :: (vs ++ [V.ref a]))[vs.length + 1]? = some (V.ref a) := by
  rw [List.getElem?_cons_succ, List.getElem?_append_right (by simp)]
  simp
theorem makeR_ok {n i : Nat} {y : SV} {o : OO} {C x dx : Addr} {G : DSp} {as : List D} {v0 : V} {vs : List V} {Q : OO → List SV → Prop} {E : DExc → List SV → Prop} {QQ : VK} {EE : XK} (r : R K F S ρ σ H) (hx : H x = none) (hdx : H dx = none) (hne : dx ≠ x)
    (hy : ρ[i]? = some y) (ho : y.oo = some o) (hv : σ[i]? = some (some v0)) (p : RpL K S as vs) (hn : vs.length + 2 = n)
    (h : G (mkSl C as o) (fun z bs => ∃ o' o2, bs[0]? = some (.rf o') ∧ bs[as.length + 1]? = some (.rf o2) ∧ z = .d .non ∧ Q o' (ρ.set i (y.re o2))) (fun e bs => ∃ o2, bs[as.length + 1]? = some (.rf o2) ∧ E e (ρ.set i (y.re o2))))
    (kq : ∀ o' S' ρ' H', Gr F.B S S' → R K F S' ρ' σ H' → VR K F S' ρ' σ H' (.ref x) (.fr o') → Q o' ρ' → QQ (.ref x) H') (ke : ∀ e cls d S' ρ' H', Gr F.B S S' → R K F S' ρ' σ H' → XR K S' H' e cls d → E e ρ' → EE cls d H') :
    spD K n G (.ref x :: (vs ++ [v0])) (upd (upd H dx (.own x)) x (.ins C dx [])) (fun v H2 => v = .non ∧ QQ (.ref x) H2) EE := by
  obtain ⟨a, ha, hb, hs, hor⟩ := r.own hy ho
  rw [hv] at ha
  cases ha
  have hi : i < ρ.length := (List.getElem?_eq_some_iff.mp hy).1
  have lp := p.length
  have r0 : R K F S ρ σ (upd (upd H dx (.own x)) x (.ins C dx [])) := by
    have b1 := r.newB hdx
    have r2 := r.beside (u := .own x) b1.1 b1.2 (NoSl.new r hdx)
    have hx2 : upd H dx (.own x) x = none := by rw [upd_ne (Ne.symm hne)]; exact hx
    have b2 := r2.newB hx2
    exact r2.beside b2.1 b2.2 (NoSl.new r2 hx2)
  have hB : upd H dx (.own x) x = none := by rw [upd_ne (Ne.symm hne)]; exact hx
  have sH : Same H (upd H dx (.own x)) := fun c w e => by rw [upd_ne (ne_of_none e hdx)]; exact e
  have hSx : S x = none := r.s.free hx
  obtain ⟨ua, hua⟩ := hor.there
  have hax : a ≠ x := ne_of_none hua hx
  have had : a ≠ dx := ne_of_none hua hdx
  have horN : OR K S (upd (upd H dx (.own x)) x (.ins C dx [])) a o := hor.mono (Same.refl S) (by rw [upd_ne hax, upd_ne had])
  have hBx : hide (upd H dx (.own x)) a x = none := by rw [hide_ne (Ne.symm hax)]; exact hB
  have r1 : R K ⟨hide (upd H dx (.own x)) a, .ref x :: (vs ++ [.ref a]), n⟩ S (mkSl C as o) ((V.ref x :: (vs ++ [.ref a])).map some) (upd (upd H dx (.own x)) x (.ins C dx [])) := by
    refine ⟨by simp [mkSl, lp], by simp [mkSl]; omega, fun c w e => ?_, r0.s, fun j z e => ?_, fun j k z z2 ov ow q hj hk sj sk zj zk => ?_⟩
    · have e' : hide (upd H dx (.own x)) a c = some w := e
      have n1 : c ≠ a := fun z => by rw [z, hide_same] at e'; cases e'
      rw [hide_ne n1] at e'
      rw [upd_ne (ne_of_none e' hB)]
      exact e'
    · rcases mkSl_at e with ⟨rfl, rfl⟩ | ⟨k, rfl, hk, hz⟩ | ⟨rfl, rfl⟩
      · exact ⟨_, rfl, x, rfl, rfl, hBx, hSx, dx, [], upd_same, rfl⟩
      · obtain ⟨ov, e1, e2⟩ := p.slots (H := upd (upd H dx (.own x)) x (.ins C dx [])) (B := hide (upd H dx (.own x)) a) k z hz
        exact ⟨ov, (vals_mid (by omega)).trans e1, e2 _⟩
      · rw [← lp]
        exact ⟨_, vals_last, a, rfl, vs_last, hide_same, hs, horN⟩
    · rcases mkSl_at hj with ⟨rfl, rfl⟩ | ⟨j, rfl, hj1, hjz⟩ | ⟨rfl, rfl⟩
      · rcases mkSl_at hk with ⟨rfl, rfl⟩ | ⟨k, rfl, hk1, hkz⟩ | ⟨rfl, rfl⟩
        · rfl
        · exact (own_d hkz zk).elim
        · exfalso
          rw [← lp, vals_last] at sk
          cases sk
          cases sj
          cases zj
          cases zk
          exact hax rfl
      · exact (own_d hjz zj).elim
      · rcases mkSl_at hk with ⟨rfl, rfl⟩ | ⟨k, rfl, hk1, hkz⟩ | ⟨rfl, rfl⟩
        · exfalso
          rw [← lp, vals_last] at sj
          cases sj
          cases sk
          cases zj
          cases zk
          exact hax rfl
        · exact (own_d hkz zk).elim
        · rfl
  have up : ∀ {S' : Hp} {bs : List SV} {o2 : OO} {H' : Hp}, bs[as.length + 1]? = some (.rf o2) → Gr (hide (upd H dx (.own x)) a) S S' → R K ⟨hide (upd H dx (.own x)) a, .ref x :: (vs ++ [.ref a]), n⟩ S' bs ((V.ref x :: (vs ++ [.ref a])).map some) H' →
      Gr F.B S S' ∧ R K F S' (ρ.set i (y.re o2)) σ H' ∧ NoSl (ρ.set i (y.re o2)) σ x := fun {S' bs o2 H'} hl g' r' => by
    have sm : Same (hide (upd H dx (.own x)) a) H' := r'.b
    obtain ⟨ov, e1, pp, e2, e3, b1, s1, or1⟩ := r'.at_ _ (.rf o2) hl
    rw [← lp, vals_last] at e1
    cases e1
    cases e2
    have up1 : ∀ {c : Addr} {w : HO}, H c = some w → c ≠ a → hide (upd H dx (.own x)) a c = some w := fun {c w} e n1 => by
      rw [hide_ne n1]
      exact sH c w e
    have sB : Same F.B (hide (upd H dx (.own x)) a) := fun c w e => up1 (r.b c w e) (ne_of_none e hb)
    have old : ∀ {j : Nat} {z : SV}, j ≠ i → (ρ.set i (y.re o2))[j]? = some z → ρ[j]? = some z := fun {j z} hj e => by
      rwa [List.getElem?_set_ne (Ne.symm hj)] at e
    have own' : ∀ {j : Nat} {z : SV} {ov : Option V} {q : Addr}, (ρ.set i (y.re o2))[j]? = some z → σ[j]? = some ov → Has z ov q → ∃ z0, ρ[j]? = some z0 ∧ Has z0 ov q := fun {j z ov q} e es ex => by
      by_cases hj : j = i
      · subst hj
        rw [List.getElem?_set_self hi] at e
        cases e
        refine ⟨y, hy, ?_⟩
        cases y with
        | ow _ => exact ex
        | rf _ => exact ex
        | _ => cases ho
      · exact ⟨z, old hj e, ex⟩
    refine ⟨⟨g'.s, fun c w h1 h2 => ?_⟩, ⟨by rw [List.length_set]; exact r.len, by rw [List.length_set]; exact r.ln, sB.trans sm, r'.s, fun j z e => ?_, fun j k z1 z2 ov ow q hj hk sj sk zj zk => ?_⟩, fun j z ov e es ex => ?_⟩
    · rcases g'.n c w h1 h2 with this | z
      · refine .inl ?_
        by_cases z : c = a
        · rw [z]; exact hb
        · rw [hide_ne z] at this
          exact r.b.free (sH.free this)
      · exact .inr z
    · by_cases hj : j = i
      · subst hj
        rw [List.getElem?_set_self hi] at e
        cases e
        refine ⟨_, hv, ?_⟩
        cases y with
        | ow _ => exact ⟨a, rfl, hb, s1, or1⟩
        | rf _ =>
          obtain ⟨ov, e4, pq, e5, e6, _⟩ := r.at_ j _ hy
          rw [hv] at e4
          cases e4
          cases e5
          exact ⟨a, rfl, e6, hb, s1, or1⟩
        | _ => cases ho
      · have e' := old hj e
        obtain ⟨ov, h5, h6⟩ := r.at_ j z e'
        refine ⟨ov, h5, h6.mono g'.s fun q hoq hq => ?_⟩
        have hqa : q ≠ a := fun w => hj (r.ap j i z y ov _ a e' hy h5 hv (w ▸ hoq) (Has.oo ho rfl))
        obtain ⟨_, _, oo, h8⟩ := h6.held hoq
        obtain ⟨u, hu, nt⟩ := h8.nt
        have hh := up1 hu hqa
        exact ⟨g'.free hq (by show hide (upd H dx (.own x)) a q ≠ none; rw [hh]; exact fun z => nomatch z) fun xs z => nt xs (Option.some.inj ((sm q u hh).symm.trans (r'.s q _ z))), by rw [hu, sm q u hh]⟩
    · obtain ⟨x1, a1, a2⟩ := own' hj sj zj
      obtain ⟨x2, a3, a4⟩ := own' hk sk zk
      exact r.ap j k x1 x2 ov ow q a1 a3 sj sk a2 a4
    · obtain ⟨x1, a1, a2⟩ := own' e es ex
      exact NoSl.new r hx j x1 ov a1 es a2
  refine ⟨by simp; omega, hide (upd H dx (.own x)) a, S, _, _, _, r1, h, fun v z S' bs H' g' r' vr' nx ny q' => ?_, fun e cls d S' bs H' g' r' xr' q' => ?_⟩
  · obtain ⟨o', o2, h0, hl, rfl, q'⟩ := q'
    obtain ⟨g2, r2, ns⟩ := up hl g' r'
    obtain ⟨ov, e1, pp, e2, e3, b1, s1, or1⟩ := r'.at_ 0 (.rf o') h0
    have e1 : some (some (V.ref x)) = some ov := e1
    cases e1
    cases e2
    exact ⟨vr', kq o' S' _ H' g2 r2 ⟨x, rfl, r.b.free hx, s1, ns, or1⟩ q'⟩
  · obtain ⟨o2, hl, q'⟩ := q'
    obtain ⟨g2, r2, _⟩ := up hl g' r'
    exact ke e cls d S' _ H' g2 r2 xr' q'
end
def rfAt (ρ : List SV) (i : Nat) (k : SV → OO → Prop) : Prop := match ρ[i]? with
  | some (.ow o) => k (.ow o) o
  | some (.rf o) => k (.rf o) o
  | _ => False
theorem rfAt_ok {ρ : List SV} {i : Nat} {k : SV → OO → Prop} (h : rfAt ρ i k) : ∃ y o, ρ[i]? = some y ∧ y.oo = some o ∧ k y o := by
  unfold rfAt at h
  split at h
  · next o e => exact ⟨_, o, e, rfl, h⟩
  · next o e => exact ⟨_, o, e, rfl, h⟩
  · exact h.elim
def madeR (w : DV) (bs : List SV) (k : OO → OO → Prop) : Prop := match w, bs with
  | .d .non, .rf o' :: _ :: _ :: .rf o2 :: _ => k o' o2
  | _, _ => False
def madeRE (bs : List SV) (k : OO → Prop) : Prop := match bs with
  | _ :: _ :: _ :: .rf o2 :: _ => k o2
  | _ => False
theorem madeR_eq (w : DV) (bs : List SV) (k : OO → OO → Prop) : madeR w bs k = ∃ o' o2, bs[0]? = some (.rf o') ∧ bs[3]? = some (.rf o2) ∧ w = .d .non ∧ k o' o2 := by
  refine propext ⟨fun h => ?_, fun ⟨o', o2, h0, h3, hw, h⟩ => ?_⟩
  · unfold madeR at h
    split at h
    · exact ⟨_, _, rfl, rfl, rfl, h⟩
    · exact h.elim
  · subst hw
    match bs, h0, h3 with
    | b0 :: b1 :: b2 :: b3 :: bs, h0, h3 =>
      cases h0
      cases h3
      exact h
theorem madeRE_eq (bs : List SV) (k : OO → Prop) : madeRE bs k = ∃ o2, bs[3]? = some (.rf o2) ∧ k o2 := by
  refine propext ⟨fun h => ?_, fun ⟨o2, h3, h⟩ => ?_⟩
  · unfold madeRE at h
    split at h
    · exact ⟨_, rfl, h⟩
    · exact h.elim
  · match bs, h3 with
    | b0 :: b1 :: b2 :: b3 :: bs, h3 =>
      cases h3
      exact h
/-- C(e1, e2, y), y's thing handed in by reference -/
def dMakeR (i : Nat) (C0 : Addr) (G : DSp) (d1 d2 : DTE) : DTE := fun ρ Q E => d1 ρ (fun x ρ1 => stab x ρ1 fun a ρ2 => d2 ρ2 (fun y ρ3 => stab y ρ3 fun b ρ4 => rfAt ρ4 i fun z o =>
  G (mkSl C0 [a, b] o) (fun w bs => madeR w bs fun o' o2 => Q (.fr o') (ρ4.set i (z.re o2))) (fun e bs => madeRE bs fun o2 => E e (ρ4.set i (z.re o2)))) E) E
theorem d_makeR {X : Cx} {W : WX} {k : Nat} {f C : Addr} {fd : FuncData} {ps : List Str} {G : DSp} {x y : Str} {p py pos : Pos} {e1 e2 : Expr} {d1 d2 : DTE} (i : Nat) (M : Mk X.K C f) (F0 : FnOk X.prog X.w X.K X.mg X.base (L2N.CX X.prog X.w) k f fd ps (spD X.K ps.length G)) (hps : ps.length = 4) (hr : Room (k + 1) X.A) (hm : X.mg x = some (.ref C)) (hb : Binds X.K fd ps []) (tk : L2N.Takes X W)
    (h1 : DE X W e1 d1) (h2 : DE X W e2 d2) (hN : X.N[i]? = some y := by rfl) (hv : Vis X.env.scope y := by first | exact Or.inl rfl | exact Or.inr (Or.inl rfl) | exact Or.inr (Or.inr rfl)) (hd : (y == ("__debug__" : Str)) = false := by decide) (hcd : (y == ("__classdict__" : Str)) = false := by decide) (hg : Gl X x := by rfl)
    (hdb : (x == ("__debug__" : Str)) = false := by decide) (s1 : starEach [e1, e2, .Name y py] X.env = (false, eval e1 X.env) :: starEach [e2, .Name y py] X.env := by rfl) (s2 : starEach [e2, .Name y py] X.env = (false, eval e2 X.env) :: starEach [.Name y py] X.env := by rfl)
    (s3 : starEach [.Name y py] X.env = (false, eval (.Name y py) X.env) :: starEach [] X.env := by rfl) (hpl : (backTo pos (starEach [e2, .Name y py] X.env)).any (·.1) = false := by rfl) :
    DE X W (.Call (.Name x p) [e1, e2, .Name y py] [] pos) (dMakeR i C G d1 d2) := by
  refine pe_imp (pe_makeQ M F0 hr hm hb tk (pa_cons h1 (pa_cons h2 (pa_cons (pv i hN hv hd hcd) pa_nil s3) s2) s1) hg hdb s1 hpl) fun σ H QQ ⟨F, S, ρ, Q, Ee, r, h, kq, ke⟩ => ?_
  refine ⟨F, S, ρ, _, Ee, r, h, fun v1 x1 S1 ρ1 H1 g1 r1 vr1 q1 => ?_, ke⟩
  obtain ⟨a1, S2, ρ2, g2, r2, p2, q2⟩ := VR.stab r1 vr1 q1
  refine ⟨F, S2, ρ2, _, Ee, r2, q2, fun v2 x2 S3 ρ3 H3 g3 r3 vr3 q3 => ?_, fun e cls d S' ρ' H' g' r' xr' q' => ke e cls d S' ρ' H' ((g1.trans g2).trans g') r' xr' q'⟩
  obtain ⟨a2, S4, ρ4, g4, r4, p4, q4⟩ := VR.stab r3 vr3 q3
  obtain ⟨z, o, hz, ho, q5⟩ := rfAt_ok q4
  obtain ⟨a, hva, _⟩ := r4.own hz ho
  simp only [madeR_eq, madeRE_eq] at q5
  have gg := (g1.trans g2).trans (g3.trans g4)
  refine ⟨_, hva, fun ob dx hx hdx hne => ?_⟩
  rw [hps]
  exact makeR_ok (as := [a1, a2]) (vs := [v1, v2]) (Q := fun o' ρ' => Q (.fr o') ρ') (E := fun e ρ' => Ee e ρ') r4 hx hdx hne hz ho hva (RpL.cons (Rp.mono (g3.trans g4).s p2) (RpL.cons p4 rfl)) rfl q5 (fun o' S' ρ' H' g' r' vr' q' => kq _ _ S' ρ' H' (gg.trans g') r' vr' q') fun er cls d S' ρ' H' g' r' xr' q' => ke er cls d S' ρ' H' (gg.trans g') r' xr' q'
/-- a method without arguments of a list of the memory -/
theorem d_lmM0 {X : Cx} {W : WX} (m : Nat) {o : Expr} {name : Str} {id : String} {r : V → List V → Hp → VK → Prop} {g : DLM} {da : DTE} {apos cpos : Pos} (slot : Slot "list" name id) (hty : typeOf (.builtin id) = pure (.type "method_descriptor")) (hm : MtR X id r) (hok : MtOk X.K g r) (ho : DE X W o da)
    (hbase : attributeBase o name X.env (eval o X.env) = eval o X.env := by rfl) (hline : (apos.endLine == cpos.line) = true := by rfl) :
    DE X W (.Call (.Attribute o name apos) [] [] cpos) (dLMM m g da dANil) := by
  refine pe_imp (pe_bm0 PySem.F.plainAttrs_list slot hty hm ho hbase hline) fun σ H QQ ⟨F, S, ρ, Q, Ee, rr, h, kq, ke⟩ => ?_
  refine ⟨F, S, ρ, _, Ee, rr, h, fun v x S1 ρ1 H1 g1 r1 vr1 q1 => ?_, ke⟩
  cases x with
  | d a =>
    cases a with
    | ptr p =>
      have vr1 : v = .ref p := vr1
      subst vr1
      have q2 : atM ρ1 m fun μ => match μ.lookup p with | some (.l xs) => g xs [] fun c ys => Q (.d c) (ρ1.set m (.mm (memU μ p (.l ys)))) | _ => False := q1.2
      obtain ⟨μ, e, q3⟩ := atM_ok q2
      cases l : μ.lookup p with
      | none => simp only [l] at q3
      | some oo =>
        cases oo with
        | l xs =>
          simp only [l] at q3
          obtain ⟨_, hs, vs, a4, a5⟩ := (r1.memAt e).2 p _ (look_mem l)
          refine ⟨.inl ⟨rfl, _, SqL.of a4⟩, hok S1 H1 p xs [] vs [] _ QQ r1.s hs a4 a5 rfl q3 fun v c ys us h1 h2 h3 => kq v (.d c) S1 _ _ g1 (r1.setM e l (OR.mkL h2)) h1 h3⟩
        | _ => simp only [l] at q3
    | _ => exact False.elim q1
  | _ => exact False.elim q1
end DW
/-! DWq: the pure side of the memory: equations, lookups. -/
namespace DW
open PySem L2
section
variable {ρ : List SV} {p q : Addr} {x : D} {o : OO} {k : D → Prop} {kv : DV → Prop} {ks : D → List SV → Prop} {kk : List SV → Prop} {μ : List (Addr × OO)} {i : Nat}
theorem pk_me : pk ρ (.me p) k = match (memOf ρ).lookup p with | some o => k o.toD | none => False := rfl
theorem stab_me : stab (.me p) ρ ks = ks (.ptr p) ρ := rfl
theorem fz_me : (DV.me p).fz = .me p := rfl
theorem store_me : storeS i (.me p) ρ kk = (i < ρ.length ∧ kk (ρ.set i (.d (.ptr p)))) := rfl
theorem outV_me : outV (.me p) ρ kv = kv (.d (.ptr p)) := rfl
theorem mem_un : memOf (.un :: ρ) = memOf ρ := rfl
theorem mem_d : memOf (.d x :: ρ) = memOf ρ := rfl
theorem mem_ow : memOf (.ow o :: ρ) = memOf ρ := rfl
theorem mem_rf : memOf (.rf o :: ρ) = memOf ρ := rfl
theorem mem_mm : memOf (.mm μ :: ρ) = μ := rfl
theorem toD_t {kvs : List (List Key × D)} : (OO.t kvs).toD = .tkd kvs := rfl
theorem lookU : (memU μ p o).lookup q = if q = p then (μ.lookup p).map (fun _ => o) else μ.lookup q := by
  unfold memU
  induction μ with
  | nil => simp
  | cons c μ ih =>
    obtain ⟨a, u⟩ := c
    rw [List.map_cons]
    by_cases h : a = p
    · subst h
      rw [if_pos rfl, List.lookup_cons, List.lookup_cons, List.lookup_cons, ih]
      by_cases e : q = a
      · subst e
        simp
      · have e2 : (q == a) = false := beq_eq_false_iff_ne.mpr e
        simp [e, e2]
    · rw [if_neg h, List.lookup_cons, List.lookup_cons, List.lookup_cons, ih]
      have h2 : (p == a) = false := beq_eq_false_iff_ne.mpr fun z => h z.symm
      by_cases e : q = a
      · subst e
        simp [h]
      · have e2 : (q == a) = false := beq_eq_false_iff_ne.mpr e
        simp only [e2, h2]
theorem lookU_ne (h : q ≠ p) : (memU μ p o).lookup q = μ.lookup q := by rw [lookU, if_neg h]
theorem lookU_same {u : OO} (h : μ.lookup p = some u) : (memU μ p o).lookup p = some o := by rw [lookU, if_pos rfl, h]; rfl
theorem lookD : (memD μ p).lookup q = if q = p then none else μ.lookup q := by
  unfold memD
  induction μ with
  | nil => simp
  | cons c μ ih =>
    obtain ⟨a, u⟩ := c
    by_cases h : a = p
    · subst h
      rw [List.filter_cons_of_neg (by simp), ih, List.lookup_cons]
      by_cases e : q = a
      · subst e
        simp
      · have e2 : (q == a) = false := beq_eq_false_iff_ne.mpr e
        simp [e, e2]
    · rw [List.filter_cons_of_pos (by simpa using h), List.lookup_cons, List.lookup_cons, ih]
      by_cases e : q = a
      · subst e
        simp [h]
      · have e2 : (q == a) = false := beq_eq_false_iff_ne.mpr e
        simp only [e2]
theorem lookD_ne (h : q ≠ p) : (memD μ p).lookup q = μ.lookup q := by rw [lookD, if_neg h]
theorem lookA : (μ ++ [(p, o)]).lookup q = (μ.lookup q).or (if q = p then some o else none) := by
  induction μ with
  | nil =>
    by_cases e : q = p
    · subst e
      simp
    · have e2 : (q == p) = false := beq_eq_false_iff_ne.mpr e
      simp [List.lookup_cons, e, e2]
  | cons c μ ih =>
    obtain ⟨a, u⟩ := c
    rw [List.cons_append, List.lookup_cons, List.lookup_cons, ih]
    cases (q == a) <;> rfl
theorem lookA_old {u : OO} (h : μ.lookup q = some u) : (μ ++ [(p, o)]).lookup q = some u := by rw [lookA, h]; rfl
theorem lookA_new (h : ∀ u, (p, u) ∉ μ) : (μ ++ [(p, o)]).lookup p = some o := by rw [lookA, look_none h, if_pos rfl]; rfl
end
/-- a node of the folding: a tuple of places -/
def nodeD (n : List Int) : D := .tup (n.map .int)
def keyI (n : List Int) : List Key := n.map Sum.inl
theorem keysT_ints : ∀ n : List Int, keysT (n.map .int) = some (keyI n)
  | [] => rfl
  | x :: n => by
    show (match keyD (.int x), keysT (n.map .int) with | some k, some ks => some (k :: ks) | _, _ => none) = _
    rw [keysT_ints n]
    rfl
theorem keyT_node {n : List Int} : keyT (nodeD n) = some (keyI n) := keysT_ints n
theorem keyTD_I (n : List Int) : keyTD (keyI n) = nodeD n := by
  unfold keyTD keyI nodeD
  rw [List.map_map]
  rfl
theorem keyI_inj : ∀ {n m : List Int}, keyI n = keyI m → n = m
  | [], [], _ => rfl
  | [], _ :: _, h => nomatch h
  | _ :: _, [], h => nomatch h
  | a :: n, b :: m, h => by
    have h : Sum.inl a :: keyI n = Sum.inl b :: keyI m := h
    injection h with h1 h2
    injection h1 with h1
    rw [h1, keyI_inj h2]
theorem eqv_node (n m : List Int) : D.eqv (nodeD n) (nodeD m) = decide (n = m) := eqvAll_ints n m
theorem pl_node {n : List Int} {k : Nat} : (nodeD n).pl (k + 1) = true := by
  show D.plL (n.map .int) k = true
  exact plL_ints k n
theorem plL_nodes (k : Nat) : ∀ ns : List (List Int), D.plL (ns.map nodeD) (k + 1) = true
  | [] => by simp [D.plL]
  | n :: ns => by simp [D.plL, pl_node, plL_nodes k ns]
theorem pl_nodes {ns : List (List Int)} {k : Nat} : (D.lst (ns.map nodeD)).pl (k + 2) = true := by
  show D.plL (ns.map nodeD) (k + 1) = true
  exact plL_nodes k ns
theorem any_node (n : List Int) : ∀ ns : List (List Int), ((ns.map nodeD).any fun z => D.eqv z (nodeD n)) = decide (n ∈ ns)
  | [] => by simp
  | m :: ns => by
    rw [List.map_cons, List.any_cons, any_node n ns, eqv_node]
    by_cases h : m = n
    · simp [h]
    · have h' : ¬ n = m := fun e => h e.symm
      simp [h, h']
theorem eqv_nodes_nil (ns : List (List Int)) : D.eqv (.lst (ns.map nodeD)) (.lst []) = ns.isEmpty := by
  cases ns <;> rfl
theorem lcN_ind {α : Type} (f : α → D) {dg : DTG} {dt : DTT} {de : DTE} {vs : List Nat} {Q : List D → List SV → Prop} (P : List α → List D → List SV → Prop) (h0 : ∀ acc ρ, P [] acc ρ → Q acc ρ)
    (hs : ∀ a as acc ρ (N : List D → List SV → Prop), P (a :: as) acc ρ → (∀ acc' ρ', P as acc' ρ' → N acc' ρ') → dg (f a) ρ fun ρ1 => dt ρ1 (fun k ρ2 => if k = true then de ρ2 (fun y ρ3 => stab y ρ3 fun c ρ4 => acc.length < sizeLine ∧ N (acc ++ [c]) (wipeD ρ4 vs)) (fun _ _ => False) else N acc (wipeD ρ2 vs)) (fun _ _ => False)) :
    ∀ xs acc ρ, P xs acc ρ → dLcN dg dt de vs Q (xs.map f) acc ρ
  | [], acc, ρ, h => h0 acc ρ h
  | a :: as, acc, ρ, h => hs a as acc ρ _ h fun acc' ρ' h' => lcN_ind f P h0 hs as acc' ρ' h'
theorem keyD_i {i : Int} : keyD (.int i) = some (.inl i) := rfl
end DW
/-! DWdk: dicts of the memory. -/
namespace DW
open PySem L2
/-- o[k] = e, o a pointer to a dict of the memory -/
def dSetKM (m : Nat) (da dk de : DTE) : DTS := fun De ρ => de ρ (fun z ρ1 => stab z ρ1 fun b ρ2 => da ρ2 (fun x ρ3 => match x with
  | .d (.ptr p) => dk ρ3 (fun w ρ4 => pk ρ4 w fun c => match keyD c with
    | some q => atM ρ4 m fun μ => match μ.lookup p with
      | some (.k kvs) => kvs.length < sizeLine ∧ De.nx (ρ4.set m (.mm (memU μ p (.k (putKD kvs q b)))))
      | _ => False
    | none => False) De.ex
  | _ => False) De.ex) De.ex
theorem d_setKM {X : Cx} {W : WX} (m : Nat) {o ix e : Expr} {pos' pos : Pos} {da dk de : DTE} (hu : X.A.units + 1 < cLine) (ho : DE X W o da) (hk : DE X W ix dk) (he : DE X W e de)
    (hs : swapsWith e (some (.Subscript o ix pos')) pos.line X.env = pure false := by rfl) : DS X W (.Assign [.Subscript o ix pos'] e pos) (dSetKM m da dk de) := by
  refine ps_imp (ps_dput hu ho hk he hs) fun D σ H ⟨F, S, ρ, De, r, h, k1, k2, k3, k4, k5⟩ => ?_
  refine ⟨F, S, ρ, _, _, r, h, fun v x S1 ρ1 H1 g1 r1 vr1 q1 => ?_, fun er cls d S' ρ' H' g' r' => k5 er cls d ρ' σ S' H' g' r'⟩
  obtain ⟨b, S2, ρ2, g2, r2, p2, q2⟩ := VR.stab r1 vr1 q1
  have g12 := g1.trans g2
  refine ⟨F, S2, ρ2, _, _, r2, q2, fun w z S3 ρ3 H3 g3 r3 vr3 q3 => ?_, fun er cls d S' ρ' H' g' r' => k5 er cls d ρ' σ S' H' (g12.trans g') r'⟩
  have g13 := g12.trans g3
  cases z with
  | d a =>
    cases a with
    | ptr p =>
      have vr3 : w = .ref p := vr3
      refine ⟨F, S3, ρ3, _, _, r3, q3, fun w2 z2 S4 ρ4 H4 g4 r4 vr4 q4 => ?_, fun er cls d S' ρ' H' g' r' => k5 er cls d ρ' σ S' H' (g13.trans g') r'⟩
      obtain ⟨c, p4, q5⟩ := VR.pk r4 vr4 q4
      cases kc : keyD c with
      | none => simp only [kc] at q5
      | some q =>
        simp only [kc] at q5
        obtain ⟨μ, e, q6⟩ := atM_ok q5
        cases l : μ.lookup p with
        | none => simp only [l] at q6
        | some oo =>
          cases oo with
          | k kvs =>
            simp only [l] at q6
            obtain ⟨_, _, us, a4, a5⟩ := (r4.memAt e).2 p _ (look_mem l)
            refine ⟨p, _, vr3, by rw [keyD_kV kc p4]; exact DPut.k (k := q) a4 (by rw [a5.length]; exact q6.1), ?_⟩
            exact k1 _ σ S4 _ (g13.trans g4) (r4.setM e l (OR.mkK (a5.put (Rp.mono (g3.trans g4).s p2)))) q6.2
          | _ => simp only [l] at q6
    | _ => exact False.elim q3
  | _ => exact False.elim q3
/-- a field read as other data that stands for the same value -/
theorem RpF.reread {K : PySem.W.Frag} {S : Hp} {f : Str} {d : D} {v : V} (hd : Rp K S d v) : ∀ {fs : List (Str × D)} {ws : List (Str × V)}, RpF K S fs ws → ws.lookup f = some v → RpF K S (putFD f d fs) ws
  | [], ws, h, l => by
    have h : ws = [] := h
    rw [h] at l
    cases l
  | (k, x) :: fs, ws, h, l => by
    obtain ⟨u, us, e, h1, h2⟩ := h
    subst e
    unfold putFD
    by_cases c : k = f
    · rw [if_pos c]
      subst c
      rw [List.lookup_cons, beq_self_eq_true] at l
      cases l
      exact ⟨_, us, rfl, hd, h2⟩
    · rw [if_neg c]
      rw [List.lookup_cons, beq_eq_false_iff_ne.mpr (Ne.symm c)] at l
      exact ⟨u, us, rfl, h1, RpF.reread hd h2 l⟩
/-- a dict of the memory to which a field of an instance points is from now on data -/
theorem R.settle {K : PySem.W.Frag} {F : Fm} {S H : Hp} {ρ : List SV} {σ : St} {m i : Nat} {μ : List (Addr × OO)} {C p : Addr} {fs : List (Str × D)} {f : Str} {kvs : List (Key × D)} (r : R K F S ρ σ H) (hm : ρ[m]? = some (.mm μ)) (hi : ρ[i]? = some (.rf (.i C fs))) (hf : fs.lookup f = some (.ptr p)) (hp : μ.lookup p = some (.k kvs)) :
    ∃ S', Gr F.B S S' ∧ R K F S' ((ρ.set m (.mm (memD μ p))).set i (.rf (.i C (putFD f (.dct kvs) fs)))) σ H := by
  have hmi : m ≠ i := fun z => by
    rw [z, hi] at hm
    cases hm
  obtain ⟨r2, v2⟩ := r.outM hm hp
  obtain ⟨S2, g2, r3, v3, _⟩ := VR.fz r2 v2
  have v3 : Rp K S2 (.dct kvs) (.ref p) := v3
  have hi2 : (ρ.set m (.mm (memD μ p)))[i]? = some (.rf (.i C fs)) := by
    rw [List.getElem?_set_ne hmi]
    exact hi
  obtain ⟨a, ha, hb, hs, dx, ws, e1, e2⟩ := r3.own hi2 rfl
  obtain ⟨v, l1, l2⟩ := (e2.lookup (f := f)).1 _ hf
  have l2 : v = .ref p := l2
  subst l2
  have e3 : upd H a (.ins C dx ws) = H := by
    funext b
    by_cases c : b = a
    · rw [c, upd_same, e1]
    · rw [upd_ne c]
  have r4 := r3.change (u := .ins C dx ws) (o' := .i C (putFD f (.dct kvs) fs)) hi2 rfl ha rfl ⟨dx, ws, upd_same, RpF.reread v3 e2 l1⟩
  rw [e3] at r4
  exact ⟨S2, g2, r4⟩
/-- ahead of the statements that follow, the dict to which a field points is from now on data: no code runs -/
def dSettle (m i : Nat) (f : Str) (d : DTS) : DTS := fun De ρ => match ρ[i]? with
  | some (.rf (.i C fs)) => match fs.lookup f with
    | some (.ptr p) => atM ρ m fun μ => match μ.lookup p with
      | some (.k kvs) => d De ((ρ.set m (.mm (memD μ p))).set i (.rf (.i C (putFD f (.dct kvs) fs))))
      | _ => False
    | _ => False
  | _ => False
theorem d_settle {X : Cx} {W : WX} {sts : List Stmt} {d : DTS} (m i : Nat) (f : Str) (hd : DSs X W sts d) : DSs X W sts (dSettle m i f d) := by
  refine pss_imp hd fun D σ H ⟨F, S, ρ, De, r, h, k1, k2, k3, k4, k5⟩ => ?_
  unfold dSettle at h
  split at h
  · next C fs hi =>
    split at h
    · next p hf =>
      obtain ⟨μ, hm, q⟩ := atM_ok h
      split at q
      · next kvs hp =>
        obtain ⟨S2, g2, r2⟩ := r.settle hm hi hf hp
        exact ⟨F, S2, _, De, r2, q, fun ρ' σ' S' H' g' => k1 ρ' σ' S' H' (g2.trans g'), fun v x ρ' σ' S' H' g' => k2 v x ρ' σ' S' H' (g2.trans g'), fun ρ' σ' S' H' g' => k3 ρ' σ' S' H' (g2.trans g'), fun ρ' σ' S' H' g' => k4 ρ' σ' S' H' (g2.trans g'), fun e cls d ρ' σ' S' H' g' => k5 e cls d ρ' σ' S' H' (g2.trans g')⟩
      · exact q.elim
    · exact h.elim
  · exact h.elim
/-- y.pop(k), y a dict of one's own, k in it -/
def dPopK (i : Nat) (dk : DTE) : DTE := fun ρ Q E => hasK ρ i ∧ dk ρ (fun w ρ1 => pk ρ1 w fun c => match keyD c with
  | some q => atK ρ1 i fun y kvs => match valD kvs q with
    | some x => Q (.d x) (ρ1.set i (y.re (.k (dropKD kvs q))))
    | none => False
  | none => False) E
theorem d_popK {X : Cx} {W : WX} (i : Nat) {y : Str} {py apos cpos : Pos} {ix : Expr} {dk : DTE} (hk : DE X W ix dk)
    (hN : X.N[i]? = some y := by rfl) (hv : Vis X.env.scope y := by first | exact Or.inl rfl | exact Or.inr (Or.inl rfl) | exact Or.inr (Or.inr rfl)) (hd : (y == ("__debug__" : Str)) = false := by decide) (hcd : (y == ("__classdict__" : Str)) = false := by decide)
    (mm : M1 X (.Name y py) "pop" apos ix cpos := by exact ⟨rfl, rfl, rfl, rfl⟩) : DE X W (.Call (.Attribute (.Name y py) "pop" apos) [ix] [] cpos) (dPopK i dk) := by
  refine pe_imp (pe_dpop1 (pv i hN hv hd hcd) hk mm) fun σ H QQ ⟨F, S, ρ, Q, Ee, r, h, kq, ke⟩ => ?_
  obtain ⟨p, vs, e1, e2⟩ := hasK_ok r h.1
  refine ⟨_, e1, p, rfl, .inl ⟨vs, .inl e2⟩, F, S, ρ, _, Ee, r, h.2, fun w z S1 ρ1 H1 g1 r1 vr1 q1 => ?_, ke⟩
  obtain ⟨c, p1, q2⟩ := VR.pk r1 vr1 q1
  cases kc : keyD c with
  | none => simp only [kc] at q2
  | some q =>
    simp only [kc] at q2
    obtain ⟨y1, xs, p', us, c1, c2, c3, c5, c6, q3⟩ := atK_ok r1 q2
    rw [e1] at c3
    cases c3
    cases vc : valD xs q with
    | none => simp only [vc] at q3
    | some a =>
      simp only [vc] at q3
      obtain ⟨v2, l1, l2⟩ := (c6.val (q := q)).1 a vc
      exact ⟨us, q, v2, c5, by rw [keyD_kV kc p1], l1, kq v2 (.d a) S1 _ _ g1 (r1.change c1 c2 e1 rfl (OR.mkK c6.drop)) l2 q3⟩
/-- sorted(d), d's keys whole numbers, fewer than 64 -/
def fSortedK (a : D) (k : DV → Prop) : Prop := match a with
  | .dct kvs => ∃ ks : List Int, kvs.map (·.1) = ks.map Sum.inl ∧ ks.length < 64 ∧ ∀ ys : List Int, ys.Perm ks → ys.Pairwise (· ≤ ·) → k (.fr (.l (ys.map D.int)))
  | _ => False
theorem RpL.intsD {K : PySem.W.Frag} {S : Hp} : ∀ ys : List Int, RpL K S (ys.map D.int) (ys.map V.int)
  | [] => rfl
  | y :: ys => ⟨_, _, rfl, rfl, RpL.intsD ys⟩
theorem d_sortedK {X : Cx} {W : WX} {e : Expr} {p pos : Pos} {da : DTE} (hc : X.calm = true) (hm : X.mg "sorted" = none) (ha : DE X W e da) (hg : Gl X "sorted" := by rfl) (h1 : A1 X e pos := by exact ⟨rfl, rfl⟩) : DE X W (.Call (.Name "sorted" p) [e] [] pos) (dUn fSortedK da) := by
  refine d_b1 (call_sortedDI hc) (fun S H a x Qz QQ sh ha h kq => ?_) hm ha hg (by decide +kernel) (by decide) (by decide) h1
  cases a with
  | dct kvs =>
    obtain ⟨q, ws, ex, hd, hr⟩ := ha
    obtain ⟨ks, e1, e2, h⟩ := h
    exact ⟨q, ws, ks, by rw [ex], hd, hr.keys.trans e1, e2, fun ys l hp hs hl => kq _ _ _ (Res.lst hl (RpL.intsD ys)) (h ys hp hs)⟩
  | _ => exact h.elim
end DW
/-! DWlam: lambdas with parameters: their making (tables of code objects), their call, min by a key of two attributes. -/
namespace DW
open PySem PySem.Spec PyProof.Rows L2
/-- the object at f is o -/
def LamO (f : Addr) (o : Obj) : HO := .ext fun h => h.get? f = some o
section
variable {X : Cx}
/-- the lambda's object -/
abbrev lamObj (q : Str) (params : Arguments) (body : Expr) (scope : Scope) (cl : List (Str × Addr)) (pm : Value) (c' : Addr) (ctv : Value) : Obj := PySem.W.kla_obj "<lambda>" q params body scope cl pm c' ctv
/-- what the making of a lambda leaves: the table grown by a new code object, or as it was -/
def LamStep (H : Hp) (P : Addr) (q : Str) (ps : Array Value) (c' : Addr) (H1 : Hp) : Prop :=
  (H c' = some (LamX.CodeO c' q) ∧ H1 = H) ∨ ∃ ps' : Array Value, H c' = none ∧ c' ≠ P ∧ TriplesOk ps'.toList ∧ (∀ pos cv, codeAmong pos ps'.toList = some cv → codeAmong pos ps.toList = some cv ∨ cv = .ref c') ∧ H1 = upd (upd H P (.tbl ps')) c' (LamX.CodeO c' q)
def tLamN (P : Addr) (q : Str) (ob : Value → Addr → Value → Obj) : TE := fun σ H Q => ∃ ps : Array Value, H P = some (.tbl ps) ∧ TriplesOk ps.toList ∧ (∀ (pos : Pos) (cv : Value), codeAmong pos ps.toList = some cv → ∃ c, cv = .ref c ∧ H c = some (LamX.CodeO c q)) ∧
  ∀ (f c' : Addr) (pm ctv : Value) (H1 : Hp), LamStep H P q ps c' H1 → H1 f = none → Q (.ref f) (upd H1 f (LamO f (ob pm c' ctv)))
theorem pe_lamN {c P : Addr} {params : Arguments} {body : Expr} {scope : Scope} {pos : Pos} {cl : List (Str × Addr)} (TB : LamX.TabB X.base X.mg c P) (hcode : X.env.code = .ref c) (hdef : defaultsOf params X.env = ([], []) := by rfl)
    (hfree : ∀ y ∈ scope.names, y.2 = .free → X.env.scope.names.lookup y.1 = some .cell ∨ X.env.scope.names.lookup y.1 = some .free) (hcl : L2.cloFrom X.env.cells scope.names [] = cl) :
    PE X (.Lambda params body scope pos) (tLamN P (X.env.qual ++ "<lambda>") fun pm c' ctv => lamObj (X.env.qual ++ "<lambda>") params body scope cl pm c' ctv) := by
  subst hcl
  refine ⟨fun pins s σ H Q I ⟨ps, hP, ht, ha, hQ⟩ => PySem.W.kla_eval hdef ?_⟩
  have hfr : ∀ y ∈ scope.names, y.2 = .free → ∃ c, X.env.cells.lookup y.1 = some c := fun y hy e => (hfree y hy e).elim (fun z => I.ok.has _ (.inl z)) fun z => I.ok.has _ (.inr z)
  have bP := TB.bm.keeps I.bk
  have oP := I.hok P _ hP
  -- the function's object, pushed on the heap, is known
  have known : ∀ {H1 : Hp} {h1 : Heap} {t t' : Nat} {o : Obj}, o.isFreed = false → Inv X pins σ H1 { s with heap := h1, toks := t } → Inv X pins σ (upd H1 h1.objs.size (LamO h1.objs.size o)) { s with heap := h1.push o, toks := t' } := fun {H1 h1 t t' o} of J => by
    refine J.laid (a := h1.objs.size) (t' := t') (fun b u e => Heap.get?_push_of_some _ e) (Nat.le_refl _) ?_
    have e := Heap.get?_push_size h1 (o := o) of
    exact ⟨e, ⟨_, e⟩, fun h1 h2 z st => st _ z⟩
  cases hc : codeAmong pos ps.toList with
  | some cv =>
    obtain ⟨c', rfl, hco⟩ := ha pos cv hc
    refine PySem.W.kla_makeFunctionHit (mg := X.mg) (c := c) (P := P) (ps := ps) (L2.closure_ok hfr) I.ok.glob (I.mod.glob.keeps I.bk) hcode (TB.code.keeps I.bk) oP ht hc bP fun ctv h' tk hx hsz => ?_
    have J : Inv X pins σ H { s with heap := h', toks := tk } := I.kept hx
    exact ⟨.ref h'.objs.size, _, known rfl J, rfl, hQ _ c' _ ctv H (.inl ⟨hco, rfl⟩) (I.hok.fresh hsz)⟩
  | none =>
    refine PySem.W.kla_makeFunction (mg := X.mg) (c := c) (P := P) (ps := ps) (L2.closure_ok hfr) I.ok.glob (I.mod.glob.keeps I.bk) hcode (TB.code.keeps I.bk) oP ht hc TB.gP bP fun c' ctv h' tk hx hge hlt hrec htb => ?_
    obtain ⟨c2, oc, vs, t, e2, hoc, hd, hv⟩ := hrec
    cases e2
    have nC : H c' = none := I.hok.fresh hge
    have J := LamX.inv_table (t' := tk) (q := X.env.qual ++ "<lambda>") I hP (fun b o hb e => hx b o hb e) htb hge ⟨oc, vs, t, hoc, hd, hv⟩
    have eL : (ps ++ #[rawInt pos.line, rawInt pos.col, .ref c']).toList = ps.toList ++ [rawInt pos.line, rawInt pos.col, .ref c'] := by simp
    refine ⟨.ref h'.objs.size, _, known rfl J, rfl, hQ _ c' _ ctv _ (.inr ⟨_, nC, fun z => ?_, by rw [eL]; exact PySem.TriplesOk_snoc _ _ _ _ ht, fun p' cv hcv => LamX.among_app _ ht (eL ▸ hcv), rfl⟩) ?_⟩
    · rw [z, hP] at nC
      cases nC
    · have n1 : h'.objs.size ≠ c' := Nat.ne_of_gt hlt
      have n2 : h'.objs.size ≠ P := Nat.ne_of_gt (Nat.lt_of_lt_of_le (Heap.lt_size oP) (Nat.le_trans hge (Nat.le_of_lt hlt)))
      rw [upd_ne n1, upd_ne n2]
      exact I.hok.fresh (Nat.le_trans hge (Nat.le_of_lt hlt))
end
/-- a lambda called -/
theorem lam_call {CX : CXT} {P : Program} {w : World} {K : PySem.W.Frag} {mg : Str → Option Value} {base : Heap} {N ps fr : List Str} {q : Str} {params : Arguments} {body : Expr} {scope : Scope} {cl : List (Str × Addr)} {pm ctv : Value} {f c' : Addr} {k : Nat} {A : Around} {outer : List Env} {s : Shared} {H : Hp} {us : List Value} {vs : List V} {ws : List (Option V)} {Q : VK} {E : XK}
    (S : NdefX.NScope N ps fr scope) (hf : H f = some (LamO f (lamObj q params body scope cl pm c' ctv))) (hc : H c' = some (LamX.CodeO c' q)) (hr : Room (k + 1) A) (e0 : Env0 P w K mg base A outer s H) (C : NdefX.CellsAt cl fr ws s.heap H) (r : Vals vs us) (hl : vs.length = ps.length)
    (hb : bindArgs (PySem.W.kla_fn "<lambda>" q params body scope cl pm (.ref c') ctv) ⟨us, []⟩ = pure (ps.zip us))
    (hbody : Room k (A.deeper (NdefX.envF ⟨"<lambda>", q, params, [], scope, cl, c'⟩ f s.heap.objs.size)) → ∃ t, PE (NdefX.ncx CX P w K mg base N ⟨"<lambda>", q, params, [], scope, cl, c'⟩ f A outer s H E) body t ∧ t (NdefX.startF N vs ws) H Q) :
    codeAny (model P w) A (.call (.ref f) ⟨us, []⟩) (CR CX outer P w H s Q E) s := by
  have lim : s.heap.NoLimit := e0.mod.nolimit.keeps fun b o e => (e0.bs b o e).1
  have ho : s.heap.get? f = some (lamObj q params body scope cl pm c' ctv) := (e0.hok f _ hf).1
  refine PySem.W.kla_callFunE hr.depth ho rfl S.co S.gen rfl (NdefX.codeO_at e0.hok hc) ?_
  rw [hb]
  refine wpAny_pure (wpAny_newFunctionEnv S.nocell (fun ⟨n, _⟩ hy => S.par n (List.of_mem_zip hy).1) (fun h₁ hns hsb => ⟨lim.fresh _ hsb, ?_⟩) S.kind)
  have kp : ∀ b o, s.heap.get? b = some o → h₁.get? b = some o := fun b o e => hsb.extBut b o (Nat.ne_of_lt (Heap.lt_size e)) (Heap.get?_push_of_some _ e)
  obtain ⟨t, ht, hq⟩ := hbody (hr.deeper _)
  have J : Inv (NdefX.ncx CX P w K mg base N ⟨"<lambda>", q, params, [], scope, cl, c'⟩ f A outer s H E) [] (NdefX.startF N vs ws) H { s with heap := h₁, toks := s.toks + (ps.zip us).length } := NdefX.inv_startN (F := ⟨"<lambda>", q, params, [], scope, cl, c'⟩) S hr.hd e0 hl r C hns kp
  refine PySem.W.kla_codeExpr (wpAny_mono (ht.run [] _ _ H Q J hq) (fun v s' z => ?_) fun e s' z => z)
  obtain ⟨w', H', J', rv, z⟩ := z
  exact ⟨w', H', J'.os, J'.bare, J'.base, J'.hok, rv, z⟩
end DW
/-! DWmin: min(xs, key=lambda x: (x.f, x.g)), the rule in the layer's words. -/
namespace DW
open PySem PySem.Spec PyProof.Rows L2
abbrev Sto := L2.St
/-- a key as data -/
abbrev keyP (w : Int) (n : List Int) : PyData := .tuple [.int w, .list (n.map .int)]
theorem pyLK_ints : ∀ ns : List Int, D.pyL (ns.map D.int) = ns.map PyData.int
  | [] => rfl
  | n :: ns => by
    show PyData.int n :: D.pyL (ns.map D.int) = PyData.int n :: ns.map .int
    rw [pyLK_ints ns]
theorem alikeK_ints : ∀ xs ys : List Int, PySem.W.alikeAll (xs.map .int) (ys.map .int) = true
  | [], _ => by simp [PySem.W.alikeAll]
  | _ :: _, [] => by simp [PySem.W.alikeAll]
  | x :: xs, y :: ys => by
    simp only [List.map_cons, PySem.W.alikeAll, PySem.W.alike, Bool.true_and]
    exact alikeK_ints xs ys
theorem alike_key (w v : Int) (n m : List Int) : PySem.W.alike (keyP w n) (keyP v m) = true := by
  simp only [keyP, PySem.W.alike, PySem.W.alikeAll, alikeK_ints, Bool.true_and, Bool.and_true]
theorem depthK_ints : ∀ xs : List Int, PyData.depthAll (xs.map .int) = 0
  | [] => rfl
  | x :: xs => by
    simp only [List.map_cons, PyData.depthAll, PyData.depth, depthK_ints xs]
    rfl
theorem depth_key (w : Int) (n : List Int) : (keyP w n).depth ≤ 2 := by
  simp only [keyP, PyData.depth, PyData.depthAll, depthK_ints]
  omega
theorem readsK_ints {h : Heap} : ∀ {ns : List Int} {us : List Value}, Vals (ns.map V.int) us → ReadsAll h us (ns.map .int) []
  | [], _, r => by cases r; exact .nil
  | n :: ns, _, r => by
    cases r with
    | cons a b =>
      obtain ⟨t, rfl⟩ := a
      exact .cons (as := []) (bs := []) (.int n t) (readsK_ints b)
/-- the tuple (w, the list at a) stands at p -/
def TupAt (h : Heap) (p : Addr) (w : Int) (a : Addr) : Prop := ∃ t, IsTup h p #[.int w t, .ref a]
theorem tupAt_of {h : Heap} {p : Addr} {w : Int} {a : Addr} {its : List Value} (r : Vals [V.int w, V.ref a] its) (i : IsTup h p its.toArray) : TupAt h p w a := by
  cases r with
  | cons r1 r2 =>
    cases r2 with
    | cons r3 r4 =>
      cases r4
      obtain ⟨t, rfl⟩ := r1
      obtain rfl := (show _ = Value.ref a from r3)
      exact ⟨t, i⟩
theorem refs_same : ∀ {vs : List V} {us ws : List Value}, (∀ v ∈ vs, ∃ b, v = .ref b) → Vals vs us → Vals vs ws → us = ws
  | [], _, _, _, r, q => by cases r; cases q; rfl
  | v :: vs, _, _, h, r, q => by
    cases r with
    | cons r1 r2 =>
      cases q with
      | cons q1 q2 =>
        obtain ⟨b, rfl⟩ := h v List.mem_cons_self
        obtain rfl := (show _ = Value.ref b from r1)
        obtain rfl := (show _ = Value.ref b from q1)
        rw [refs_same (fun v hv => h v (List.mem_cons_of_mem _ hv)) r2 q2]
/-- H' is H with some keys beside -/
def KeyT (H H' : Hp) : Prop := Same H H' ∧ ∀ b u, H b = none → H' b = some u → ∃ (w : Int) (a : Addr), u = .tup [.int w, .ref a]
theorem KeyT.refl (H : Hp) : KeyT H H := ⟨Same.refl H, fun b u h k => by rw [h] at k; cases k⟩
theorem KeyT.add {H H' : Hp} {p a : Addr} {w : Int} (k : KeyT H H') (h : H' p = none) : KeyT H (upd H' p (.tup [.int w, .ref a])) := by
  refine ⟨fun c u e => ?_, fun b u hb e => ?_⟩
  · have e' := k.1 c u e
    rw [upd_ne (ne_of_none e' h)]
    exact e'
  · by_cases hp : b = p
    · rw [hp, upd_same] at e
      cases e
      exact ⟨w, a, rfl⟩
    · rw [upd_ne hp] at e
      exact k.2 b u hb e
section
variable {X : Cx} {pins : List (Addr × Obj)} {σ : Sto} {H H' : Hp} {s s' : Shared}
/-- records of ours, untracked, have turned -/
theorem Inv_moved {fp : List Addr} (I : Inv X pins σ H s) (hm : Moved fp (fun a b => b = a) s s') (hf : ∀ b ∈ fp, FpOk X pins H b) : Inv X pins σ H s' := by
  rw [Moved.eq_with hm]
  have k := hm.heap
  have nf : ∀ b u, H b = some u → b ∉ fp := fun b u e z => by
    rw [(hf b z).1] at e
    cases e
  refine I.step (g' := s.gens) (d' := s.drawn) (ch := fp) (fun b hb => ⟨(hf b hb).2.2.2.1, (hf b hb).2.1, (hf b hb).2.2.2.2.1, (hf b hb).2.2.2.2.2⟩) (fun b o _ _ hc e _ => k b o hc e) (fun b o _ _ hc e _ => ⟨o.slots, k b o hc e⟩) (fun _ _ _ _ n => n)
    (fun b o hc e => ⟨o, k b o hc e⟩) (fun _ _ e => e) (fun _ _ _ e => e) (fun b ps e => ⟨#[], by rw [e]; simp⟩) (fun m hmm => ?_) (fun b u e => ?_) I.bare
  · obtain ⟨o, es, ep, ho, r⟩ := hmm
    exact ⟨o, es, ep, k _ o (fun z => (hf _ z).2.1 rfl) ho, r⟩
  · refine (I.hok b u e).stay (fun c v hc q => k c v ?_ q) (fun _ q => q) fun _ _ q => q
    rcases hc with z | z
    · rw [z]; exact nf b u e
    · exact nf c _ z
end
/-- what min by such a key asks: the list at p of instances, each with a number and a list of numbers -/
def KeysAt (H : Hp) (C : Addr) (f1 f2 : Str) (vs : List V) (kw : Nat → Int) (ka : Nat → Addr) (kn : Nat → List Int) : Prop :=
  ∀ (i : Nat) (v : V), vs[i]? = some v → ∃ b dx ws, v = .ref b ∧ H b = some (.ins C dx ws) ∧ ws.lookup f1 = some (.int (kw i)) ∧ ws.lookup f2 = some (.ref (ka i)) ∧ H (ka i) = some (.lst ((kn i).map V.int))
/-- the place of the first least one -/
def bestAt (kw : Nat → Int) (kn : Nat → List Int) (n : Nat) : Nat := argBest (fun i j => PySem.W.dataLt (keyP (kw i) (kn i)) (keyP (kw j) (kn j))) (n - 1)
def rMinKey (K : PySem.W.Frag) (C : Addr) (f1 f2 : Str) (q : Str) (ob : Value → Addr → Value → Obj) : List V → List V → Hp → VK → Prop := fun xs zs H Q =>
  ∃ (p f c' : Addr) (pm ctv : Value) (vs : List V) (kw : Nat → Int) (ka : Nat → Addr) (kn : Nat → List Int), xs = [.ref p] ∧ zs = [.ref f] ∧ H p = some (.lst vs) ∧ H f = some (LamO f (ob pm c' ctv)) ∧ H c' = some (LamX.CodeO c' q) ∧ 0 < vs.length ∧ KeysAt H C f1 f2 vs kw ka kn ∧
    ∀ v H', vs[bestAt kw kn vs.length]? = some v → Same H H' → Q v H'
section
variable {X : Cx} {C : Addr} {f1 f2 x : Str} {params : Arguments} {scope : Scope} {p1 p2 p3 p4 p5 : Pos} {n5 : Nat} {k : Nat} {q : Str}
theorem cr_minKey (hr : Room (k + 2) X.A) (S : NdefX.NScope [x] [x] [] scope) (c : Cls X.K C) (n1 : NoAttr X.K C f1) (n2 : NoAttr X.K C f2)
    (hb : ∀ (pm cv ctv : Value) (u : Value), bindArgs (PySem.W.kla_fn "<lambda>" q params (.Tuple [.Attribute (.Name x p1) f1 p2, .Attribute (.Name x p3) f2 p4] n5 p5) scope [] pm cv ctv) ⟨[u], []⟩ = pure [(x, u)])
    (hx : scope.names.lookup x = some .local) (hd : (x == ("__debug__" : Str)) = false := by decide) (hcd : (x == ("__classdict__" : Str)) = false := by decide)
    (hb1 : ∀ env : Env, attributeBase (.Name x p1) f1 env (eval (.Name x p1) env) = eval (.Name x p1) env := by intro _; rfl) (hb2 : ∀ env : Env, attributeBase (.Name x p3) f2 env (eval (.Name x p3) env) = eval (.Name x p3) env := by intro _; rfl) :
    CallRK X (.builtin "min") ["key"] (rMinKey X.K C f1 f2 q fun pm c' ctv => lamObj q params (.Tuple [.Attribute (.Name x p1) f1 p2, .Attribute (.Name x p3) f2 p4] n5 p5) scope [] pm c' ctv) := by
  intro pins s σ H xs zs us ws Q I r1 r2 h
  obtain ⟨p, f, c', pm, ctv, vs, kw, ka, kn, rfl, rfl, hp, hf, hc, hne, hk, hq⟩ := h
  rw [Vals.ref1 r1, Vals.ref1 r2]
  obtain ⟨hz, its, n, rv, ho⟩ := I.hok p _ hp
  have hln := rv.length
  have hl : s.heap.IsList p its.toArray := ⟨_, ho, rfl, n, rfl⟩
  have hlt : p < s.heap.objs.size := Heap.lt_size ho
  have isRef : ∀ v ∈ vs, ∃ b, v = V.ref b := fun v hv => by
    obtain ⟨i, e⟩ := List.mem_iff_getElem?.mp hv
    obtain ⟨b, _, _, e1, _⟩ := hk i v e
    exact ⟨b, e1⟩
  -- the item and what it stands for
  have itemAt : ∀ {i : Nat} {v : Value}, its.toArray[i]? = some v → ∃ y, vs[i]? = some y ∧ RelV y v := fun {i v} e => by
    have e : its[i]? = some v := by simpa using e
    have hi : i < its.length := (List.getElem?_eq_some_iff.mp e).1
    obtain ⟨u, e2, r⟩ := rv.get (i := i) (x := vs[i]'(by omega)) (List.getElem?_eq_getElem _)
    rw [e] at e2
    cases e2
    exact ⟨_, List.getElem?_eq_getElem _, r⟩
  show wpAny _ _ (call (.builtin "min") [.ref p] [(Str.ofString "key", .ref f)]) _ _ s
  refine call_min_walkK (wpAny_pyIter_list hl ?_)
  have nI : H s.heap.objs.size = none := I.hok.fresh (Nat.le_refl _)
  have nS : H (s.heap.objs.size + 1) = none := I.hok.fresh (Nat.le_succ _)
  have old : ∀ {b : Addr}, s.heap.objs.size ≤ b → b ∉ frs X.stack := fun {b} hb z => by
    rcases List.mem_cons.mp (I.stkSub b z) with e | e
    · exact absurd (Nat.lt_of_lt_of_le I.lt hb) (by rw [e]; exact Nat.lt_irrefl _)
    · exact I.nofs hb e
  refine ⟨s.heap.objs.size, [s.heap.objs.size, p], [s.heap.objs.size], _, its.toArray.size, _, _,
    (fun s1 => ∃ H', Inv X pins σ H' s1 ∧ KeyT H H' ∧ H' s.heap.objs.size = none ∧ H' (s.heap.objs.size + 1) = none),
    (fun i kv s1 => ∃ b, kv = .ref b ∧ TupAt s1.heap b (kw i) (ka i) ∧ H b = none ∧ b ∉ frs X.stack ∧ b ≠ s.heap.objs.size ∧ b ≠ s.heap.objs.size + 1 ∧ H (ka i) = some (.lst ((kn i).map V.int))), (fun i j => PySem.W.dataLt (keyP (kw i) (kn i)) (keyP (kw j) (kn j))),
    rfl, (Walks.list (A := X.A.in1) hr.hd _ p (Nat.ne_of_lt hlt) its.toArray).toS, ⟨⟨_, Heap.get?_push_size _ rfl, rfl, rfl⟩, hl.push _⟩, fun b hb => ?_, by rw [List.size_toArray]; omega, ?_, ?_, fun v s1 hv hJ => ?_⟩
  · rw [Heap.size_push]
    rcases List.mem_cons.mp hb with z | z
    · rw [z]; exact Nat.lt_succ_self _
    · rw [List.mem_singleton.mp z]; exact Nat.lt_succ_of_lt hlt
  · rw [Heap.size_push]
    refine ⟨fun s1 s2 ⟨H', J, kt, h1, h2⟩ hm => ⟨H', Inv_moved J hm fun b hb => ?_, kt, h1, h2⟩, fun i kv s1 s2 ⟨b, e, ⟨t, o, e1, e2⟩, b1, b2, b3, b4, b5⟩ hm => ⟨b, e, ⟨t, o, hm.heap b o (by simp; exact ⟨b4, b3⟩) e1, e2⟩, b1, b2, b3, b4, b5⟩, fun i v s1 o Q' E' hi hv ⟨H', J, kt, h1, h2⟩ st hS hQ' => ?_, fun i j ki kj s1 Q' E' ⟨H', J, kt, _⟩ ⟨b, e, ⟨t, o, e1, e2, m, e3⟩, _, _, _, _, b5⟩ ⟨d, e', ⟨t', o', e1', e2', m', e3'⟩, _, _, _, _, d5⟩ hQ' => ?_⟩
    · rcases List.mem_cons.mp hb with z | z
      · rw [z]; exact I.fpOk (Nat.le_succ _) h2
      · rw [List.mem_singleton.mp z]; exact I.fpOk (Nat.le_refl _) h1
    · obtain ⟨y, hy, ry⟩ := itemAt hv
      obtain ⟨b, dx, fs, rfl, hb1', l1, l2, l3⟩ := hk i y hy
      obtain rfl : v = Value.ref b := ry
      have C0 : NdefX.CellsAt [] [] [] s1.heap H' := ⟨rfl, (fun _ _ z => nomatch z), (fun _ _ _ z => nomatch z), fun i y z => nomatch (show (none : Option Str) = some y from z)⟩
      refine wpAny_call (codeAny_mono (lam_call (CX := C8.CX0) (K := X.K) (mg := X.mg) (base := X.base) (N := [x]) (fr := []) (ws := []) (vs := [.ref b]) (E := fun _ _ _ => False) (Q := fun v H2 => ∃ p0, v = .ref p0 ∧ H' p0 = none ∧ H2 = upd H' p0 (.tup [.int (kw i), .ref (ka i)])) S (kt.1 _ _ hf) (kt.1 _ _ hc) hr.in1 J.env0.in1 C0 (.cons rfl .nil) rfl (hb _ _ _ _) fun _ => ⟨_, pe_tup (pa_cons (pe_fld (pe_var (i := 0) rfl (.inl hx) hd hcd) (hb1 _)) (pa_cons (pe_fld (pe_var (i := 0) rfl (.inl hx) hd hcd) (hb2 _)) pa_nil)), ?_⟩) fun r s2 z => ?_)
      · exact ⟨.ref b, rfl, b, C, dx, fs, _, rfl, kt.1 _ _ hb1', c, n1, l1, .ref b, rfl, b, C, dx, fs, _, rfl, kt.1 _ _ hb1', c, n2, l2, (by show 2 ≤ sizeLine; decide), fun p0 hp0 => ⟨p0, rfl, hp0, rfl⟩⟩
      · cases r with
        | error e => exact (show False from z).elim
        | ok fl =>
          cases fl with
          | next => exact False.elim z
          | brk => exact False.elim z
          | cont => exact False.elim z
          | ret u =>
            obtain ⟨w, H2, os, bare, un, hok, rw', p0, rfl, hp0, rfl⟩ := z
            obtain rfl : u = Value.ref p0 := rw'
            have J2 : Inv X pins σ (upd H' p0 (.tup [.int (kw i), .ref (ka i)])) s2 := J.call' os un hok bare fun b z => by simp at z
            have kt2 : KeyT H (upd H' p0 (.tup [.int (kw i), .ref (ka i)])) := kt.add hp0
            have there1 : ∀ {a : Addr} {o : Obj}, s1.heap.get? a = some o → H' a = none → a ∉ frs X.stack → s2.heap.get? a = some o ∧ upd H' p0 (.tup [.int (kw i), .ref (ka i)]) a = none := fun {a o} e n hle => ⟨un.keep a o e n hle (by simp), un.free a o e n (by simp)⟩
            obtain ⟨⟨oI, eI, dI⟩, hL⟩ := st
            have kI := there1 eI h1 (old (Nat.le_refl _))
            have kS := there1 hS h2 (old (Nat.le_succ _))
            have hH : H p0 = none := by
              cases q : H p0 with
              | none => rfl
              | some u => rw [kt.1 _ _ q] at hp0; cases hp0
            obtain ⟨_, its2, n2', rv2, ho2⟩ := J2.hok p _ (kt2.1 _ _ hp)
            have es := refs_same isRef rv rv2
            subst es
            have tp : TupAt s2.heap p0 (kw i) (ka i) := by
              obtain ⟨_, us0, r0, i0⟩ := J2.hok p0 _ upd_same
              exact tupAt_of r0 i0
            have np0 : ∀ {a : Addr}, upd H' p0 (.tup [.int (kw i), .ref (ka i)]) a = none → p0 ≠ a := fun {a} e z => by
              rw [← z, upd_same] at e
              cases e
            have lp0 : p0 ∉ frs X.stack := fun z => by
              obtain ⟨_, o0, g0, _⟩ := J.stack.mem z
              have := un.free p0 o0 g0 hp0 (by simp)
              rw [upd_same] at this
              cases this
            refine hQ' _ s2 ⟨_, J2, kt2, kI.2, kS.2⟩ ⟨⟨oI, kI.1, dI⟩, ⟨_, ho2, rfl, _, rfl⟩⟩ kS.1 ⟨p0, rfl, tp, hH, lp0, np0 kI.2, np0 kS.2, l3⟩ fun j k' ⟨b', e', ⟨t', o', g1, g2, m', g3⟩, q1, q2, q3, q4, q5⟩ => ⟨b', e', ?_, q1, q2, q3, q4, q5⟩
            cases q : H' b' with
            | none => exact ⟨t', o', (there1 g1 q q2).1, g2, m', g3⟩
            | some u =>
              obtain ⟨w', a', rfl⟩ := kt.2 b' u q1 q
              have z1 := un.tups b' _ q
              obtain ⟨_, us1, r1', o1, x1, x2, x3, x4⟩ := J.hok b' _ q
              obtain ⟨_, us2, r2', i2⟩ := J2.hok b' _ z1
              have ed : us1.toArray = #[.int (kw j) t', .ref (ka j)] := by
                rw [g1] at x1
                cases x1
                rw [g3] at x4
                cases x4
                rfl
              have ee : w' = kw j ∧ a' = ka j := by
                have hu : us1 = [.int (kw j) t', .ref (ka j)] := by
                  have := congrArg Array.toList ed
                  simpa using this
                subst hu
                cases r1' with
                | cons y1 y2 =>
                  cases y2 with
                  | cons y3 y4 =>
                    obtain ⟨tt, y1⟩ := y1
                    cases y1
                    cases y3
                    exact ⟨rfl, rfl⟩
              rw [← ee.1, ← ee.2]
              exact tupAt_of r2' i2
    · have rd : ∀ {b : Addr} {t : Tok} {o : Obj} {m : Nat} {a : Addr} {w : Int} {ns : List Int}, s1.heap.get? b = some o → o.cls = .type "tuple" → o.data = .seq #[.int w t, .ref a] m → H a = some (.lst (ns.map V.int)) → ∃ as, Reads s1.heap (.ref b) (keyP w ns) as := fun {b t o m a w ns} g1 g2 g3 g4 => by
        obtain ⟨_, us, n3, r3, o3⟩ := J.hok a _ (kt.1 _ _ g4)
        exact ⟨_, .tuple g1 g2 g3 (.cons (.int w t) (.cons (.list o3 rfl rfl (by simpa using readsK_ints r3)) .nil))⟩
      obtain ⟨as, ra⟩ := rd e1 e2 e3 b5
      obtain ⟨bs, rb⟩ := rd e1' e2' e3' d5
      rw [e, e']
      refine PySem.W.rcLt_alike _ _ X.A.in1 s1 _ _ as bs ra rb (alike_key _ _ _ _) (fun z => nomatch z) ?_ _ _ _ _ hQ'
      have h1 := depth_key (kw i) (kn i)
      have h2 := hr.in1.units
      omega
  · exact ⟨H, I.kept fun b u e => Heap.get?_push_of_some _ e, KeyT.refl H, nI, nS⟩
  · obtain ⟨y, hy, ry⟩ := itemAt hv
    obtain ⟨H', J, kt, _⟩ := hJ
    refine ⟨y, H', J, ry, hq y H' ?_ kt.1⟩
    rw [List.size_toArray, ← hln] at hy
    exact hy
end

/-! ### l.remove(x) of an instance: the first one that is it -/
/-- a class without == and != of its own -/
structure CmpC (K : PySem.W.Frag) (C : Addr) : Prop where
  ex : ∃ (nm qn : Str) (N : Addr) (bs : List Value) (sn : List Str) (sub : List Value) (ab : Bool) (col : Option Bool) (dd : Option Addr) (m0 m1 m2 m3 m5 : Option Value) (o : Obj) (es : Array DictEntry) (ep : Nat),
    K.lookup C = some (excClassObj nm qn C N bs [.type "object"] true sn sub ab col dd m0 m1 m2 m3 m5 "object.__new__") ∧ K.lookup N = some o ∧ o.data = .dict es ep ∧ StrKeys es ∧ nsFind es "__eq__" = none ∧ nsFind es "__ne__" = none
theorem CmpC.inst {K : PySem.W.Frag} {C : Addr} (c : CmpC K C) {h : Heap} (kin : K.In h) {x dx : Addr} (e : h.get? x = some (PySem.W.instObj C dx)) : h.CmpInst x C [.type "object"] := by
  obtain ⟨nm, qn, N, bs, sn, sub, ab, col, dd, m0, m1, m2, m3, m5, o, es, ep, h1, h2, h3, h4, h5, h6⟩ := c.ex
  exact ⟨_, nm, qn, N, bs, true, sn, sub, ab, col, dd, m0, m1, m2, m3, m5, "object.__new__", nsFind es, e, rfl, kin _ _ h1, ⟨o, es, ep, kin _ _ h2, h3, h4, fun _ => rfl⟩, h5, h6⟩
theorem inst_eqAt {K : PySem.W.Frag} {C D : Addr} (c : CmpC K C) (d : CmpC K D) {A : Around} {s : Shared} (kin : K.In s.heap) {x y dx dy : Addr} (ex : s.heap.get? x = some (PySem.W.instObj C dx)) (ey : s.heap.get? y = some (PySem.W.instObj D dy)) (hu : A.units < cLine) :
    SeqAt.EqAt A s (.ref x) (.ref y) (decide (x = y)) := by
  by_cases e : x = y
  · subst e
    rw [decide_eq_true rfl]
    exact SeqAt.EqAt.same _
  · rw [decide_eq_false e]
    refine SeqAt.EqAt.of_refs e fun prog w E Q hq => ?_
    obtain ⟨h, g, dr, t, os⟩ := s
    exact richCompare_eq_other F.cmp_object F.cmp_object (c.inst kin ex) (d.inst kin ey) e hu hq
/-- the place of the first cell that is y -/
def rRemI (C : Addr) : V → List V → Hp → VK → Prop := fun x xs H Q => ∃ (l b : Addr) (vs : List V) (j : Nat), x = .ref l ∧ xs = [.ref b] ∧ H l = some (.lst vs) ∧ vs[j]? = some (.ref b) ∧ (∀ i, i < j → vs[i]? ≠ some (.ref b)) ∧
  (∀ v ∈ vs, ∃ a dx ws, v = .ref a ∧ H a = some (.ins C dx ws)) ∧ Q .non (upd H l (.lst (vs.eraseIdx j)))
theorem mt_remI {X : Cx} {C : Addr} (hu : X.A.units + 1 < cLine) (c : CmpC X.K C) : MtR X "list.remove" (rRemI C) := by
  intro pins s σ H x xs v us Q I rx r h
  obtain ⟨l, b, vs, j, rfl, rfl, hl, hj, hno, hv, hq⟩ := h
  obtain rfl : v = Value.ref l := rx
  rw [Vals.ref1 r]
  obtain ⟨z, its, n, rv, hln, e0⟩ := I.lstM hl
  have at_ : ∀ (i : Nat) (hi : i < its.length), ∃ a dx, its[i] = .ref a ∧ vs[i]? = some (.ref a) ∧ s.heap.get? a = some (PySem.W.instObj C dx) := fun i hi => by
    have hi2 : i < vs.length := by omega
    obtain ⟨a, dx, ws, e1, e2⟩ := hv vs[i] (List.getElem_mem hi2)
    obtain ⟨u, e3, r3⟩ := rv.get (List.getElem?_eq_getElem hi2)
    rw [e1] at r3
    obtain rfl : u = Value.ref a := r3
    rw [List.getElem?_eq_getElem hi] at e3
    exact ⟨a, dx, Option.some.inj e3, by rw [List.getElem?_eq_getElem hi2, e1], (I.hok a _ e2).2.2.2.1⟩
  have hjl : j < its.length := by
    have := (List.getElem?_eq_some_iff.mp hj).1
    omega
  obtain ⟨b', dxb, eb, eb2, ob⟩ := at_ j hjl
  rw [hj] at eb2
  cases eb2
  have hsz : its.toArray.size ≤ sizeLine := by rw [List.size_toArray, ← hln]; exact z
  refine call_meets PySem.F.slot_list_remove ⟨_, e0, rfl⟩ PySem.F.entry_list_remove (PySem.F.args_list_remove_2 _ _)
    (SeqAt.list_removeAt l its.toArray n none #[] (.ref b) (fun y => decide (y = .ref b)) j (by rw [List.size_toArray]; exact hjl) ?hit (fun i hi hlt => ?hno) hsz) ⟨e0, fun y hy => ?eq, ?q⟩
  case hit =>
    show decide (its[j] = Value.ref b) = true
    rw [eb]
    simp
  case hno =>
    have hi3 : i < its.length := by rw [List.size_toArray] at hi; exact hi
    show decide (its[i] = Value.ref b) = false
    obtain ⟨a, _, ea, ea2, _⟩ := at_ i hi3
    rw [ea]
    refine decide_eq_false fun w => hno i hlt ?_
    cases w
    exact ea2
  case eq =>
    obtain ⟨i, hi, rfl⟩ := List.getElem_of_mem (by simpa using hy : y ∈ its)
    obtain ⟨a, dxa, ea, _, oa⟩ := at_ i hi
    rw [ea]
    have q := inst_eqAt c c (A := X.A.in1) I.kIn oa ob hu
    have : decide (Value.ref a = Value.ref b) = decide (a = b) := by
      by_cases w : a = b
      · subst w; simp
      · rw [decide_eq_false w, decide_eq_false fun z => w (by cases z; rfl)]
    rw [this]
    exact q
  case q =>
    refine ⟨.non, _, I.lset (its' := its.eraseIdx j) (f := fun xs => xs.eraseIdxIfInBounds j) hl e0 (by rw [List.eraseIdxIfInBounds_toArray]) (rv.eraseIdx j) (by have := List.length_eraseIdx_le vs j; omega), rfl, hq⟩
end DW
/-! DWbest: x = min(ps, key=lambda y: (y.f, y.g)); ps.remove(x), by pure readings. -/
namespace DW
open PySem L2
theorem memU_same : ∀ {μ : List (Addr × OO)} {p : Addr} {o : OO}, (μ.map Prod.fst).Nodup → μ.lookup p = some o → memU μ p o = μ
  | [], _, _, _, h => by cases h
  | (q, u) :: μ, p, o, nd, h => by
    rw [List.lookup_cons] at h
    show (if q = p then (q, o) else (q, u)) :: memU μ p o = (q, u) :: μ
    have nd1 := List.nodup_cons.mp nd
    by_cases e : p = q
    · rw [show (p == q) = true from beq_iff_eq.mpr e] at h
      have hu : u = o := Option.some.inj h
      rw [if_pos e.symm, hu]
      have : memU μ p o = μ := by
        unfold memU
        refine (List.map_congr_left fun c hc => ?_).trans (List.map_id _)
        have : c.1 ≠ p := fun z => nd1.1 (List.mem_map.mpr ⟨c, hc, z.trans e⟩)
        rw [if_neg this]
        rfl
      rw [this]
    · rw [show (p == q) = false from beq_eq_false_iff_ne.mpr e] at h
      rw [if_neg (Ne.symm e), memU_same nd1.2 h]
theorem setK_same {α : Type} {l : List α} {i : Nat} {x : α} (h : l[i]? = some x) : l.set i x = l := by
  obtain ⟨hi, e⟩ := List.getElem?_eq_some_iff.mp h
  rw [← e]
  exact List.set_getElem_self hi
theorem upd_comm {H : Hp} {a b : Addr} {u v : HO} (n : a ≠ b) : upd (upd H a u) b v = upd (upd H b v) a u := by
  funext c
  by_cases h1 : c = a
  · subst h1
    rw [upd_ne n, upd_same, upd_same]
  · by_cases h2 : c = b
    · subst h2
      rw [upd_same, upd_ne h1, upd_same]
    · rw [upd_ne h2, upd_ne h1, upd_ne h1, upd_ne h2]
section
variable {K : PySem.W.Frag} {F : Fm} {S H H1 : Hp} {ρ : List SV} {σ : St} {m : Nat} {μ : List (Addr × OO)} {P c' f : Addr} {q : Str} {ps : Array Value} {o : Obj}
/-- the table in the memory -/
theorem R.tab (r : R K F S ρ σ H) (hm : ρ[m]? = some (.mm μ)) (hP : μ.lookup P = some (.tb P q)) : ∃ ps : Array Value, H P = some (.tbl ps) ∧ TriplesOk ps.toList ∧ ∀ (pos : Pos) (cv : Value), codeAmong pos ps.toList = some cv → ∃ c, cv = .ref c ∧ S c = some (LamX.CodeO c q) :=
  ((r.memAt hm).2 P _ (look_mem hP)).2.2.2
/-- a lambda is made -/
theorem R.lam (r : R K F S ρ σ H) (hm : ρ[m]? = some (.mm μ)) (hP : μ.lookup P = some (.tb P q)) (hps : H P = some (.tbl ps)) (st : LamStep H P q ps c' H1) (hf : H1 f = none) :
    ∃ S', Gr F.B S S' ∧ R K F S' ρ σ (upd H1 f (LamO f o)) ∧ upd H1 f (LamO f o) c' = some (LamX.CodeO c' q) ∧ ∀ a u, H a = some u → (∀ ps, u ≠ .tbl ps) → upd H1 f (LamO f o) a = some u := by
  have fin : ∀ {S' : Hp}, Gr F.B S S' → R K F S' ρ σ H1 → H1 c' = some (LamX.CodeO c' q) → (∀ a u, H a = some u → (∀ ps, u ≠ .tbl ps) → H1 a = some u) → ∃ S', Gr F.B S S' ∧ R K F S' ρ σ (upd H1 f (LamO f o)) ∧ upd H1 f (LamO f o) c' = some (LamX.CodeO c' q) ∧ ∀ a u, H a = some u → (∀ ps, u ≠ .tbl ps) → upd H1 f (LamO f o) a = some u := fun {S'} g r1 hc hk =>
    ⟨S', g, r1.grow fun a u e => by rw [upd_ne (ne_of_none e hf)]; exact e, by rw [upd_ne (ne_of_none hc hf)]; exact hc, fun a u e n => by rw [upd_ne (ne_of_none (hk a u e n) hf)]; exact hk a u e n⟩
  rcases st with ⟨hc, rfl⟩ | ⟨ps', hc, hn, ht, hsub, rfl⟩
  · exact fin (Gr.refl _ _) r hc fun a u e _ => e
  · obtain ⟨ps0, h0, _, told⟩ := r.tab hm hP
    rw [hps] at h0
    cases h0
    have b := r.newB hc
    have r1 : R K F S ρ σ (upd H c' (LamX.CodeO c' q)) := r.grow fun a u e => by rw [upd_ne (ne_of_none e hc)]; exact e
    have t := r1.tell (p := c') (o := LamX.CodeO c' q) upd_same b.2 b.1 (NoSl.new r hc)
    have hu : OR K (upd S c' (LamX.CodeO c' q)) (upd (upd H c' (LamX.CodeO c' q)) P (.tbl ps')) P (.tb P q) := ⟨rfl, ps', upd_same, ht, fun pos cv hcv => by
      rcases hsub pos cv hcv with z | z
      · obtain ⟨c, e1, e2⟩ := told pos cv z
        exact ⟨c, e1, t.2.s _ _ e2⟩
      · exact ⟨c', z, upd_same⟩⟩
    have r2 := t.1.setM hm hP hu
    rw [memU_same (r.memAt hm).1 hP, setK_same hm, upd_comm hn] at r2
    have nP : c' ≠ P := hn
    exact fin t.2 r2 upd_same fun a u e n => by
      rw [upd_ne (ne_of_none e hc), upd_ne fun z => n ps (Option.some.inj (e.symm.trans (by rw [z]; exact hps)))]
      exact e
end
theorem nofree_of {sc nsc : Scope} (h : (nsc.names.all fun y => !decide (y.2 = .free)) = true) : ∀ y ∈ nsc.names, y.2 = .free → sc.names.lookup y.1 = some .cell ∨ sc.names.lookup y.1 = some .free := fun y hy e => by
  have := List.all_eq_true.mp h y hy
  simp [e] at this
/-- the key's parts of a list of instances -/
def KeysD (C0 : Addr) (f1 f2 : Str) (xs : List D) (kw : Nat → Int) (kn : Nat → List Int) : Prop :=
  ∀ (k : Nat) (x : D), xs[k]? = some x → ∃ fs, x = .ins C0 fs ∧ fs.lookup f1 = some (.int (kw k)) ∧ fs.lookup f2 = some (.lst ((kn k).map .int))
def dMinRem (m i j : Nat) (C0 P : Addr) (q f1 f2 : Str) (rest : DTS) : DTS := fun De ρ => ∃ (y : SV) (xs : List D) (kw : Nat → Int) (kn : Nat → List Int), ρ[i]? = some y ∧ y.oo = some (.l xs) ∧ 0 < xs.length ∧ i ≠ j ∧ j < ρ.length ∧ m ≠ j ∧
  (atM ρ m fun μ => μ.lookup P = some (.tb P q)) ∧ KeysD C0 f1 f2 xs kw kn ∧ (∀ k, k < bestAt kw kn xs.length → (kw k, kn k) ≠ (kw (bestAt kw kn xs.length), kn (bestAt kw kn xs.length))) ∧
  ∀ x, xs[bestAt kw kn xs.length]? = some x → rest De ((ρ.set j (.d x)).set i (y.re (.l (xs.eraseIdx (bestAt kw kn xs.length)))))
theorem intsK_inj : ∀ {xs ys : List Int}, xs.map V.int = ys.map V.int → xs = ys
  | [], [], _ => rfl
  | [], _ :: _, h => by cases h
  | _ :: _, [], h => by cases h
  | x :: xs, y :: ys, h => by
    simp only [List.map_cons, List.cons.injEq, V.int.injEq] at h
    rw [h.1, intsK_inj h.2]
section
variable {X : Cx} {W : WX} {rest : List Stmt} {drest : DTS} {C : Addr} {f1 f2 z y w fn : Str} {params : Arguments} {scope : Scope} {p1 p2 p3 p4 p5 py py2 pw pw2 pf lpos kpos cpos apos cpos2 pos pos2 : Pos} {n5 : Nat} {k : Nat} {c P : Addr}
theorem d_minRem (m i j : Nat) (hr : Room (k + 2) X.A) (hN : X.N.Nodup) (TB : LamX.TabB X.base X.mg c P) (hcode : X.env.code = .ref c) (S : NdefX.NScope [z] [z] [] scope) (c1 : Cls X.K C) (c2 : CmpC X.K C) (n1 : NoAttr X.K C f1) (n2 : NoAttr X.K C f2) (hm : X.mg "min" = none) (hrest : DSs X W rest drest)
    (hb : ∀ (q : Str) (pm cv ctv : Value) (u : Value), bindArgs (PySem.W.kla_fn "<lambda>" q params (.Tuple [.Attribute (.Name z p1) f1 p2, .Attribute (.Name z p3) f2 p4] n5 p5) scope [] pm cv ctv) ⟨[u], []⟩ = pure [(z, u)])
    (hcl : L2.cloFrom X.env.cells scope.names [] = [] := by rfl) (hfree : ∀ y ∈ scope.names, y.2 = .free → X.env.scope.names.lookup y.1 = some .cell ∨ X.env.scope.names.lookup y.1 = some .free)
    (hx : scope.names.lookup z = some .local := by rfl) (hd : (z == ("__debug__" : Str)) = false := by decide) (hcd : (z == ("__classdict__" : Str)) = false := by decide)
    (hb1 : ∀ env : Env, attributeBase (.Name z p1) f1 env (eval (.Name z p1) env) = eval (.Name z p1) env := by intro _; rfl) (hb2 : ∀ env : Env, attributeBase (.Name z p3) f2 env (eval (.Name z p3) env) = eval (.Name z p3) env := by intro _; rfl)
    (hline : (apos.endLine == cpos2.line) = true := by rfl) (hdef : defaultsOf params X.env = ([], []) := by rfl) (hg : Gl X "min" := by rfl)
    (hi : X.N[i]? = some y := by rfl) (hv : Vis X.env.scope y := by first | exact Or.inl rfl | exact Or.inr (Or.inl rfl) | exact Or.inr (Or.inr rfl)) (hyd : (y == ("__debug__" : Str)) = false := by decide) (hycd : (y == ("__classdict__" : Str)) = false := by decide)
    (hj : X.N[j]? = some w := by rfl) (hw : Loc X.env.scope w := by first | exact Or.inl rfl | exact Or.inr rfl) (hwd : (w == ("__debug__" : Str)) = false := by decide) (hwcd : (w == ("__classdict__" : Str)) = false := by decide)
    (hf : X.fn w = true ∨ X.env.scope.names.lookup w = some .local := by first | exact .inl rfl | exact .inr rfl | assumption) :
    DSs X W (.Assign [.Name w pw] (.Call (.Name "min" pf) [.Name y py] [⟨some "key", .Lambda params (.Tuple [.Attribute (.Name z p1) f1 p2, .Attribute (.Name z p3) f2 p4] n5 p5) scope lpos, kpos⟩] cpos) pos ::
      .Expr (.Call (.Attribute (.Name y py2) "remove" apos) [.Name w pw2] [] cpos2) pos2 :: rest) (dMinRem m i j C P (X.env.qual ++ "<lambda>") f1 f2 drest) := by
  have hvw : Vis X.env.scope w := hw.elim .inl fun z => .inr (.inl z)
  have e1 := pe_callBK (X := X) (x := "min") (p := pf) (pos := cpos) (cr_minKey (C := C) (x := z) (f1 := f1) (f2 := f2) (params := params) (q := X.env.qual ++ "<lambda>") (p1 := p1) (p2 := p2) (p3 := p3) (p4 := p4) (n5 := n5) (p5 := p5) hr S c1 n1 n2 (hb _) hx hd hcd hb1 hb2) hg hm (by decide +kernel) (pa_cons (pe_var (pos := py) hi hv hyd hycd) pa_nil) (pk_cons (nm := some "key") (kpos := kpos) (pe_lamN (pos := lpos) (body := .Tuple [.Attribute (.Name z p1) f1 p2, .Attribute (.Name z p3) f2 p4] n5 p5) TB hcode hdef hfree hcl) pk_nil)
  have e2 := ps_set (pos' := pw) (pos := pos) hN hj hw e1 (by rfl) hf
  have e3 := pe_bm (name := "remove") (apos := apos) (cpos := cpos2) PySem.F.plainAttrs_list PySem.F.slot_list_remove PySem.F.type_list_remove (mt_remI (C := C) (by have := hr.un; omega) c2) (pe_var (pos := py2) hi hv hyd hycd) (pa_cons (pe_var (pos := pw2) hj hvw hwd hwcd) pa_nil) (hline := hline)
  refine pss_imp (pss_cons e2 (pss_cons (ps_expr (pos := pos2) e3) hrest)) fun D σ H ⟨F, S0, ρ, De, r, ⟨ym, xs, kw, kn, hy, ho, hlen, hij, hjl, hmj, hM, hK, hne, hres⟩, k1, k2, k3, k4, k5⟩ => ?_
  obtain ⟨μ, em, hP⟩ := atM_ok hM
  obtain ⟨p, ep, pb, pn, vs, hvs, rp⟩ := r.own hy ho
  obtain ⟨ps, hps, ht, told⟩ := r.tab em hP
  have ln := rp.length
  have part : ∀ k : Nat, ∃ a : Addr, ∀ v, vs[k]? = some v → ∃ b dx ws, v = .ref b ∧ S0 b = some (.ins C dx ws) ∧ ws.lookup f1 = some (.int (kw k)) ∧ ws.lookup f2 = some (.ref a) ∧ S0 a = some (.lst ((kn k).map V.int)) := fun k => by
    by_cases hk : k < vs.length
    · obtain ⟨x, ex, rx⟩ := rp.getV (List.getElem?_eq_getElem hk)
      obtain ⟨fs, rfl, l1, l2⟩ := hK k x ex
      obtain ⟨b, dx, ws, eb, hb, rf⟩ := rx
      obtain ⟨v1, m1, q1⟩ := (rf.lookup (f := f1)).1 _ l1
      obtain ⟨v2, m2, q2⟩ := (rf.lookup (f := f2)).1 _ l2
      obtain ⟨a, us, ea, ha, ru⟩ := q2
      rw [RpL.int_inv ru] at ha
      have q1 : v1 = .int (kw k) := q1
      refine ⟨a, fun v hv => ?_⟩
      rw [List.getElem?_eq_getElem hk] at hv
      exact ⟨b, dx, ws, (Option.some.inj hv).symm.trans eb, hb, by rw [m1, q1], by rw [m2, ea], ha⟩
    · exact ⟨0, fun v hv => absurd (List.getElem?_eq_some_iff.mp hv).1 hk⟩
  obtain ⟨ka, hka⟩ := Classical.axiomOfChoice part
  refine ⟨.ref p, ep, ps, hps, ht, fun pos cv hc => (told pos cv hc).imp fun _ z => ⟨z.1, r.s _ _ z.2⟩, fun f c' pm ctv H1 st hf1 => ?_⟩
  obtain ⟨S1, g1, r1, hc1, keep⟩ := r.lam (o := lamObj (X.env.qual ++ "<lambda>") params (.Tuple [.Attribute (.Name z p1) f1 p2, .Attribute (.Name z p3) f2 p4] n5 p5) scope [] pm c' ctv) em hP hps st hf1
  have atS : ∀ {a : Addr} {u : HO}, S0 a = some u → upd H1 f (LamO f (lamObj (X.env.qual ++ "<lambda>") params (.Tuple [.Attribute (.Name z p1) f1 p2, .Attribute (.Name z p3) f2 p4] n5 p5) scope [] pm c' ctv)) a = some u := fun {a u} e => r1.s _ _ (g1.s _ _ e)
  have keys : KeysAt (upd H1 f (LamO f (lamObj (X.env.qual ++ "<lambda>") params (.Tuple [.Attribute (.Name z p1) f1 p2, .Attribute (.Name z p3) f2 p4] n5 p5) scope [] pm c' ctv))) C f1 f2 vs kw ka kn := fun k v hv => by
    obtain ⟨b, dx, ws, e1, e2, e3, e4, e5⟩ := hka k v hv
    exact ⟨b, dx, ws, e1, atS e2, e3, e4, atS e5⟩
  refine ⟨p, f, c', pm, ctv, vs, kw, ka, kn, rfl, rfl, keep p _ hvs (fun _ z => nomatch z), upd_same, hc1, by omega, keys, fun v H' hvb sm => ?_⟩
  rw [ln] at hvb
  have r2 := r1.grow sm
  obtain ⟨x, hxb, rx⟩ := rp.getV hvb
  obtain ⟨b, dxb, wsb, rfl, sb, lb1, lb2, sb3⟩ := hka _ v hvb
  have hp' : H' p = some (.lst vs) := sm _ _ (keep p _ hvs (fun _ z => nomatch z))
  have eSi : (σ.set j (some (V.ref b)))[i]? = some (some (.ref p)) := by rw [List.getElem?_set_ne (Ne.symm hij)]; exact ep
  have hjs : j < σ.length := by rw [← r.len]; exact hjl
  refine ⟨.ref p, eSi, .inl ⟨rfl, vs, SqL.of hp'⟩, .ref b, List.getElem?_set_self hjs, p, b, vs, bestAt kw kn xs.length, rfl, rfl, hp', hvb, fun l hl hlb => ?_, fun u hu => ?_, ?_⟩
  · obtain ⟨b2, dx2, ws2, e2, s2, l1, l2, s3⟩ := hka _ _ hlb
    cases e2
    rw [sb] at s2
    cases s2
    rw [lb1] at l1
    rw [lb2] at l2
    refine hne l hl ?_
    have h1 : kw (bestAt kw kn xs.length) = kw l := by
      have := Option.some.inj l1
      injection this
    have h2 : ka (bestAt kw kn xs.length) = ka l := by
      have := Option.some.inj l2
      injection this
    rw [h2, s3] at sb3
    have h3 : (kn l).map V.int = (kn (bestAt kw kn xs.length)).map V.int := by
      have := Option.some.inj sb3
      injection this with this
    rw [h1, intsK_inj h3]
  · obtain ⟨k, hk⟩ := List.mem_iff_getElem?.mp hu
    obtain ⟨b2, dx2, ws2, e2, s2, _⟩ := hka _ _ hk
    exact ⟨b2, dx2, ws2, e2, sm _ _ (atS s2)⟩
  · have rx1 : Rp X.K S1 x (.ref b) := Rp.mono g1.s rx
    have r3 := r2.setD (i := j) hjs rx1
    have hyi : (ρ.set j (.d x))[i]? = some ym := by rw [List.getElem?_set_ne (Ne.symm hij)]; exact hy
    have r4 := r3.change (y' := ym.re (.l (xs.eraseIdx (bestAt kw kn xs.length)))) hyi ho eSi rfl (OR.mkL ((RpL.mono g1.s rp).eraseIdx (bestAt kw kn xs.length)))
    exact ⟨F, S1, _, De, r4, hres x hxb, fun ρ' σ' S' H' g' => k1 ρ' σ' S' H' (g1.trans g'), fun v x ρ' σ' S' H' g' => k2 v x ρ' σ' S' H' (g1.trans g'), fun ρ' σ' S' H' g' => k3 ρ' σ' S' H' (g1.trans g'), fun ρ' σ' S' H' g' => k4 ρ' σ' S' H' (g1.trans g'),
      fun e cls d ρ' σ' S' H' g' => k5 e cls d ρ' σ' S' H' (g1.trans g')⟩
end
/-! xs != [], whatever stands in xs -/
def fNeE (a b : D) (k : DV → Prop) : Prop := match a, b with
  | .lst xs, .lst [] => k (.d (.bl (!xs.isEmpty)))
  | _, _ => False
def rNeE : R2 := fun x y H Q => ∃ (a b : Addr) (xs : List V), x = .ref a ∧ y = .ref b ∧ H a = some (.lst xs) ∧ H b = some (.lst []) ∧ Q (.bl (!xs.isEmpty)) H
theorem op_neE {X : Cx} (hu : X.A.units + 1 < cLine) : OpR X (compareOp .NotEq) rNeE := by
  intro pins s σ H x y v u Q I rx ry h
  obtain ⟨a, b, xs, rfl, rfl, ha, hb, q⟩ := h
  obtain rfl : v = Value.ref a := rx
  obtain rfl : u = Value.ref b := ry
  obtain ⟨z, its, n, rv, hl, ho⟩ := I.lstM ha
  obtain ⟨_, js, m, rw', hl', ho'⟩ := I.lstM hb
  have e : js = [] := by
    cases js with
    | nil => rfl
    | cons => simp at hl'
  subst e
  have fin : EP X pins σ Q (.bool (!xs.isEmpty)) s := ⟨.bl _, H, I, rfl, q⟩
  show wpAny _ _ (richCompare .NotEq (.ref a) (.ref b)) _ _ s
  cases xs with
  | nil =>
    have e : its = [] := by
      cases its with
      | nil => rfl
      | cons => simp at hl
    subst e
    exact SeqAt.RcNeAt.lists (e := fun _ => true) ⟨_, ho, rfl, n, rfl⟩ ⟨_, ho', rfl, m, rfl⟩ rfl (by omega) (fun j h1 => by simp at h1) X.prog X.w _ _ fin
  | cons c xs =>
    refine SeqAt.RcNeAt.lists_lengths ⟨_, ho, rfl, n, rfl⟩ ⟨_, ho', rfl, m, rfl⟩ ?_ (by omega) X.prog X.w _ _ fin
    cases its with
    | nil => simp at hl
    | cons => simp
theorem ok_neE {K : PySem.W.Frag} : OpOk K fNeE rNeE := by
  intro S H a b x y Qz QQ sh ha hb h kq
  cases a with
  | lst xs =>
    cases b with
    | lst ys =>
      cases ys with
      | nil =>
        obtain ⟨p, vs, e, h1, h2⟩ := ha
        obtain ⟨p', vs', e', h1', h2'⟩ := hb
        have h2' : vs' = [] := h2'
        subst h2'
        refine ⟨p, p', vs, e, e', h1, h1', ?_⟩
        have e2 : vs.isEmpty = xs.isEmpty := by
          have ln := h2.length
          cases xs with
          | nil =>
            cases vs with
            | nil => rfl
            | cons => simp at ln
          | cons =>
            cases vs with
            | nil => simp at ln
            | cons => rfl
        rw [e2]
        exact kq _ _ H Res.bl h
      | cons => exact h.elim
    | _ => exact h.elim
  | _ => exact h.elim
/-- the memory at the law's start: the tables -/
abbrev tabsM (ts : List (Addr × Str)) : List (Addr × OO) := ts.map fun p => (p.1, .tb p.1 p.2)
end DW
/-! DWend: defs whose code object is known (they make lambdas), the end of a law with tables. -/
namespace DW
open PySem L2
/-- a def with its code object -/
structure FunC (K : PySem.W.Frag) (x qual : Str) (st : Stmt) (f : Addr) (fd : FuncData) (c : Addr) : Prop where
  ex : ∃ (oc : Value) (od : Option Addr) (kV doc pm : Value) (an : Option Addr) (ct : Value) (osl : Array (Option Value)),
    fd = PySem.W.fnOf x qual (defArgs st) (defBody st) (defScope st) .none kV doc pm an (.ref c) ct ∧ K.lookup f = some ⟨oc, od, .func fd, osl⟩ ∧ PySem.W.codeIn K (.ref c) qual = true
open PySem.Spec PyProof.Rows in
theorem fn_DMC {P : Program} {w : World} {K : PySem.W.Frag} {mg : Str → Option Value} {base : Heap} {x qual : Str} {st : Stmt} {f c : Addr} {fd : FuncData} {N ps : List Str} {k : Nat} {body : DTS} (F : FunC K x qual st f fd c) (S : FnScope N ps (defScope st)) (hN : ps.length < N.length)
    (h : ∀ (A : Around) (outer : List Env) (s : Shared) (H : Hp) (E : XK), Room k (A.deeper (envOfC qual (defScope st) s.heap.objs.size f (.ref c))) →
      DSs (cxOf (L2N.CX P w) P w K mg base N qual (defScope st) f (.ref c) A outer s H E) (fun cls d _ H' => E cls d H') (defBody st) body) :
    FnOk P w K mg base (L2N.CX P w) (k + 1) f fd ps (spDM K ps.length (dRun (ps.length + 1) (N.length - (ps.length + 1)) body)) := by
  obtain ⟨oc, od, kV, doc, pm, an, ct, osl, rfl, look, code⟩ := F.ex
  refine fn_of look code S (fun vs H Q E q => q.1) fun A outer s H vs Q E hr ⟨hl, B, S0, as, μ, Qd, Ee, r, hm, g, kq, ke⟩ => ⟨_, h A outer s H E hr, ?_⟩
  have hl2 : (vs ++ [V.non]).length = ps.length + 1 := by rw [List.length_append, hl]; rfl
  have r0 := R.start (N := N) r (by rw [hl2]; omega)
  have lo : as.length = ps.length + 1 := by rw [r.len, List.length_map, hl2]
  have hm2 : (as ++ List.replicate (N.length - (vs ++ [V.non]).length) SV.un)[vs.length]? = some (.mm μ) := by
    rw [List.getElem?_append_left (by omega), hl]
    exact hm
  have r1 := r0.sigma hm2 none
  rw [start_set (by omega)] at r1
  rw [hl2] at r1
  refine ⟨_, S0, _, _, r1, g, fun ρ' σ' S' H' g' r' q' => ?_, fun v x ρ' σ' S' H' g' r' vr' q' => ?_, fun _ _ _ _ _ _ z => z.elim, fun _ _ _ _ _ _ z => z.elim, fun e cls d ρ' σ' S' H' g' r' xr' q' => ?_⟩
  · exact kq .non (.d .non) S' _ H' g' (R.out r' hl2 (by omega)) rfl (fun _ z => nomatch z) (fun _ z => nomatch z) q'
  · obtain ⟨y, q2, vr2, ny⟩ := VR.out (n := ps.length + 1) (k := fun y => Qd y (outS (ps.length + 1) ρ')) r' vr' hl2 q'
    exact kq v y S' _ H' g' (R.out r' hl2 (by omega)) vr2 ny.1 ny.2 q2
  · exact ke e cls d S' _ H' g' (R.out r' hl2 (by omega)) xr' q'
theorem funC_mk {K : PySem.W.Frag} {x qual : Str} {st : Stmt} {f c : Addr} {oc : Value} {od an : Option Addr} {osl : Array (Option Value)} {kV doc pm ct : Value} (l : K.lookup f = some ⟨oc, od, .func (PySem.W.fnOf x qual (defArgs st) (defBody st) (defScope st) .none kV doc pm an (.ref c) ct), osl⟩)
    (h : PySem.W.codeIn K (.ref c) qual = true) : FunC K x qual st f (PySem.W.fnOf x qual (defArgs st) (defBody st) (defScope st) .none kV doc pm an (.ref c) ct) c := ⟨oc, od, kV, doc, pm, an, ct, osl, rfl, l, h⟩
/-- all keys are texts -/
def strKeysB (es : Array DictEntry) : Bool := es.toList.all fun e => match e.key with
  | .str _ _ => true
  | _ => false
theorem strKeys_of {es : Array DictEntry} (h : strKeysB es = true) : StrKeys es := fun e he => by
  have := List.all_eq_true.mp h e (by simpa using he)
  cases q : e.key with
  | str n t => exact ⟨n, t, rfl⟩
  | _ => rw [q] at this; cases this
theorem SqL.hide {K : PySem.W.Frag} {H : Hp} {a : Addr} {xs : List V} {μ : List (Addr × OO)} (h : SqL K H a xs) (ht : ∀ p o, (p, o) ∈ μ → ∃ ps, H p = some (.tbl ps)) : SqL K (hideM H μ) a xs := by
  rcases h with (h | ⟨o, h⟩) | h
  · refine .inl (.inl ?_)
    rw [hideM_out fun o z => ?_]
    · exact h
    · obtain ⟨ps, e⟩ := ht a o z
      rw [e] at h
      cases h
  · refine .inl (.inr ⟨o, ?_⟩)
    rw [hideM_out fun o z => ?_]
    · exact h
    · obtain ⟨ps, e⟩ := ht a o z
      rw [e] at h
      cases h
  · exact .inr h
theorem walk_DT {l : PySem.W.OpenLaw} {k : Nat} {q : Program} {loose : List Str} {XP : (Str → Option Value) → Heap → Prop} {YP : World → Heap → Prop} {d : DefRec} {K : Params → PySem.W.Frag} {x : Str} {run : Cs → DSp} {ts : Cs → List (Addr × Str)}
    (hn : l.most = some 63) (hdf : d.params.defaults = []) (hr : Room k callerA)
    (hY : ∀ (w : World) (h : Heap), YP w h → (K w.params).In h)
    (hlaw : ∀ (A : Cs) (ns : List Int), ((ts A).map (·.1)).Nodup → ns.length ≤ 63 → run A [.d (.scr ns), .mm (tabsM (ts A))] (fun x _ => x = .d (.bl true)) (fun _ _ => False))
    (F : ∀ (w : World) (mg : Str → Option Value) (fa : Addr) (h : Heap), YP w h → (K w.params).In h → h.Ns mainGlobals mg → mg d.name = some (.ref fa) →
      ∃ (fd : FuncData) (A : Cs) (cs : List (Addr × Addr)), cs.map (·.2) = (ts A).map (·.1) ∧ (cs.map (·.2)).Nodup ∧ (∀ p ∈ cs, h.get? p.2 = some { cls := .none, data := .fields #[] }) ∧ (∀ p ∈ cs, (K w.params).lookup p.2 = none) ∧ (∀ p ∈ cs, PySem.W.codeHdIn (K w.params) p.1 p.2 = true) ∧ (∀ (s : Shared) (u : Value), BindsTo s fd ⟨[u], []⟩ [(x, u)]) ∧
        ∀ base : Heap, (K w.params).In base → base.Ns mainGlobals mg → (∀ p ∈ cs, LamX.TabB base mg p.1 p.2) → FnOk l.prog w (K w.params) mg base (L2N.CX l.prog w) k fa fd [x] (spDM (K w.params) 1 (run A))) :
    PySem.W.WalkO q loose XP YP l.row.toRowW d [] (fun f vs => PySem.call f vs) := by
  refine LamX.walk_ofTs (n := 63) (k := k) (x := x) (K := K) (CX := fun w => L2N.CX l.prog w) hn (by decide) hdf hr hY (fun w mg fa h Y KX G hmg => ?_) fun _ _ _ _ _ z => ?_
  · obtain ⟨fd, A, cs, e, nd, h1, h2, h3, hb, hF⟩ := F w mg fa h Y KX G hmg
    refine ⟨fd, cs, spDM (K w.params) 1 (run A), h1, h2, fun p hp => PySem.W.codeHd_of_K KX (h3 p hp), hb, fun H a ns hl _ hT hS => ?_, hF⟩
    have nd2 : ((ts A).map (·.1)).Nodup := e ▸ nd
    have tbl : ∀ p o, (p, o) ∈ tabsM (ts A) → o = .tb p ((fun _ => (match o with | .tb _ z => z | _ => "")) p) ∧ H p = some (.tbl #[]) := fun p o hm => by
      obtain ⟨⟨p', z⟩, hm', e'⟩ := List.mem_map.mp hm
      cases e'
      refine ⟨rfl, ?_⟩
      have : p' ∈ cs.map (·.2) := by rw [e]; exact List.mem_map.mpr ⟨_, hm', rfl⟩
      obtain ⟨c, hc, ec⟩ := List.mem_map.mp this
      rw [← ec]
      exact hT c hc
    refine ⟨rfl, hideM H (tabsM (ts A)), hideM H (tabsM (ts A)), [.d (.scr ns), .mm (tabsM (ts A))], tabsM (ts A), _, _, ⟨rfl, rfl, fun c u hc => ?_, fun c u hc => ?_, fun i y ey => ?_, fun i j y z _ _ p e1 e2 _ _ o1 o2 => ?_⟩, rfl, hlaw A ns nd2 hl, fun v y S' as' H' _ _ vr _ _ ee => ?_, fun _ _ _ _ _ _ _ _ _ z => z.elim⟩
    · have n : ∀ o, (c, o) ∉ tabsM (ts A) := fun o z => by
        have hc : hideM H (tabsM (ts A)) c = some u := hc
        rw [hideM_in z] at hc
        cases hc
      exact (hideM_out n).symm.trans hc
    · have n : ∀ o, (c, o) ∉ tabsM (ts A) := fun o z => by
        rw [hideM_in z] at hc
        cases hc
      exact (hideM_out n).symm.trans hc
    · match i with
      | 0 =>
        cases ey
        exact ⟨_, rfl, _, rfl, a, rfl, SqL.hide hS fun p o hm => ⟨#[], (tbl p o hm).2⟩⟩
      | 1 =>
        cases ey
        refine ⟨_, rfl, by rw [List.map_map]; exact nd2, fun p o hm => ⟨hideM_in hm, hideM_in hm, ?_⟩⟩
        obtain ⟨⟨p', z⟩, hm', e'⟩ := List.mem_map.mp hm
        cases e'
        exact ⟨rfl, #[], (tbl _ _ hm).2, True.intro, fun pos cv hc => by
          have w : codeAmong pos [] = some cv := hc
          simp [codeAmong] at w⟩
      | i + 2 => cases ey
    · match i, j with
      | 0, _ => cases e1; exact False.elim o1
      | 1, 0 => cases e2; exact False.elim o2
      | 1, 1 => rfl
      | 1, j + 2 => cases e2
      | i + 2, _ => cases e1
    · subst ee
      have ee : v = .bl true := vr
      exact ee
  · obtain ⟨_, _, _, _, _, _, _, _, _, _, _, _, _, _, _, _, z⟩ := z
end DW
/-! DWpar: tuple targets of any kind; x, y, z = a, b, c. -/
namespace DW
open PySem L2
abbrev DTGs := List D → List SV → (List SV → Prop) → Prop
def gDs (K : PySem.W.Frag) (dg : DTGs) : TGs := fun vs σ H Q => ∃ (F : Fm) (S : Hp) (ρ : List SV) (as : List D) (k : List SV → Prop), R K F S ρ σ H ∧ RpL K S as vs ∧ dg as ρ k ∧
  ∀ ρ' σ' S' H', Gr F.B S S' → R K F S' ρ' σ' H' → k ρ' → Q σ' H'
/-- a target of which no more is told than what it stores -/
def gD0 (K : PySem.W.Frag) (dg : DTG) : TG := fun v σ H Q => ∃ (F : Fm) (S : Hp) (ρ : List SV) (a : D) (k : List SV → Prop), R K F S ρ σ H ∧ Rp K S a v ∧ dg a ρ k ∧
  ∀ ρ' σ' S' H', Gr F.B S S' → R K F S' ρ' σ' H' → k ρ' → Q σ' H'
def DG0 (X : Cx) (tg : Expr) (dg : DTG) : Prop := PG X tg (gD0 X.K dg)
def dgNil : DTGs := fun as ρ k => as = [] ∧ k ρ
def dgCons (dg : DTG) (dgs : DTGs) : DTGs := fun as ρ k => match as with
  | a :: r => dg a ρ fun ρ' => dgs r ρ' k
  | [] => False
def dgTD (n : Nat) (dgs : DTGs) : DTG := fun a ρ k => match a with
  | .tup xs => xs.length = n ∧ dgs xs ρ k
  | _ => False
theorem pgs_imp {X : Cx} {ts : List Expr} {t t' : TGs} (h : PGs X ts t) (i : ∀ v σ H Q, t' v σ H Q → t v σ H Q) : PGs X ts t' := ⟨fun p s σ H x v Q I rx q => h.run p s σ H x v Q I rx (i x σ H Q q)⟩
section
variable {X : Cx} {pos : Pos}
theorem d_gnil : PGs X [] (gDs X.K dgNil) := by
  refine pgs_imp pgs_nil fun vs σ H Q ⟨F, S, ρ, as, k, r, p, h, kk⟩ => ?_
  obtain ⟨e, h⟩ := h
  subst e
  exact ⟨p, kk ρ σ S H (Gr.refl _ _) r h⟩
theorem d_gcons {e : Expr} {es : List Expr} {dg : DTG} {dgs : DTGs} (h1 : DG0 X e dg) (h2 : PGs X es (gDs X.K dgs))
    (hs : (assignEach (e :: es) X.env).map (·.2) = assign e X.env :: (assignEach es X.env).map (·.2) := by rfl) : PGs X (e :: es) (gDs X.K (dgCons dg dgs)) := by
  refine pgs_imp (pgs_cons h1 h2 hs) fun vs σ H Q ⟨F, S, ρ, as, k, r, p, h, kk⟩ => ?_
  cases as with
  | nil => exact False.elim h
  | cons a as =>
    obtain ⟨v, ws, e, p1, p2⟩ := p
    exact ⟨v, ws, e, F, S, ρ, a, _, r, p1, h, fun ρ' σ' S' H' g' r' q' => ⟨F, S', ρ', as, k, r', RpL.mono g'.s p2, q', fun ρ2 σ2 S2 H2 g2 => kk ρ2 σ2 S2 H2 (g'.trans g2)⟩⟩
theorem d_gtd (n : Nat) {es : List Expr} {k : Nat} {dgs : DTGs} (hc : X.calm = true) (h : PGs X es (gDs X.K dgs)) (hn : (assignEach es X.env).length = n := by rfl) (hst : (assignEach es X.env).findIdx? (·.1) = none := by rfl) : DG0 X (.Tuple es k pos) (dgTD n dgs) := by
  refine pg_imp (pg_tup hc h hn hst) fun v σ H Q ⟨F, S, ρ, a, kk, r, p, q, kq⟩ => ?_
  cases a with
  | tup xs =>
    obtain ⟨c, vs, e, p1, p2⟩ := p
    obtain ⟨l, q⟩ := q
    exact ⟨c, vs, e, sqT_mono r.s p1, by rw [p2.length]; exact l, F, S, ρ, xs, kk, r, p2, q, kq⟩
  | _ => exact False.elim q
theorem d_asg0 {W : WX} {tg e : Expr} {de : DTE} {dg : DTG} (he : DE X W e de) (hg : DG0 X tg dg) (hs : swapsWithSole [tg] e pos.line X.env = pure false := by rfl) (hw : swappedStores [tg] e X.env = pure none := by rfl)
    (h1 : (assignEach [tg] X.env).map (·.2) = [assign tg X.env] := by rfl) : DS X W (.Assign [tg] e pos) (dAsg de dg) := by
  refine ps_imp (ps_asg he hg hs hw h1) fun D σ H ⟨F, S, ρ, De, r, h, k1, k2, k3, k4, k5⟩ => ?_
  refine ⟨F, S, ρ, _, _, r, h, fun v x S1 ρ1 H1 g1 r1 vr1 q1 => ?_, fun e cls d S' ρ' H' g' r' => k5 e cls d ρ' σ S' H' g' r'⟩
  obtain ⟨a, S2, ρ2, g2, r2, p2, q2⟩ := VR.stab r1 vr1 q1
  exact ⟨F, S2, ρ2, a, _, r2, p2, q2, fun ρ' σ' S' H' g' r' q' => k1 ρ' σ' S' H' ((g1.trans g2).trans g') r' q'⟩
/-- x[i] = .. as a target, x a list in a slot -/
def dgIx (i : Nat) (dx : DTE) : DTG := fun b ρ k => hasL ρ i ∧ dx ρ (fun w ρ3 => pk ρ3 w fun c => match c with
  | .int j => atL ρ3 i fun y xs => match ixN xs.length j with
    | some n => k (ρ3.set i (y.re (.l (xs.set n b))))
    | none => False
  | _ => False) fun _ _ => False
theorem d_gix (i : Nat) {y : Str} {py pos' : Pos} {ix : Expr} {dx : DTE} (hx : DE X (fun _ _ _ _ => True) ix dx)
    (hN : X.N[i]? = some y := by rfl) (hv : Vis X.env.scope y := by first | exact Or.inl rfl | exact Or.inr (Or.inl rfl) | exact Or.inr (Or.inr rfl)) (hd : (y == ("__debug__" : Str)) = false := by decide) (hcd : (y == ("__classdict__" : Str)) = false := by decide)
    (hg : ∀ {to ti : TE}, PE X (.Name y py) to → PE X ix ti → PG X (.Subscript (.Name y py) ix pos') (gSub to ti rSetL) := by exact fun a b => pg_sub a b set_list) : DG0 X (.Subscript (.Name y py) ix pos') (dgIx i dx) := by
  refine pg_imp (hg (pv i hN hv hd hcd) hx) fun v σ H Q ⟨F, S, ρ, b, k, r, p, q, kk⟩ => ?_
  obtain ⟨p0, vs, e1, e2⟩ := hasL_ok r q.1
  refine ⟨_, e1, F, S, ρ, _, _, r, q.2, fun w z S3 ρ3 H3 g3 r3 vr3 q3 => ?_, fun er cls d S' ρ' H' g' r' _ q' => q'.elim⟩
  obtain ⟨c, p3, q4⟩ := VR.pk r3 vr3 q3
  cases c with
  | int j =>
    obtain ⟨y1, xs, p', us, c1, c2, c3, c4, c5, c6, q⟩ := atL_ok r3 q4
    rw [e1] at c3
    cases c3
    cases n : ixN xs.length j with
    | none => simp only [n] at q
    | some m =>
      simp only [n] at q
      refine ⟨p0, us, j, m, rfl, p3, c5, by rw [c6.length]; exact n, ?_⟩
      exact kk _ σ S3 _ g3 (r3.change c1 c2 e1 rfl (OR.mkL (c6.set m (Rp.mono g3.s p)))) q
  | _ => exact False.elim q4
end
open PySem.Spec PyProof.Rows
/-! x, y, z = a, b, c with plain local names: stored from the right -/
def tPar3 (i j l : Nat) (ta : TA) : TS := fun D σ H => ta σ H fun vs H1 => ∃ v w z, vs = [v, w, z] ∧ D.nx (((σ.set l (some z)).set j (some w)).set i (some v)) H1
theorem ps_par3 {X : Cx} {pos : Pos} {i j l : Nat} {x y z : Str} {a b c : Expr} {ta : TA} {px py pz pt : Pos} {kt k2 pt2} (hc : X.calm = true) (hN : X.N.Nodup) (hi : X.N[i]? = some x) (hj : X.N[j]? = some y) (hl : X.N[l]? = some z)
    (hx : X.env.scope.names.lookup x = some .local) (hy : X.env.scope.names.lookup y = some .local) (hz : X.env.scope.names.lookup z = some .local) (ha : PA X [a, b, c] ta)
    (hw : swappedStores [.Tuple [.Name x px, .Name y py, .Name z pz] kt pt] (.Tuple [a, b, c] k2 pt2) X.env = pure (some [x, y, z]))
    (hs : swapsWithSole [.Tuple [.Name x px, .Name y py, .Name z pz] kt pt] (.Tuple [a, b, c] k2 pt2) pos.line X.env = pure false := by rfl) :
    PS X (.Assign [.Tuple [.Name x px, .Name y py, .Name z pz] kt pt] (.Tuple [a, b, c] k2 pt2) pos) (tPar3 i j l ta) := by
  refine ⟨fun pins s σ H D I h => ?_⟩
  rw [exec_Assign_arm]
  refine wpAny_bind (wpAny_standAt ?_)
  rw [hs]
  refine wpAny_bind (wpAny_pure ?_)
  rw [if_neg (by decide)]
  refine wpAny_bind (Tuple_ (thn (ha.run _ pins s σ H _ I h) fun us s1 ⟨vs, H1, I1, r1, q1⟩ => ?_))
  obtain ⟨v, w, z', e1, q1⟩ := q1
  subst e1
  obtain ⟨u1, u2, u3, rfl, rv, rw', rz⟩ : ∃ u1 u2 u3, us = [u1, u2, u3] ∧ RelV v u1 ∧ RelV w u2 ∧ RelV z' u3 := by
    cases r1 with
    | cons p q =>
      cases q with
      | cons p' q' =>
        cases q' with
        | cons p2 q2 =>
          cases q2
          exact ⟨_, _, _, rfl, p, p', p2⟩
  refine wpAny_newObj_type ?_ (by show 3 ≤ sizeLine; decide)
  have I2 : Inv X pins σ H1 { s1 with heap := s1.heap.push { cls := .type "tuple", data := .seq [u1, u2, u3].toArray } } := I1.kept (t' := s1.toks) fun b o e => Heap.get?_push_of_some _ e
  rw [hw]
  refine wpAny_bind (wpAny_pure ?_)
  show wpAny (model X.prog X.w) X.A (do rule "assign.swapped-stores"; let items ← unpackItems (.ref s1.heap.objs.size) 3 none; assignInOrder [fun v => bindName X.env z v, fun v => bindName X.env y v, fun v => bindName X.env x v] items.reverse; pure Flow.next) _ _ _
  refine wpAny_bind (wpAny_rule (wpAny_bind (unpackItems_tuple (items := #[u1, u2, u3]) (I.ok.hd hc) (IsTup.new s1.heap _) fun h' hx' => ?_)))
  have I3 := I2.kept (h' := h') (t' := s1.toks) fun b o e => hx' b o (Nat.ne_of_lt (Heap.lt_size e)) e
  show wpAny _ _ (assignInOrder [fun v => bindName X.env z v, fun v => bindName X.env y v, fun v => bindName X.env x v] [u3, u2, u1] >>= fun _ => pure Flow.next) _ _ _
  refine wpAny_bind (assignInOrder_cons (wpAny_bindName (store_ok I3 hN hl (.inl hz) rz (fun s2 I4 => ?_) (.inr hz))))
  refine assignInOrder_cons (wpAny_bindName (store_ok I4 hN hj (.inl hy) rw' (fun s2 I5 => ?_) (.inr hy)))
  exact assignInOrder_cons (wpAny_bindName (store_ok I5 hN hi (.inl hx) rv (fun s3 I6 => assignInOrder_nil (wpAny_pure ⟨_, H1, I6, q1⟩)) (.inr hx)))
def dPar3 (i j l : Nat) (da db dc : DTE) : DTS := fun De ρ => da ρ (fun x ρ1 => stab x ρ1 fun a ρ2 => db ρ2 (fun y ρ3 => stab y ρ3 fun b ρ4 => dc ρ4 (fun z ρ5 => i < ρ5.length ∧ j < ρ5.length ∧ storeS l z ρ5 fun ρ6 => De.nx ((ρ6.set j (.d b)).set i (.d a))) De.ex) De.ex) De.ex
theorem d_par3 {X : Cx} {W : WX} (i j l : Nat) {x y z : Str} {a b c : Expr} {da db dc : DTE} {px py pz pt pos : Pos} {kt k2 pt2} (hc : X.calm = true) (hN : X.N.Nodup) (hi : X.N[i]? = some x) (hj : X.N[j]? = some y) (hl : X.N[l]? = some z)
    (hx : X.env.scope.names.lookup x = some .local) (hy : X.env.scope.names.lookup y = some .local) (hz : X.env.scope.names.lookup z = some .local) (ha : DE X W a da) (hb : DE X W b db) (hd : DE X W c dc)
    (hw : swappedStores [.Tuple [.Name x px, .Name y py, .Name z pz] kt pt] (.Tuple [a, b, c] k2 pt2) X.env = pure (some [x, y, z]))
    (hs : swapsWithSole [.Tuple [.Name x px, .Name y py, .Name z pz] kt pt] (.Tuple [a, b, c] k2 pt2) pos.line X.env = pure false := by rfl)
    (ea : starEach [a, b, c] X.env = (false, eval a X.env) :: starEach [b, c] X.env := by rfl) (eb : starEach [b, c] X.env = (false, eval b X.env) :: starEach [c] X.env := by rfl) (ec : starEach [c] X.env = (false, eval c X.env) :: starEach [] X.env := by rfl) :
    DS X W (.Assign [.Tuple [.Name x px, .Name y py, .Name z pz] kt pt] (.Tuple [a, b, c] k2 pt2) pos) (dPar3 i j l da db dc) := by
  refine ps_imp (ps_par3 hc hN hi hj hl hx hy hz (pa_cons ha (pa_cons hb (pa_cons hd pa_nil ec) eb) ea) hw hs) fun D σ H ⟨F, S, ρ, De, r, h, k1, k2, k3, k4, k5⟩ => ?_
  refine ⟨F, S, ρ, _, _, r, h, fun v z S1 ρ1 H1 g1 r1 vr1 q1 => ?_, fun e cls d S' ρ' H' g' r' => k5 e cls d ρ' σ S' H' g' r'⟩
  obtain ⟨a', S2, ρ2, g2, r2, p2, q2⟩ := VR.stab r1 vr1 q1
  have g12 := g1.trans g2
  refine ⟨F, S2, ρ2, _, _, r2, q2, fun w y' S3 ρ3 H3 g3 r3 vr3 q3 => ?_, fun e cls d S' ρ' H' g' r' => k5 e cls d ρ' σ S' H' (g12.trans g') r'⟩
  obtain ⟨b', S4, ρ4, g4, r4, p4, q4⟩ := VR.stab r3 vr3 q3
  have g14 := (g12.trans g3).trans g4
  refine ⟨F, S4, ρ4, _, _, r4, q4, fun w2 y2 S5 ρ5 H5 g5 r5 vr5 q5 => ?_, fun e cls d S' ρ' H' g' r' => k5 e cls d ρ' σ S' H' (g14.trans g') r'⟩
  obtain ⟨h1, h2, q6⟩ := q5
  obtain ⟨S6, ρ6, g6, r6, q7⟩ := VR.store r5 vr5 q6
  refine ⟨v, w, w2, rfl, ?_⟩
  have l1 : j < (σ.set l (some w2)).length := by rw [List.length_set, ← r5.len]; exact h2
  have r7 := r6.setD (i := j) l1 (Rp.mono ((g5.trans g6)).s p4)
  have l2 : i < ((σ.set l (some w2)).set j (some w)).length := by rw [List.length_set, List.length_set, ← r5.len]; exact h1
  have r8 := r7.setD (i := i) l2 (Rp.mono (((g3.trans g4).trans g5).trans g6).s p2)
  exact k1 _ _ S6 H5 ((g14.trans g5).trans g6) r8 q7
end DW
/-! DWcnt: a slot's own thing is laid into the memory; // by a great divisor, negative too. -/
namespace DW
open PySem L2
/-- the name of an own thing, which lies in the memory from now on -/
def dSlM (m i : Nat) : DTE := fun ρ Q _ => match ρ[i]? with
  | some (.ow o) => atM ρ m fun μ => ∀ p, (∀ u, (p, u) ∉ μ) → Q (.d (.ptr p)) ((ρ.set i (.d (.ptr p))).set m (.mm (μ ++ [(p, o)])))
  | _ => False
section
variable {X : Cx} {W : WX} {pos : Pos}
theorem d_slM (m i : Nat) {x : Str} (hN : X.N[i]? = some x := by rfl) (hv : Vis X.env.scope x := by first | exact Or.inl rfl | exact Or.inr (Or.inl rfl) | exact Or.inr (Or.inr rfl)) (hd : (x == ("__debug__" : Str)) = false := by decide)
    (hcd : (x == ("__classdict__" : Str)) = false := by decide) : DE X W (.Name x pos) (dSlM m i) := by
  refine pe_imp (pv i hN hv hd hcd) fun σ H QQ ⟨F, S, ρ, Q, Ee, r, h, kq, ke⟩ => ?_
  unfold dSlM at h
  cases q : ρ[i]? with
  | none => simp only [q] at h
  | some y =>
    cases y with
    | ow o =>
      simp only [q] at h
      obtain ⟨μ, e, h⟩ := atM_ok h
      obtain ⟨ov, e1, p, e2, b1, s1, o1⟩ := r.at_ i _ q
      subst e2
      have hi : i < σ.length := (List.getElem?_eq_some_iff.mp e1).1
      have r2 := r.setD (i := i) (x := .ptr p) (v := .ref p) hi rfl
      have hσ : σ.set i (some (.ref p)) = σ := by
        obtain ⟨h1, h2⟩ := List.getElem?_eq_some_iff.mp e1
        rw [← h2, List.set_getElem_self]
      rw [hσ] at r2
      have hmi : m ≠ i := fun z => by
        rw [z, q] at e
        cases e
      have ns : ∀ (j : Nat) (y : SV) (ov : Option V), j ≠ i → ρ[j]? = some y → σ[j]? = some ov → ¬ Has y ov p := fun j y ov hj e3 e4 hh => hj (r.ap j i y _ ov _ p e3 q e4 e1 hh rfl)
      have ns2 : NoSl (ρ.set i (.d (.ptr p))) σ p := fun j y ov e3 e4 hh => by
        rcases set_at e3 with ⟨_, rfl, _⟩ | ⟨hj, e3⟩
        · exact hh
        · exact ns j y ov (Ne.symm hj) e3 e4 hh
      have em : (ρ.set i (.d (.ptr p)))[m]? = some (.mm μ) := by rw [List.getElem?_set_ne (Ne.symm hmi)]; exact e
      have nu : ∀ u, (p, u) ∉ μ := fun u hu => by
        obtain ⟨om, s2, _⟩ := r.at_ m _ e
        exact ns m _ om hmi e s2 ⟨u, hu⟩
      exact ⟨.ref p, e1, kq (.ref p) (.d (.ptr p)) S _ H (Gr.refl _ _) (r2.addM em b1 s1 ns2 o1) rfl (h p nu)⟩
    | _ => simp only [q] at h
/-- // by any number but 0 of less than 8000 bits -/
def fDivW (a b : D) (k : DV → Prop) : Prop := match a, b with
  | .int i, .int j => j ≠ 0 ∧ j.natAbs < 2 ^ 8000 ∧ k (.d (.int (i.fdiv j)))
  | _, _ => False
def CDivV (_ j : Int) : Prop := j ≠ 0 ∧ j.natAbs.log2 < 9000
abbrev rDivV : R2 := rI CDivV fun i j => .int (i.fdiv j)
theorem op_divV : OpR X (binaryOp .FloorDiv) rDivV := opI fun _ _ _ _ _ _ _ hc q => PyProof.Rows.floordiv_int hc.1 q (.inl (PyProof.noPylong_of_log2 hc.2))
theorem ok_divV {K : PySem.W.Frag} : OpOk K fDivW rDivV := by
  intro S H a b x y Qz QQ sh ha hb h kq
  unfold fDivW at h
  split at h
  · rename_i i j
    exact ⟨_, _, ha, hb, ⟨h.1, Nat.lt_of_lt_of_le (PySem.Flt.log2_lt_of (by decide) h.2.1) (by decide)⟩, kq _ _ H Res.int h.2.2⟩
  · exact h.elim
theorem d_divW {a b : Expr} {da db : DTE} (ha : DE X W a da) (hb : DE X W b db) : DE X W (.BinOp a .FloorDiv b pos) (dBin fDivW da db) := d_bin op_divV ok_divV ha hb
theorem fDivW_i {i j : Int} {k : DV → Prop} : fDivW (.int i) (.int j) k = (j ≠ 0 ∧ j.natAbs < 2 ^ 8000 ∧ k (.d (.int (i.fdiv j)))) := rfl
end
/-! the place of an item in a told list -/
theorem ixR {K : PySem.W.Frag} {S H : Hp} {p : Addr} {xs as : List D} {vs ws : List V} {k : D → List D → Prop} {QQ : VK} (hq : SqL K H p vs) (hx : RpL K S xs vs) (ha : RpL K S as ws) (h : gIndex xs as k) (kq : ∀ j : Nat, k (.int (j : Nat)) xs → QQ (.int (j : Nat)) H) : rIndex K (.ref p) ws H QQ := by
  unfold gIndex at h
  split at h
  · rename_i a
    obtain ⟨v, us, e, h1, h2⟩ := ha
    have h2 : us = [] := h2
    obtain ⟨fa, fx, h⟩ := h
    cases c : xs.findIdx? fun z => D.eqv z a with
    | none => simp only [c] at h
    | some j =>
      simp only [c] at h
      rw [List.findIdx?_eq_some_iff_getElem] at c
      obtain ⟨hj, hz, hno⟩ := c
      obtain ⟨w, e1, e2⟩ := hx.get (i := j) (x := xs[j]) (List.getElem?_eq_getElem hj)
      obtain ⟨i1, _⟩ := inV_any fa h1 fx hx
      have fl : ∀ (m : Nat) (hm : m < xs.length), (xs[m]).flat = true := fun m hm => List.all_eq_true.mp fx _ (List.getElem_mem hm)
      refine ⟨p, vs, v, j, w, rfl, by rw [e, h2], hq, flat_V fa h1, i1, e1, ?_, fun m z hm hz' => ?_, kq j h⟩
      · rw [flat_eqv fa (fl j hj) h1 e2]; exact hz
      · have hm' : m < xs.length := by omega
        obtain ⟨w', e3, e4⟩ := hx.get (i := m) (x := xs[m]) (List.getElem?_eq_getElem hm')
        rw [hz'] at e3
        cases e3
        rw [flat_eqv fa (fl m hm') h1 e4]
        exact Bool.eq_false_iff.mpr (hno m hm)
  · exact h.elim
def dLI (i : Nat) (dl : DTA) : DTE := fun ρ Q E => match ρ[i]? with
  | some (.d (.lst xs)) => dl ρ (fun as ρ1 => gIndex xs as fun c _ => Q (.d c) ρ1) E
  | _ => False
section
variable {X : Cx} {W : WX} {e : Expr} {es : List Expr} {y : Str} {py apos cpos : Pos} {dl : DTA}
theorem d_lI (i : Nat) (ha : DA X W (e :: es) dl)
    (hN : X.N[i]? = some y := by rfl) (hv : Vis X.env.scope y := by first | exact Or.inl rfl | exact Or.inr (Or.inl rfl) | exact Or.inr (Or.inr rfl)) (hd : (y == ("__debug__" : Str)) = false := by decide) (hcd : (y == ("__classdict__" : Str)) = false := by decide)
    (hbase : attributeBase (.Name y py) "index" X.env (eval (.Name y py) X.env) = eval (.Name y py) X.env := by rfl)
    (hfew : ((backTo cpos (starEach (e :: es) X.env)).all (fun x => !x.1) && (backToKw cpos (keywordEach [] X.env)).all (fun x => x.1.isSome) && decide ((e :: es).length + ([] : List Keyword).length + (if ([] : List Keyword).isEmpty then 0 else 1) < 30)) = true := by rfl)
    (hline : (apos.endLine == cpos.line) = true := by rfl) (hs : starEach (e :: es) X.env = (false, eval e X.env) :: starEach es X.env := by rfl) (hpl : (backTo cpos (starEach es X.env)).any (·.1) = false := by rfl) :
    DE X W (.Call (.Attribute (.Name y py) "index" apos) (e :: es) [] cpos) (dLI i dl) := by
  refine pe_imp (pe_bm PySem.F.plainAttrs_list PySem.F.slot_list_index PySem.F.type_list_index mt_index (pv i hN hv hd hcd) ha hbase hfew hline hs hpl) fun σ H QQ h => ?_
  obtain ⟨F, S, ρ, Q, Ee, rr, h, kq, ke⟩ := h
  unfold dLI at h
  split at h
  · rename_i xs q
    obtain ⟨ov, e1, w, e2, h2⟩ := rr.at_ i _ q
    obtain ⟨p, vs, c1, c2, c3⟩ := h2
    subst c1 e2
    refine ⟨_, e1, .inl ⟨rfl, _, SqL.of (rr.s _ _ c2)⟩, F, S, ρ, _, Ee, rr, h, fun ws as S1 ρ1 H1 g1 r1 p1 q1 => ?_, ke⟩
    exact ixR (SqL.of (r1.s _ _ (g1.s _ _ c2))) (RpL.mono g1.s c3) p1 q1 fun j hj => kq (.int (j : Nat)) (.d (.int (j : Nat))) S1 ρ1 H1 g1 r1 rfl hj
  · exact h.elim
end
end DW
/-! DWen: what is walked in new pairs: enumerate, zip. -/
namespace DW
open PySem L2
/-- each turn gives an item of fixed data in a new tuple -/
def GoF (K : PySem.W.Frag) (S : Hp) (J : It) (ds : List D) : Prop := ∀ i H', Same S H' → i < ds.length → J.go i H' ∧ ∀ x H2, J.yld i H' x H2 → ∃ (T : Addr) (ws : List V) (es : List D), x = .ref T ∧ H' T = none ∧ H2 = upd H' T (.tup ws) ∧ ds[i]? = some (.tup es) ∧ RpL K S es ws
/-- reading of what is walked -/
abbrev DTI := List SV → (List D → List SV → Prop) → (DExc → List SV → Prop) → Prop
def tI (K : PySem.W.Frag) (W : WX) (di : DTI) : TI := fun σ H Rr => ∃ (F : Fm) (S : Hp) (ρ : List SV) (Q : List D → List SV → Prop) (Ee : DExc → List SV → Prop), R K F S ρ σ H ∧ di ρ Q Ee ∧
  (∀ ds S' ρ' H' J, Gr F.B S S' → R K F S' ρ' σ H' → GoF K S' J ds → (∀ H2, Same S' H2 → J.stop ds.length H2) → Q ds ρ' → Rr J H') ∧
  (∀ e cls d S' ρ' H', Gr F.B S S' → R K F S' ρ' σ H' → XR K S' H' e cls d → Ee e ρ' → W cls d σ H')
theorem pi_imp {X : Cx} {tg it : Expr} {t t' : TI} (h : PI X tg it t) (i : ∀ σ H Q, t' σ H Q → t σ H Q) : PI X tg it t' := ⟨fun pins s σ H Q I q => h.run pins s σ H Q I (i σ H Q q)⟩
section
variable {K : PySem.W.Frag} {F : Fm} {S H : Hp} {ρ : List SV} {σ : St}
theorem R.pair (r : R K F S ρ σ H) {T : Addr} {ws : List V} {es : List D} (hT : H T = none) (p : RpL K S es ws) : ∃ S', Gr F.B S S' ∧ R K F S' ρ σ (upd H T (.tup ws)) ∧ Rp K S' (.tup es) (.ref T) := by
  have r1 : R K F S ρ σ (upd H T (.tup ws)) := r.grow fun a w e => by rw [upd_ne (ne_of_none e hT)]; exact e
  obtain ⟨S', r2, g, h⟩ := r1.tellT (p := T) (xs := ws) upd_same
  exact ⟨S', g, r2, T, ws, rfl, h, RpL.mono g.s p⟩
theorem lc_turnsF {J : It} {js : List Nat} {dg : DTG} {dt : DTT} {de : DTE} {us : List Nat} {ds : List D} {Qd : List D → List SV → Prop} {QQ : VK} (r0 : R K F S ρ σ H) (hjs : ∀ j, j ∈ js → j ∈ us)
    (h : dLcN dg dt de us (fun acc ρ3 => Qd acc (backD ρ3 ρ us)) ds [] (wipeD ρ us)) (go : GoF K S J ds) (stop : ∀ H', Same S H' → J.stop ds.length H')
    (kq : ∀ v acc S' ρ' H', Gr F.B S S' → R K F S' ρ' σ H' → VR K F S' ρ' σ H' v (.fr (.l acc)) → Qd acc ρ' → QQ v H') : ∀ L, H L = none → ∃ Wt : Nat → Nat → Hp → Prop, (∃ m, Wt 0 m (upd H L (.lst []))) ∧ ∀ i m H, Wt i m H →
      (J.stop i H ∧ QQ (.ref L) H) ∨ (J.go i H ∧ ∃ Nx : Hp → Prop, (∀ H', Nx H' → ∃ m', m' < m ∧ Wt (i + 1) m' H') ∧ ∀ x H', J.yld i H x H' → gD K js dg x (L2.wipe σ us) H' fun σ2 H2 => L2.wipe σ2 us = L2.wipe σ us ∧ tDT K W0 dt σ2 H2 fun b H3 =>
        if b = true then tD K W0 de σ2 H3 fun y H4 => ∃ acc, H4 L = some (.lst acc) ∧ acc.length < sizeLine ∧ Nx (upd H4 L (.lst (acc ++ [y]))) else Nx H3) := by
  intro L hL
  have bL := r0.newB hL
  have nL := NoSl.new r0 hL
  -- between two turns: the list at L holds acc, outside of all that is told
  refine ⟨fun i m H1 => m = ds.length - i ∧ i ≤ ds.length ∧ ∃ S1 ρ1 acc ws, Gr F.B S S1 ∧ R K F S1 ρ1 (L2.wipe σ us) H1 ∧ S1 L = none ∧ NoSl ρ1 (L2.wipe σ us) L ∧ H1 L = some (.lst ws) ∧ RpL K S1 acc ws ∧ dLcN dg dt de us (fun acc ρ3 => Qd acc (backD ρ3 ρ us)) (ds.drop i) acc ρ1,
    ⟨_, rfl, Nat.zero_le _, S, wipeD ρ us, [], [], Gr.refl _ _, ?_, bL.2, ?_, upd_same, rfl, h⟩, ?_⟩
  · exact (r0.beside bL.1 bL.2 nL).wipe us
  · exact NoSl.new (r0.wipe us) hL
  rintro i m H1 ⟨rfl, hi, S1, ρ1, acc, ws, g1, r1, s1, n1, hw, pa, w1⟩
  have sH : Same S H1 := g1.s.trans r1.s
  by_cases c : i < ds.length
  · have e : ds.drop i = ds[i] :: ds.drop (i + 1) := List.drop_eq_getElem_cons c
    rw [e] at w1
    obtain ⟨gg, gy⟩ := go i H1 sH c
    refine .inr ⟨gg, fun H' => ∃ S' ρ' acc ws, Gr F.B S S' ∧ R K F S' ρ' (L2.wipe σ us) H' ∧ S' L = none ∧ NoSl ρ' (L2.wipe σ us) L ∧ H' L = some (.lst ws) ∧ RpL K S' acc ws ∧ dLcN dg dt de us (fun acc ρ3 => Qd acc (backD ρ3 ρ us)) (ds.drop (i + 1)) acc ρ',
      fun H' q => ⟨ds.length - (i + 1), by omega, rfl, c, q⟩, fun x H2 y => ?_⟩
    obtain ⟨T, us', es, rfl, hT, rfl, hd, pe⟩ := gy x H2 y
    rw [List.getElem?_eq_getElem c] at hd
    have hd : ds[i] = .tup es := Option.some.inj hd
    rw [hd] at w1
    obtain ⟨S2, g2, r2, p2⟩ := (r1.keep hw n1).pair hT (RpL.mono g1.s pe)
    refine ⟨F.and L (.lst ws), S2, ρ1, .tup es, _, r2, p2, w1, fun ρ2 σ2 S3 H3 g3 r3 hwipe q2 => ⟨(hwipe us hjs).trans (wipe_wipe us fun _ h => h), ?_⟩⟩
    have ew := hwipe us hjs
    rw [wipe_wipe us fun _ h => h] at ew
    have fin : ∀ {S' ρ' H'}, Gr (F.and L (.lst ws)).B S1 S' → R K (F.and L (.lst ws)) S' ρ' σ2 H' → ∃ r' : R K F S' (wipeD ρ' us) (L2.wipe σ us) H', S' L = none ∧ NoSl (wipeD ρ' us) (L2.wipe σ us) L := fun {S' ρ' H'} g' r' => by
      have rw' := r'.wipe us
      rw [ew] at rw'
      exact ⟨rw'.drop bL.1, g'.kept r' (fun _ z => nomatch z) s1, rw'.noSl⟩
    have g13 := g2.trans g3
    refine ⟨F.and L (.lst ws), S3, ρ2, _, _, r3, q2, fun k S4 ρ3 H4 g4 r4 q3 => ?_, fun _ _ _ _ _ _ _ _ _ z => z.elim⟩
    have g14 := g13.trans g4
    cases k with
    | false =>
      obtain ⟨ra, rb, rc⟩ := fin g14 r4
      exact ⟨S4, _, acc, ws, g1.trans (g14.drop bL.1), ra, rb, rc, r4.kept, RpL.mono g14.s pa, q3⟩
    | true =>
      refine ⟨F.and L (.lst ws), S4, ρ3, _, _, r4, q3, fun w z S5 ρ4 H5 g5 r5 vr5 q4 => ?_, fun _ _ _ _ _ _ _ _ _ z => z.elim⟩
      obtain ⟨a', S6, ρ5, g6, r6, p6, q5⟩ := VR.stab r5 vr5 q4
      have g16 := (g14.trans g5).trans g6
      obtain ⟨ra, rb, rc⟩ := fin g16 r6
      refine ⟨ws, r6.kept, by rw [pa.length]; exact q5.1, S6, _, acc ++ [a'], ws ++ [w], g1.trans (g16.drop bL.1), ra.beside bL.1 rb rc, rb, rc, upd_same, RpL.append (RpL.mono g16.s pa) (RpL.one p6), q5.2⟩
  · have e : i = ds.length := by omega
    rw [e, List.drop_length] at w1
    refine .inl ⟨?_, ?_⟩
    · rw [e]
      exact stop H1 sH
    · have rb := r1.back r0 g1
      refine kq _ acc S1 _ H1 g1 rb ⟨L, rfl, bL.1, s1, fun i x ov h es ho => ?_, ws, hw, pa⟩ w1
      have hv : i ∉ us := fun hv => by
        have hi2 : i < ρ1.length := by
          have := (List.getElem?_eq_some_iff.mp h).1
          rw [back_len] at this; exact this
        rw [back_in hv hi2] at h
        cases h
        exact (keepD_has ho).elim
      rw [back_out hv] at h
      exact n1 i x ov h (by rw [wipe_out hv]; exact es) ho
theorem for_coreF {J : It} {js : List Nat} {De : DEnds} {D0 : Ends} {ds : List D} {dg : DTG} {db : DTS} {W : WX}
    (r : R K F S ρ σ H) (h : dForN dg db De ds ρ) (go : GoF K S J ds) (stop : ∀ H', Same S H' → J.stop ds.length H')
    (k1 : ∀ ρ' σ' S' H', Gr F.B S S' → R K F S' ρ' σ' H' → De.nx ρ' → D0.nx σ' H') (k2 : ∀ v x ρ' σ' S' H', Gr F.B S S' → R K F S' ρ' σ' H' → VR K F S' ρ' σ' H' v x → De.rt x ρ' → D0.rt v H')
    (k5 : ∀ e cls d ρ' σ' S' H', Gr F.B S S' → R K F S' ρ' σ' H' → XR K S' H' e cls d → De.ex e ρ' → W cls d σ' H') :
    ∃ Wt : Nat → Nat → St → Hp → Prop, (∃ m, Wt 0 m σ H) ∧ ∀ i m σ H, Wt i m σ H → (J.stop i H ∧ D0.nx σ H) ∨ (J.go i H ∧ ∃ N : St → Hp → Prop, (∀ σ' H', N σ' H' → ∃ m', m' < m ∧ Wt (i + 1) m' σ' H') ∧ ∀ x H', J.yld i H x H' →
      gD K js dg x σ H' fun σ2 H2 => tSD K W db { D0 with nx := N, ct := N, bk := D0.nx } σ2 H2) := by
  refine ⟨fun i m σ1 H1 => m = ds.length - i ∧ i ≤ ds.length ∧ ∃ S1 ρ1, Gr F.B S S1 ∧ R K F S1 ρ1 σ1 H1 ∧ dForN dg db De (ds.drop i) ρ1, ⟨_, rfl, Nat.zero_le _, S, ρ, Gr.refl _ _, r, h⟩, ?_⟩
  rintro i m σ1 H1 ⟨rfl, hi, S1, ρ1, g1, r1, w1⟩
  have sH : Same S H1 := g1.s.trans r1.s
  by_cases c : i < ds.length
  · have e : ds.drop i = ds[i] :: ds.drop (i + 1) := List.drop_eq_getElem_cons c
    rw [e] at w1
    obtain ⟨gg, gy⟩ := go i H1 sH c
    refine .inr ⟨gg, fun σ' H' => ∃ S' ρ', Gr F.B S S' ∧ R K F S' ρ' σ' H' ∧ dForN dg db De (ds.drop (i + 1)) ρ', fun σ' H' q => ⟨ds.length - (i + 1), by omega, rfl, c, q⟩, fun x H2 y => ?_⟩
    obtain ⟨T, us', es, rfl, hT, rfl, hd, pe⟩ := gy x H2 y
    rw [List.getElem?_eq_getElem c] at hd
    have hd : ds[i] = .tup es := Option.some.inj hd
    rw [hd] at w1
    obtain ⟨S2, g2, r2, p2⟩ := r1.pair hT (RpL.mono g1.s pe)
    refine ⟨F, S2, ρ1, .tup es, _, r2, p2, w1, fun ρ2 σ2 S3 H3 g3 r3 _ q2 => ?_⟩
    have g12 := (g1.trans g2).trans g3
    exact ⟨F, S3, ρ2, _, r3, q2, fun ρ' σ' S' H' g' r' q' => ⟨S', ρ', g12.trans g', r', q'⟩, fun v x ρ' σ' S' H' g' => k2 v x ρ' σ' S' H' (g12.trans g'), fun ρ' σ' S' H' g' => k1 ρ' σ' S' H' (g12.trans g'),
      fun ρ' σ' S' H' g' r' q' => ⟨S', ρ', g12.trans g', r', q'⟩, fun e cls d ρ' σ' S' H' g' => k5 e cls d ρ' σ' S' H' (g12.trans g')⟩
  · have e : i = ds.length := by omega
    rw [e, List.drop_length] at w1
    refine .inl ⟨?_, k1 ρ1 σ1 S1 H1 g1 r1 w1⟩
    rw [e]
    exact stop H1 sH
end
def dLcI (di : DTI) (dg : DTG) (dt : DTT) (de : DTE) (vs : List Nat) : DTE := fun ρ Q E => di ρ (fun ds ρ2 => dLcN dg dt de vs (fun acc ρ3 => Q (.fr (.l acc)) (backD ρ3 ρ2 vs)) ds [] (wipeD ρ2 vs)) E
def dForI (di : DTI) (dg : DTG) (body : DTS) : DTS := fun De ρ => di ρ (fun ds ρ2 => dForN dg body De ds ρ2) De.ex
section
variable {X : Cx} {W : WX} {elt tg iter : Expr} {ifs : List Expr} {scope : Scope} {own : List (Str × Nat)} {pos : Pos} {di : DTI} {de : DTE} {dg : DTG} {dt : DTT} {js : List Nat} {body : List Stmt} {db : DTS}
theorem d_lcI (hc : X.calm = true) (hN : X.N.Nodup) (hi : PI X tg iter (tI X.K W di)) (ok : BlkOk X.N X.env.scope scope own) (hjs : ∀ j, j ∈ js → j ∈ own.map (·.2))
    (hg : ∀ (s : Shared) (H : Hp) (C : Addr) (cl : List (Str × Addr)) (fp : List Addr), DG (X.blk s H scope (compEnvC scope cl C X.env) fp) tg js dg) (ht : ∀ (s : Shared) (H : Hp) (C : Addr) (cl : List (Str × Addr)) (fp : List Addr), DTs (X.blk s H scope (compEnvC scope cl C X.env) fp) ifs dt)
    (he : ∀ (s : Shared) (H : Hp) (C : Addr) (cl : List (Str × Addr)) (fp : List Addr), DE (X.blk s H scope (compEnvC scope cl C X.env) fp) W0 elt de) (hs : ∀ x, foldedSetIterable iter X.env x = pure x := by intro _; rfl) :
    DE X W (.ListComp elt [⟨tg, iter, ifs, 0⟩] scope pos) (dLcI di dg dt de (own.map (·.2))) := by
  refine pe_imp (pe_lc (g := gD X.K js dg) (tt := tDT X.K W0 dt) (te := tD X.K W0 de) hc hN hi ok hg ht he hs) fun σ H QQ ⟨F, S, ρ, Q, Ee, r, h, kq, ke⟩ => ?_
  exact ⟨F, S, ρ, _, Ee, r, h, fun ds S1 ρ1 H1 J g1 r1 go stop q1 => lc_turnsF r1 hjs q1 go stop fun v acc S' ρ' H' g' r' vr' q' => kq v _ S' ρ' H' (g1.trans g') r' vr' q', ke⟩
theorem d_setLcI {i : Nat} {y : Str} {py spos : Pos} (hc : X.calm = true) (hN : X.N.Nodup) (hy : X.N[i]? = some y) (hyl : X.env.scope.names.lookup y = some .local) (hsw : swapsWith (.ListComp elt [⟨tg, iter, ifs, 0⟩] scope pos) (some (.Name y py)) spos.line X.env = pure true)
    (hi : PI X tg iter (tI X.K W di)) (ok : BlkOk X.N X.env.scope scope own) (hjs : ∀ j, j ∈ js → j ∈ own.map (·.2))
    (hg : ∀ (s : Shared) (H : Hp) (C : Addr) (cl : List (Str × Addr)) (fp : List Addr), DG (X.blk s H scope (compEnvC scope cl C X.env) fp) tg js dg) (ht : ∀ (s : Shared) (H : Hp) (C : Addr) (cl : List (Str × Addr)) (fp : List Addr), DTs (X.blk s H scope (compEnvC scope cl C X.env) fp) ifs dt)
    (he : ∀ (s : Shared) (H : Hp) (C : Addr) (cl : List (Str × Addr)) (fp : List Addr), DE (X.blk s H scope (compEnvC scope cl C X.env) fp) W0 elt de) (hs : ∀ x, foldedSetIterable iter X.env x = pure x := by intro _; rfl) :
    DS X W (.Assign [.Name y py] (.ListComp elt [⟨tg, iter, ifs, 0⟩] scope pos) spos) (dSet i (dLcI di dg dt de (own.map (·.2)))) := by
  refine ps_imp (ps_setLc (g := gD X.K js dg) (tt := tDT X.K W0 dt) (te := tD X.K W0 de) hc hN hy hyl hsw hi ok hg ht he hs) fun D σ H ⟨F, S, ρ, De, r, h, k1, k2, k3, k4, k5⟩ => ?_
  refine ⟨F, S, ρ, _, _, r, h, fun ds S1 ρ1 H1 J g1 r1 go stop q1 => ?_, fun e cls d S' ρ' H' g' r' => k5 e cls d ρ' σ S' H' g' r'⟩
  exact lc_turnsF (Qd := fun acc ρ' => storeS i (.fr (.l acc)) ρ' De.nx) (QQ := fun v H' => gName i v σ H' D.nx) r1 hjs q1 go stop fun v acc S' ρ' H' g' r' vr' q' => by
    obtain ⟨S4, ρ4, g4, r4, q4⟩ := VR.store r' vr' q'
    exact k1 ρ4 _ S4 _ ((g1.trans g').trans g4) r4 q4
theorem d_forI (hp : PassesOwn (model X.prog X.w) X.A X.env X.xe) (hc : X.calm = true) (hi : PI X tg iter (tI X.K W di)) (hg : DG X tg js dg) (hb : DSs X W body db) (hs : ∀ x, foldedSetIterable iter X.env x = pure x := by intro _; rfl) : DS X W (.For tg iter body [] pos) (dForI di dg db) := by
  refine ps_imp (ps_for hp hc hi hg hb hs) fun D σ H ⟨F, S, ρ, De, r, h, k1, k2, k3, k4, k5⟩ => ?_
  exact ⟨F, S, ρ, _, _, r, h, fun ds S1 ρ1 H1 J g1 r1 go stop q1 => for_coreF r1 q1 go stop (fun ρ' σ' S' H' g' => k1 ρ' σ' S' H' (g1.trans g')) (fun v x ρ' σ' S' H' g' => k2 v x ρ' σ' S' H' (g1.trans g')) (fun e cls d ρ' σ' S' H' g' => k5 e cls d ρ' σ' S' H' (g1.trans g')), fun e cls d S' ρ' H' g' r' => k5 e cls d ρ' σ S' H' g' r'⟩
end
/-- a list's items, each with its number -/
def enumD (xs : List D) : List D := (List.range xs.length).map fun i : Nat => .tup [.int (i : Int), xs[i]?.getD .non]
def dEnum (dl : DTA) : DTI := fun ρ Q E => dl ρ (fun as ρ1 => match as with
  | [.lst xs] => Q (enumD xs) ρ1
  | _ => False) E
/-- two lists or tuples of one length, item by item -/
def zipD (xs ys : List D) : List D := (List.range xs.length).map fun i : Nat => .tup [xs[i]?.getD .non, ys[i]?.getD .non]
def dZip (dl : DTA) : DTI := fun ρ Q E => dl ρ (fun as ρ1 => match as with
  | [.lst xs, .lst ys] => xs.length = ys.length ∧ Q (zipD xs ys) ρ1
  | [.tup xs, .tup ys] => xs.length = ys.length ∧ Q (zipD xs ys) ρ1
  | _ => False) E
section
variable {X : Cx} {W : WX} {e e2 : Expr} {dl : DTA} {p pos tpos : Pos} {elts : List Expr} {kk : Nat}
theorem pi_en (hm : X.mg "enumerate" = none) (ha : DA X W [e] dl) (hg : Gl X "enumerate" := by rfl) (hs : starEach [e] X.env = [(false, eval e X.env)] := by rfl) : PI X (.Tuple elts kk tpos) (.Call (.Name "enumerate" p) [e] [] pos) (tI X.K W (dEnum dl)) := by
  refine pi_imp (pi_enum hg hm ha hs) fun σ H Rr ⟨F, S, ρ, Q, Ee, r, h, kq, ke⟩ => ?_
  refine ⟨F, S, ρ, _, Ee, r, h, fun vs as S1 ρ1 H1 g1 r1 p1 q1 => ?_, ke⟩
  split at q1
  · rename_i xs
    obtain ⟨v, us, ev, h1, h2⟩ := p1
    have h2 : us = [] := h2
    obtain ⟨a, ws, ea, h3, h4⟩ := h1
    subst ev ea h2
    have ln := h4.length
    have le : (enumD xs).length = xs.length := by unfold enumD; rw [List.length_map, List.length_range]
    refine ⟨a, ws, rfl, SqL.of (r1.s _ _ h3), kq (enumD xs) S1 ρ1 H1 _ g1 r1 (fun i H' s c => ?_) (fun H' s => ⟨ws, SqL.of (s _ _ h3), by omega⟩) q1⟩
    have c1 : i < ws.length := by omega
    refine ⟨⟨ws, ws[i], SqL.of (s _ _ h3), List.getElem?_eq_getElem c1⟩, fun x H2 ⟨T, y, e1, e2, e3, e4⟩ => ?_⟩
    have hy := e4 ws (SqL.of (s _ _ h3))
    obtain ⟨d, hd, rd⟩ := h4.getV hy
    refine ⟨T, _, [.int (i : Int), d], e1, e2, e3, ?_, RpL.cons rfl (RpL.one rd)⟩
    unfold enumD
    rw [List.getElem?_map, List.getElem?_range (by omega), Option.map_some, hd]
    rfl
  · exact q1.elim
theorem pi_zp (hm : X.mg "zip" = none) (ha : DA X W [e, e2] dl) (hg : Gl X "zip" := by rfl) (hs : starEach [e, e2] X.env = (false, eval e X.env) :: starEach [e2] X.env := by rfl) (hpl : (backTo pos (starEach [e2] X.env)).any (·.1) = false := by rfl) :
    PI X (.Tuple elts kk tpos) (.Call (.Name "zip" p) [e, e2] [] pos) (tI X.K W (dZip dl)) := by
  refine pi_imp (RZ.pi_zipA hg hm ha hs hpl) fun σ H Rr ⟨F, S, ρ, Q, Ee, r, h, kq, ke⟩ => ?_
  refine ⟨F, S, ρ, _, Ee, r, h, fun vs as S1 ρ1 H1 g1 r1 p1 q1 => ?_, ke⟩
  split at q1
  · rename_i xs ys
    obtain ⟨v, us, ev, ⟨a, ws, ea, h3, h4⟩, v2, us2, ev2, ⟨b, zs, eb, h5, h6⟩, e7⟩ := p1
    have e7 : us2 = [] := e7
    subst ev ea ev2 eb e7
    have ln := h4.length
    have ln2 := h6.length
    obtain ⟨hl, q1⟩ := q1
    have le : (zipD xs ys).length = xs.length := by unfold zipD; rw [List.length_map, List.length_range]
    refine ⟨a, b, ws, zs, rfl, .inl ⟨SqL.of (r1.s _ _ h3), SqL.of (r1.s _ _ h5), kq (zipD xs ys) S1 ρ1 H1 _ g1 r1 (fun i H' s c => ?_) (fun H' s => ⟨ws, zs, SqL.of (s _ _ h3), SqL.of (s _ _ h5), .inl (by omega)⟩) q1⟩⟩
    refine ⟨⟨ws, zs, ws[i]'(by omega), zs[i]'(by omega), SqL.of (s _ _ h3), SqL.of (s _ _ h5), List.getElem?_eq_getElem (by omega), List.getElem?_eq_getElem (by omega)⟩, fun x H2 ⟨T, y, z, e1, e2, e3, e4, e5⟩ => ?_⟩
    obtain ⟨d, hd, rd⟩ := h4.getV (e4 ws (SqL.of (s _ _ h3)))
    obtain ⟨d2, hd2, rd2⟩ := h6.getV (e5 zs (SqL.of (s _ _ h5)))
    refine ⟨T, _, [d, d2], e1, e2, e3, ?_, RpL.cons rd (RpL.one rd2)⟩
    unfold zipD
    rw [List.getElem?_map, List.getElem?_range (by omega), Option.map_some, hd, hd2]
    rfl
  · rename_i xs ys
    obtain ⟨v, us, ev, ⟨a, ws, ea, h3, h4⟩, v2, us2, ev2, ⟨b, zs, eb, h5, h6⟩, e7⟩ := p1
    have e7 : us2 = [] := e7
    subst ev ea ev2 eb e7
    have ln := h4.length
    have ln2 := h6.length
    obtain ⟨hl, q1⟩ := q1
    have le : (zipD xs ys).length = xs.length := by unfold zipD; rw [List.length_map, List.length_range]
    refine ⟨a, b, ws, zs, rfl, .inr ⟨SqT.of (r1.s _ _ h3), SqT.of (r1.s _ _ h5), kq (zipD xs ys) S1 ρ1 H1 _ g1 r1 (fun i H' s c => ?_) (fun H' s => ⟨ws, zs, SqT.of (s _ _ h3), SqT.of (s _ _ h5), .inl (by omega)⟩) q1⟩⟩
    refine ⟨⟨ws, zs, ws[i]'(by omega), zs[i]'(by omega), SqT.of (s _ _ h3), SqT.of (s _ _ h5), List.getElem?_eq_getElem (by omega), List.getElem?_eq_getElem (by omega)⟩, fun x H2 ⟨T, y, z, e1, e2, e3, e4, e5⟩ => ?_⟩
    obtain ⟨d, hd, rd⟩ := h4.getV (e4 ws (SqT.of (s _ _ h3)))
    obtain ⟨d2, hd2, rd2⟩ := h6.getV (e5 zs (SqT.of (s _ _ h5)))
    refine ⟨T, _, [d, d2], e1, e2, e3, ?_, RpL.cons rd (RpL.one rd2)⟩
    unfold zipD
    rw [List.getElem?_map, List.getElem?_range (by omega), Option.map_some, hd, hd2]
    rfl
  · exact q1.elim
end
theorem fAbs_i {i : Int} {k : DV → Prop} : fAbs (.int i) k = k (.d (.int (if i < 0 then -i else i))) := rfl
theorem d_abs {X : Cx} {W : WX} {e : Expr} {p pos : Pos} {da : DTE} (hm : X.mg "abs" = none) (ha : DE X W e da) (hg : Gl X "abs" := by rfl) (h1 : A1 X e pos := by exact ⟨rfl, rfl⟩) : DE X W (.Call (.Name "abs" p) [e] [] pos) (dUn fAbs da) := by
  refine d_b1 call_abs (fun S H a x Qz QQ sh ha h kq => ?_) hm ha hg (by decide +kernel) (by decide) (by decide) h1
  cases a with
  | int i =>
    have ha : x = .int i := ha
    exact ⟨i, by rw [ha], kq _ _ _ Res.int h⟩
  | _ => exact h.elim
end DW
/-! DWds: methods and calls over a thing of the memory, which is lent by reference. -/
namespace DW
open PySem L2
/-- the cell p holds o, moved to the end -/
def memM (μ : List (Addr × OO)) (p : Addr) (o : OO) : List (Addr × OO) := memD μ p ++ [(p, o)]
section
variable {K : PySem.W.Frag} {F : Fm} {S H : Hp} {ρ : List SV} {σ : St}
/-- a new thing as a further slot -/
theorem R.push {p : Addr} {o : OO} (r : R K F S ρ σ H) (v : VR K F S ρ σ H (.ref p) (.fr o)) : R K ⟨F.B, F.vs, F.n + 1⟩ S (ρ ++ [.ow o]) (σ ++ [some (.ref p)]) H := by
  obtain ⟨q, e, b, s, ns, h⟩ := v
  cases e
  have old : ∀ {i : Nat} {x : SV} {ov : Option V}, (ρ ++ [SV.ow o])[i]? = some x → (σ ++ [some (V.ref p)])[i]? = some ov → (ρ[i]? = some x ∧ σ[i]? = some ov ∧ i < ρ.length) ∨ (i = ρ.length ∧ x = .ow o ∧ ov = some (.ref p)) := fun {i x ov} h1 h2 => by
    by_cases c : i < ρ.length
    · rw [List.getElem?_append_left c] at h1
      rw [List.getElem?_append_left (by rw [← r.len]; exact c)] at h2
      exact .inl ⟨h1, h2, c⟩
    · rw [List.getElem?_append_right (by omega)] at h1
      rw [List.getElem?_append_right (by rw [← r.len]; omega), ← r.len] at h2
      have hi : i - ρ.length = 0 := by
        by_cases z : i - ρ.length = 0
        · exact z
        · rw [List.getElem?_eq_none (by simp; omega)] at h1
          cases h1
      rw [hi] at h1 h2
      cases h1
      cases h2
      exact .inr ⟨by omega, rfl, rfl⟩
  refine ⟨by simp [r.len], by simp [r.ln], r.b, r.s, fun i x h1 => ?_, fun i j x y ov ow q hx hy sx sy ax ay => ?_⟩
  · by_cases c : i < ρ.length
    · rw [List.getElem?_append_left c] at h1
      obtain ⟨ov, e1, e2⟩ := r.at_ i x h1
      exact ⟨ov, by rw [List.getElem?_append_left (by rw [← r.len]; exact c)]; exact e1, e2⟩
    · have hi : i = ρ.length := by
        have := (List.getElem?_eq_some_iff.mp h1).1
        rw [List.length_append, List.length_singleton] at this
        omega
      subst hi
      rw [List.getElem?_append_right (Nat.le_refl _), Nat.sub_self] at h1
      cases h1
      exact ⟨some (.ref p), by rw [List.getElem?_append_right (by rw [r.len]; exact Nat.le_refl _), r.len, Nat.sub_self]; rfl, p, rfl, b, s, h⟩
  · rcases old hx sx with ⟨h1, h2, c1⟩ | ⟨h1, rfl, rfl⟩ <;> rcases old hy sy with ⟨h3, h4, c2⟩ | ⟨h3, rfl, rfl⟩
    · exact r.ap i j x y ov ow q h1 h3 h2 h4 ax ay
    · have ay : some (V.ref p) = some (V.ref q) := ay
      cases ay
      exact (ns i x ov h1 h2 ax).elim
    · have ax : some (V.ref p) = some (V.ref q) := ax
      cases ax
      exact (ns j y ow h3 h4 ay).elim
    · omega
/-- the further slot is given up -/
theorem R.popS {p : Addr} {o : OO} (r : R K ⟨F.B, F.vs, F.n + 1⟩ S (ρ ++ [.ow o]) (σ ++ [some (.ref p)]) H) (hl : ρ.length = σ.length) : R K F S ρ σ H ∧ VR K F S ρ σ H (.ref p) (.fr o) ∧ ∀ q, NoSl (ρ ++ [.ow o]) (σ ++ [some (.ref p)]) q → NoSl ρ σ q ∧ q ≠ p := by
  have up : ∀ {i : Nat} {x : SV}, ρ[i]? = some x → (ρ ++ [SV.ow o])[i]? = some x := fun {i x} h => by rw [List.getElem?_append_left (List.getElem?_eq_some_iff.mp h).1]; exact h
  have upS : ∀ {i : Nat} {x : Option V}, σ[i]? = some x → (σ ++ [some (V.ref p)])[i]? = some x := fun {i x} h => by rw [List.getElem?_append_left (List.getElem?_eq_some_iff.mp h).1]; exact h
  have top : (ρ ++ [SV.ow o])[ρ.length]? = some (.ow o) := by rw [List.getElem?_append_right (Nat.le_refl _), Nat.sub_self]; rfl
  have topS : (σ ++ [some (V.ref p)])[ρ.length]? = some (some (.ref p)) := by rw [List.getElem?_append_right (by omega), hl, Nat.sub_self]; rfl
  have ns : NoSl ρ σ p := fun i x ov h1 h2 h3 => by
    have e := r.ap i ρ.length x _ ov _ p (up h1) top (upS h2) topS h3 rfl
    have := (List.getElem?_eq_some_iff.mp h1).1
    omega
  obtain ⟨ov, e1, q, e2, b, s, h⟩ := r.at_ ρ.length _ top
  rw [topS] at e1
  cases e1
  cases e2
  refine ⟨⟨hl, by have := r.ln; simp at this; exact this, r.b, r.s, fun i x h1 => ?_, fun i j x y ov ow q hx hy sx sy ax ay => r.ap i j x y ov ow q (up hx) (up hy) (upS sx) (upS sy) ax ay⟩, ⟨p, rfl, b, s, ns, h⟩, fun q hq => ⟨fun i x ov h1 h2 => hq i x ov (up h1) (upS h2), fun z => hq ρ.length _ _ top topS (by rw [z]; exact rfl)⟩⟩
  obtain ⟨ov, e1, e2⟩ := r.at_ i x (up h1)
  have hi := (List.getElem?_eq_some_iff.mp h1).1
  rw [List.getElem?_append_left (by omega)] at e1
  exact ⟨ov, e1, e2⟩
/-- what a call over a lent thing may hand back -/
def noS (x : DV) (k : Prop) : Prop := match x with
  | .d _ => k
  | .fr _ => k
  | _ => False
def lentQ (bs : List SV) (k : OO → Prop) : Prop := match bs with
  | .rf o :: _ => k o
  | _ => False
theorem lentQ_eq {bs : List SV} {k : OO → Prop} (h : lentQ bs k) : ∃ o cs, bs = .rf o :: cs ∧ k o := by
  unfold lentQ at h
  split at h
  · exact ⟨_, _, rfl, h⟩
  · exact h.elim
theorem lend_ok {n m : Nat} {μ : List (Addr × OO)} {p : Addr} {o : OO} {G : DSp} {as : List D} {vs : List V} {Q : DV → List SV → Prop} {E : DExc → List SV → Prop} {QQ : VK} {EE : XK}
    (r : R K F S ρ σ H) (hm : ρ[m]? = some (.mm μ)) (hp : μ.lookup p = some o) (pa : RpL K S as vs) (hn : vs.length + 1 = n)
    (h : G (.rf o :: as.map .d) (fun x bs => lentQ bs fun o' => noS x (Q x (ρ.set m (.mm (memM μ p o'))))) (fun e bs => lentQ bs fun o' => E e (ρ.set m (.mm (memM μ p o')))))
    (kq : ∀ v x S' ρ' H', Gr F.B S S' → R K F S' ρ' σ H' → VR K F S' ρ' σ H' v x → Q x ρ' → QQ v H') (ke : ∀ e cls d S' ρ' H', Gr F.B S S' → R K F S' ρ' σ H' → XR K S' H' e cls d → E e ρ' → EE cls d H') : spD K n G (.ref p :: vs) H QQ EE := by
  obtain ⟨r2, v2⟩ := r.outM hm hp
  have r3 := r2.push v2
  have hl2 : (ρ.set m (.mm (memD μ p))).length = σ.length := r2.len
  have top : ((ρ.set m (.mm (memD μ p))) ++ [SV.ow o])[(ρ.set m (.mm (memD μ p))).length]? = some (.ow o) := by rw [List.getElem?_append_right (Nat.le_refl _), Nat.sub_self]; rfl
  have topS : (σ ++ [some (V.ref p)])[(ρ.set m (.mm (memD μ p))).length]? = some (some (.ref p)) := by rw [List.getElem?_append_right (by omega), hl2, Nat.sub_self]; rfl
  have hml : m < ρ.length := (List.getElem?_eq_some_iff.mp hm).1
  have em : (ρ.set m (.mm (memD μ p)))[m]? = some (.mm (memD μ p)) := List.getElem?_set_self hml
  have setTop : ∀ o' : OO, ((ρ.set m (.mm (memD μ p))) ++ [SV.ow o]).set (ρ.set m (.mm (memD μ p))).length ((SV.ow o).re o') = (ρ.set m (.mm (memD μ p))) ++ [.ow o'] := fun o' => by
    rw [List.set_append_right _ _ (Nat.le_refl _), Nat.sub_self]
    rfl
  have back : ∀ {S' : Hp} {o' : OO} {H' : Hp}, R K ⟨F.B, F.vs, F.n + 1⟩ S' ((ρ.set m (.mm (memD μ p))) ++ [.ow o']) (σ ++ [some (.ref p)]) H' → R K F S' (ρ.set m (.mm (memM μ p o'))) σ H' ∧ ∀ q, NoSl ((ρ.set m (.mm (memD μ p))) ++ [.ow o']) (σ ++ [some (.ref p)]) q → NoSl (ρ.set m (.mm (memM μ p o'))) σ q := fun {S' o' H'} r' => by
    obtain ⟨r4, ⟨q, eq, b4, s4, ns4, h4⟩, ns⟩ := r'.popS hl2
    cases eq
    have r5 := r4.addM em b4 s4 ns4 h4
    rw [List.set_set] at r5
    refine ⟨r5, fun q hq => ?_⟩
    obtain ⟨n1, n2⟩ := ns q hq
    refine fun i x ov h1 h2 h3 => ?_
    rcases set_at h1 with ⟨rfl, rfl, _⟩ | ⟨hne, h1⟩
    · obtain ⟨u, hu⟩ := h3
      rcases List.mem_append.mp hu with hu | hu
      · exact n1 m (.mm (memD μ p)) ov em h2 ⟨u, hu⟩
      · cases List.mem_singleton.mp hu
        exact n2 rfl
    · exact n1 i x ov (by rw [List.getElem?_set_ne hne]; exact h1) h2 h3
  refine callR_ok (F := ⟨F.B, F.vs, F.n + 1⟩) (i := (ρ.set m (.mm (memD μ p))).length) (y := .ow o) (Q := fun x ρ' => ∃ o', ρ' = (ρ.set m (.mm (memD μ p))) ++ [.ow o'] ∧ noS x (Q x (ρ.set m (.mm (memM μ p o'))))) (E := fun e ρ' => ∃ o', ρ' = (ρ.set m (.mm (memD μ p))) ++ [.ow o'] ∧ E e (ρ.set m (.mm (memM μ p o')))) r3 top rfl topS pa hn ?_ (fun v x S' ρ' H' g' r' vr' q' => ?_) fun e cls d S' ρ' H' g' r' xr' q' => ?_
  · have same : ∀ (bs : List SV) (k : OO → Prop), (∃ o' cs, bs = .rf o' :: cs ∧ ∃ o2, ((ρ.set m (.mm (memD μ p))) ++ [SV.ow o]).set (ρ.set m (.mm (memD μ p))).length ((SV.ow o).re o') = (ρ.set m (.mm (memD μ p))) ++ [.ow o2] ∧ k o2) = lentQ bs k := fun bs k => propext ⟨fun ⟨o', cs, e, o2, e2, hk⟩ => by
      rw [setTop o'] at e2
      have e3 := List.append_cancel_left e2
      injection e3 with e4
      injection e4 with e5
      subst e5 e
      exact hk, fun hx => by
      obtain ⟨o', cs, rfl, hx⟩ := lentQ_eq hx
      exact ⟨o', cs, rfl, o', setTop o', hx⟩⟩
    simp only [same]
    exact h
  · obtain ⟨o', rfl, q'⟩ := q'
    obtain ⟨r5, ns⟩ := back r'
    cases x with
    | d a => exact kq v (.d a) S' _ H' g' r5 vr' q'
    | fr o2 =>
      obtain ⟨p2, e, b, s, n2, h2⟩ := vr'
      exact kq v (.fr o2) S' _ H' g' r5 ⟨p2, e, b, s, ns p2 n2, h2⟩ q'
    | sl i => exact q'.elim
    | me q => exact q'.elim
  · obtain ⟨o', rfl, q'⟩ := q'
    obtain ⟨r5, _⟩ := back r'
    exact ke e cls d S' _ H' g' r5 xr' q'
end
/-- o.f(..), o a pointer to an instance of the memory, lent by reference -/
def dMethP (m n : Nat) (C0 : Addr) (f : Str) (G : DSp) (de : DTE) (dl : DTA) : DTE := fun ρ Q E => de ρ (fun x ρ1 => match x with
  | .d (.ptr p) => (atM ρ1 m fun μ => match μ.lookup p with | some (.i C fs) => C = C0 ∧ fs.lookup f = none | _ => False) ∧ dl ρ1 (fun as ρ2 => as.length + 1 = n ∧ atM ρ2 m fun μ => match μ.lookup p with
    | some o => G (.rf o :: as.map .d) (fun x bs => lentQ bs fun o' => noS x (Q x (ρ2.set m (.mm (memM μ p o'))))) (fun e bs => lentQ bs fun o' => E e (ρ2.set m (.mm (memM μ p o'))))
    | none => False) E
  | _ => False) E
/-- f(o, ..), o a pointer to a thing of the memory, lent by reference -/
def dCallP (m n : Nat) (G : DSp) (dl : DTA) : DTE := fun ρ Q E => dl ρ (fun as ρ1 => match as with
  | .ptr p :: as' => as'.length + 1 = n ∧ atM ρ1 m fun μ => match μ.lookup p with
    | some o => G (.rf o :: as'.map .d) (fun x bs => lentQ bs fun o' => noS x (Q x (ρ1.set m (.mm (memM μ p o'))))) (fun e bs => lentQ bs fun o' => E e (ρ1.set m (.mm (memM μ p o'))))
    | none => False
  | _ => False) E
section
variable {X : Cx} {W : WX} {k : Nat} {f C : Addr} {fd : FuncData} {ps : List Str} {G : DSp} {x fn : Str} {p pos apos : Pos} {e o : Expr} {es : List Expr} {dl : DTA} {de : DTE}
theorem d_methP (m : Nat) {pl : Sem Bool} (c : Cls X.K C) (hm : Meth X.K C fn f) (F0 : FnOk X.prog X.w X.K X.mg X.base (L2N.CX X.prog X.w) k f fd ps (spD X.K ps.length G)) (hr : Room k X.A) (hb : Binds X.K fd ps []) (tk : L2N.Takes X W) (ho : DE X W o de) (ha : DA X W (e :: es) dl)
    (hst : starEach (e :: es) X.env = (false, eval e X.env) :: starEach es X.env := by rfl) (hpl : (backTo pos (starEach es X.env)).any (·.1) = false := by rfl)
    (ht : eval (.Call (.Attribute o fn apos) (e :: es) [] pos) X.env = (do let ov ← eval o X.env; standAt apos.atName; let (f, first) ← holding [ov] (getMethod ov fn pl); callWith pos f first (backTo pos (starEach (e :: es) X.env)) (backToKw pos (keywordEach [] X.env))) := by rfl) :
    DE X W (.Call (.Attribute o fn apos) (e :: es) [] pos) (dMethP m ps.length C fn G de dl) := by
  refine pe_imp (pe_methQ (E := WE W) ho c hm F0 hr hb (fun σ => L2N.passAt tk σ) ha hst hpl ht) fun σ H QQ ⟨F, S, ρ, Q, Ee, r, h, kq, ke⟩ => ?_
  refine ⟨F, S, ρ, _, Ee, r, h, fun v x S1 ρ1 H1 g1 r1 vr1 q1 => ?_, ke⟩
  cases x with
  | d a =>
    cases a with
    | ptr p =>
      have vr1 : v = .ref p := vr1
      obtain ⟨q0, q1⟩ := q1
      obtain ⟨μ0, e0, q0⟩ := atM_ok q0
      cases l0 : μ0.lookup p with
      | none => simp only [l0] at q0
      | some oo0 =>
        cases oo0 with
        | i C' fs =>
          simp only [l0] at q0
          obtain ⟨rfl, qf⟩ := q0
          obtain ⟨_, _, dx, ws, a4, a5⟩ := (r1.memAt e0).2 p _ (look_mem l0)
          refine ⟨p, dx, ws, vr1, a4, (a5.lookup (f := fn)).2 qf, F, S1, ρ1, _, Ee, r1, q1, fun vs xs S2 ρ2 H2 g2 r2 p2 q2 => ?_, fun er cls d S' ρ' H' g' r' => ke er cls d S' ρ' H' (g1.trans g') r'⟩
          obtain ⟨hl, q2⟩ := q2
          obtain ⟨μ, e, q3⟩ := atM_ok q2
          have g12 := g1.trans g2
          cases l1 : μ.lookup p with
          | none => simp only [l1] at q3
          | some oo =>
            simp only [l1] at q3
            rw [vr1]
            exact lend_ok (Q := Q) (E := Ee) r2 e l1 p2 (by rw [p2.length]; exact hl) q3 (fun v x S' ρ' H' g' r' vr' q' => kq v x S' ρ' H' (g12.trans g') r' vr' q') fun e cls d S' ρ' H' g' r' xr' q' => ke e cls d S' ρ' H' (g12.trans g') r' xr' q'
        | _ => simp only [l0] at q0
    | _ => exact False.elim q1
  | _ => exact False.elim q1
theorem d_methP0 (m : Nat) {pl : Sem Bool} (c : Cls X.K C) (hm : Meth X.K C fn f) (F0 : FnOk X.prog X.w X.K X.mg X.base (L2N.CX X.prog X.w) k f fd ps (spD X.K ps.length G)) (hr : Room k X.A) (hb : Binds X.K fd ps []) (tk : L2N.Takes X W) (ho : DE X W o de)
    (ht : eval (.Call (.Attribute o fn apos) [] [] pos) X.env = (do let ov ← eval o X.env; standAt apos.atName; let (f, first) ← holding [ov] (getMethod ov fn pl); callWith pos f first (backTo pos (starEach [] X.env)) (backToKw pos (keywordEach [] X.env))) := by rfl) :
    DE X W (.Call (.Attribute o fn apos) [] [] pos) (dMethP m ps.length C fn G de dANil) := by
  refine pe_imp (pe_methQ0 (E := WE W) ho c hm F0 hr hb (fun σ => L2N.passAt tk σ) ht) fun σ H QQ ⟨F, S, ρ, Q, Ee, r, h, kq, ke⟩ => ?_
  refine ⟨F, S, ρ, _, Ee, r, h, fun v x S1 ρ1 H1 g1 r1 vr1 q1 => ?_, ke⟩
  cases x with
  | d a =>
    cases a with
    | ptr p =>
      have vr1 : v = .ref p := vr1
      obtain ⟨q0, q1⟩ := q1
      obtain ⟨μ0, e0, q0⟩ := atM_ok q0
      cases l0 : μ0.lookup p with
      | none => simp only [l0] at q0
      | some oo0 =>
        cases oo0 with
        | i C' fs =>
          simp only [l0] at q0
          obtain ⟨rfl, qf⟩ := q0
          obtain ⟨_, _, dx, ws, a4, a5⟩ := (r1.memAt e0).2 p _ (look_mem l0)
          refine ⟨p, dx, ws, vr1, a4, (a5.lookup (f := fn)).2 qf, ?_⟩
          obtain ⟨hl, q2⟩ := q1
          obtain ⟨μ, e, q3⟩ := atM_ok q2
          cases l1 : μ.lookup p with
          | none => simp only [l1] at q3
          | some oo =>
            simp only [l1] at q3
            rw [vr1]
            exact lend_ok (as := []) (Q := Q) (E := Ee) r1 e l1 rfl hl q3 (fun v x S' ρ' H' g' r' vr' q' => kq v x S' ρ' H' (g1.trans g') r' vr' q') fun e cls d S' ρ' H' g' r' xr' q' => ke e cls d S' ρ' H' (g1.trans g') r' xr' q'
        | _ => simp only [l0] at q0
    | _ => exact False.elim q1
  | _ => exact False.elim q1
theorem d_callP (m : Nat) (F0 : FnOk X.prog X.w X.K X.mg X.base (L2N.CX X.prog X.w) k f fd ps (spD X.K ps.length G)) (hr : Room k X.A) (hm : X.mg x = some (.ref f)) (hk : PySem.W.keepIn X.K (.ref f) = true) (hb : Binds X.K fd ps []) (tk : L2N.Takes X W) (ha : DA X W (e :: es) dl) (hg : Gl X x := by rfl)
    (hdb : (x == ("__debug__" : Str)) = false := by decide) (he : starEach (e :: es) X.env = (false, eval e X.env) :: starEach es X.env := by rfl) (hpl : (backTo pos (starEach es X.env)).any (·.1) = false := by rfl) :
    DE X W (.Call (.Name x p) (e :: es) [] pos) (dCallP m ps.length G dl) := by
  refine pe_imp (pe_callS (E := WE W) F0 hr hg hm hk hb (fun σ => L2N.passAt tk σ) ha hdb he hpl) fun σ H QQ ⟨F, S, ρ, Q, Ee, r, h, kq, ke⟩ => ?_
  refine ⟨F, S, ρ, _, Ee, r, h, fun vs xs S1 ρ1 H1 g1 r1 p1 q1 => ?_, ke⟩
  split at q1
  · rename_i pp as'
    obtain ⟨hl, q1⟩ := q1
    obtain ⟨μ, e, q2⟩ := atM_ok q1
    obtain ⟨v, us, ev, h1, h2⟩ := p1
    have h1 : v = .ref pp := h1
    subst ev h1
    cases l1 : μ.lookup pp with
    | none => simp only [l1] at q2
    | some oo =>
      simp only [l1] at q2
      exact lend_ok (Q := Q) (E := Ee) r1 e l1 h2 (by rw [h2.length]; exact hl) q2 (fun v x S' ρ' H' g' r' vr' q' => kq v x S' ρ' H' (g1.trans g') r' vr' q') fun e cls d S' ρ' H' g' r' xr' q' => ke e cls d S' ρ' H' (g1.trans g') r' xr' q'
  · exact q1.elim
end
end DW
/-! DWsk: sorted(xs, key=lambda ..), the lambda read as data. -/
namespace DW
open PySem PySem.Spec PyProof.Rows L2
open PySem.W (EachIs Sortable AllAlike copyHeap sortingHeap dataLe KeepsBut)
section
variable {X : Cx} {pins : List (Addr × Obj)} {σ : Sto} {H : Hp} {s : Shared} {g : Heap}
/-- an object of ours that was not looked at is tracked from now on -/
theorem Inv_adopt {tk : Nat} {ch : List Addr} {T : Addr} {ob : HO} (I : Inv X pins σ H s) (same : ∀ c o, c ∉ ch → s.heap.get? c = some o → g.get? c = some o) (ours : ∀ c ∈ ch, FpOk X pins H c) (inT : T ∈ ch)
    (fin : ObjOk X.prog X.w (upd H T ob) g T ob) : Inv X pins σ (upd H T ob) { s with heap := g, toks := tk } := by
  have zT : H T = none := (ours T inT).1
  have off : ∀ c u, H c = some u → c ∉ ch := fun c u e y => by
    rw [(ours c y).1] at e
    cases e
  have up : ∀ {c : Addr} {u : HO}, H c = some u → upd H T ob c = some u := fun {c u} e => by rw [upd_ne (ne_of_none e zT)]; exact e
  refine I.step (ch := ch) (g' := s.gens) (d' := s.drawn) (fun c y => ?_) (fun c o _ _ y e _ => same c o y e) (fun c o _ _ y e _ => ⟨o.slots, same c o y e⟩) (fun c o y _ n => ?_) (fun c o y e => ⟨o, same c o y e⟩) (fun _ _ e => up e) (fun _ _ _ e => up e)
    (fun _ _ e => ⟨#[], by simpa using up e⟩) (fun m y => ?_) (fun c u e => ?_) I.bare
  · obtain ⟨_, y1, _, y2, y3, y4⟩ := ours c y
    exact ⟨y2, y1, y3, y4⟩
  · have : c ≠ T := fun z => y (z ▸ inT)
    rw [upd_ne this]
    exact n
  · obtain ⟨o, es, ep, e, y2⟩ := y
    exact ⟨o, es, ep, same _ o (fun z => (ours _ z).2.1 rfl) e, y2⟩
  · by_cases y : c = T
    · rw [y, upd_same] at e
      cases e
      rw [y]
      exact fin
    · rw [upd_ne y] at e
      refine (I.hok c u e).stay (fun d v y2 q => same d v ?_ q) (fun _ q => up q) fun _ _ q => up q
      rcases y2 with z | z
      · rw [z]; exact off c u e
      · exact off d _ z
end
/-- the keys so far: what they are told -/
def KeyIn (K : PySem.W.Frag) (S : Hp) (d : D) (u : Value) : Prop := ∃ v, Rp K S d v ∧ RelV v u
theorem KeyIn.mono {K : PySem.W.Frag} {S S' : Hp} {d : D} {u : Value} (e : Same S S') (k : KeyIn K S d u) : KeyIn K S' d u := k.imp fun _ q => ⟨Rp.mono e q.1, q.2⟩
/-- the order of keys -/
def leK (key : D → D) (a b : D) : Bool := dataLe false (fun d => (key d).py) a b
section
variable {X : Cx} {F : Fm} {pins : List (Addr × Obj)} {σ τ : Sto} {ρ : List SV} {S H : Hp} {s : Shared} {l f : Addr} {ds : List D} {vs : List V} {its : List Value} {key : D → D} {Q E : Value → Shared → Prop}
theorem vals_zip : ∀ {ds : List D} {vs : List V} {us : List Value}, Vals vs us → ds.length = vs.length → EachIs (fun (u : Value) (b : D × V) => RelV b.2 u) us (ds.zip vs)
  | [], _, _, .nil, _ => .nil
  | _ :: _, _, _, .nil, h => by simp at h
  | [], _, _, .cons _ _, h => by simp at h
  | _ :: _, _, _, .cons a b, h => .cons a (vals_zip b (by simpa using h))
/-- what a call of the key's def does -/
def KeyTurn (X : Cx) (F : Fm) (pins : List (Addr × Obj)) (σ : Sto) (ρ : List SV) (τ : Sto) (H : Hp) (f : Addr) (ds : List D) (key : D → D) : Prop := ∀ (d : D), d ∈ ds → ∀ (v : V) (u : Value) (S1 H1 : Hp) (s1 : Shared), Same H H1 → R X.K F S1 ρ τ H1 → Rp X.K S1 d v → RelV v u → Inv X pins σ H1 s1 →
  wpAny (model X.prog X.w) X.A.in1.in1 (call (.ref f) [u]) (fun kv s2 => ∃ S2 H2, Gr F.B S1 S2 ∧ Same H1 H2 ∧ R X.K F S2 ρ τ H2 ∧ Inv X pins σ H2 s2 ∧ KeyIn X.K S2 (key d) kv ∧ ∀ c o, s1.heap.get? c = some o → H1 c = none → c ∉ frs X.stack → s2.heap.get? c = some o ∧ H2 c = none) (fun _ _ => False) s1
theorem sortK_walk (I : Inv X pins σ H s) (r : R X.K F S ρ τ H) (hl : s.heap.IsList l its.toArray) (rv : Vals vs its) (rp : RpL X.K S ds vs) (hp : ∀ d, d ∈ ds → (key d).pl 6 = true) (hal : AllAlike (ds.map fun d => (key d).py)) (hsk : Sortable (ds.map fun d => (key d).py))
    (hz : ds.length ≤ sizeLine) (hu : X.A.units + 64 < cLine) (turn : KeyTurn X F pins σ ρ τ H f ds key)
    (q : ∀ (a : Addr) (S1 H1 : Hp) (s1 : Shared) (ys : List V), Gr F.B S S1 → R X.K F S1 ρ τ H1 → Inv X pins σ (upd H1 a (.lst ys)) s1 → H1 a = none → RpL X.K S1 (ds.mergeSort (leK key)) ys → Q (.ref a) s1) :
    wpAny (model X.prog X.w) X.A (call (.builtin "sorted") [.ref l] [(Str.ofString "key", .ref f)]) Q E s := by
  have n1 : its.length = ds.length := by rw [← rv.length, ← rp.length]
  have nz : its.length ≤ sizeLine := by omega
  refine PySem.W.sorted_of_sort hl nz (by unfold argsOk; kernel_rfl) (fun x => by unfold argsOk; kernel_rfl) fun E' => ?_
  rw [ksk_t1]
  -- the copy that is sorted
  have old0 : ∀ {c : Addr} {o : Obj}, s.heap.get? c = some o → (copyHeap s.heap its).get? c = some o := fun e => PySem.W.copyHeap_old e
  have at0 := PySem.W.copyHeap_at s.heap its
  have a0 : s.heap.objs.size ≤ s.heap.objs.size + 1 := Nat.le_succ _
  generalize ha : s.heap.objs.size + 1 = a at at0 a0
  generalize hh0 : copyHeap s.heap its = h0 at old0 at0
  have alt : a < h0.objs.size := Heap.lt_size at0
  unfold ksk_tree
  refine wpAny_bind (listItems_at at0 rfl ?_)
  refine wpAny_bind (listUpdate_at at0 rfl ?_ (by rw [List.size_toArray]; exact nz) (Nat.zero_le _))
  obtain ⟨e1, at1⟩ : ∃ e1, (h0.update a (Obj.mapSeq fun _ => (#[] : Array Value))).get? a = some (seqObj "list" #[] e1) := ⟨_, get?_update_seq at0 fun _ => #[]⟩
  have old1 : ∀ {c : Addr} {o : Obj}, s.heap.get? c = some o → (h0.update a (Obj.mapSeq fun _ => (#[] : Array Value))).get? c = some o := fun {c o} e => by
    have : c ≠ a := fun z => absurd (z ▸ Heap.lt_size e) (Nat.not_lt.mpr a0)
    rw [Heap.get?_update_ne _ _ _ _ this]
    exact old0 e
  refine wpAny_bind (seqEpoch_at at1 rfl ?_)
  refine wpAny_bind (wpAny_newTuple ?_ (by show its.length ≤ _; exact nz))
  refine wpAny_bind (wpAny_newList ?_ (Nat.zero_le _))
  refine wpAny_holding ?_
  -- where the keys are kept
  have sz1 : (h0.update a (Obj.mapSeq fun _ => (#[] : Array Value))).objs.size = h0.objs.size := Heap.size_update ..
  generalize hh1 : h0.update a (Obj.mapSeq fun _ => (#[] : Array Value)) = h1 at at1 old1 sz1
  have sz2 : (h1.push (seqObj "tuple" its.toArray 0)).objs.size = h1.objs.size + 1 := size_push' ..
  have old2 : ∀ {c : Addr} {o : Obj}, h1.get? c = some o → (h1.push (seqObj "tuple" its.toArray 0)).get? c = some o := fun e => Heap.get?_push_of_some _ e
  have eh2 : h1.push (seqObj "tuple" its.toArray 0) = h1.push (seqObj "tuple" its.toArray 0) := rfl
  generalize hh2 : h1.push (seqObj "tuple" its.toArray 0) = h2 at sz2 old2 eh2
  have kSa : h2.objs.size ≠ a := by omega
  have atK : (h2.push (seqObj "list" #[] 0)).get? h2.objs.size = some (seqObj "list" #[] 0) := Heap.get?_push_size _ rfl
  have at3 : (h2.push (seqObj "list" #[] 0)).get? a = some (seqObj "list" #[] e1) := Heap.get?_push_of_some _ (old2 at1)
  have old3 : ∀ {c : Addr} {o : Obj}, s.heap.get? c = some o → (h2.push (seqObj "list" #[] 0)).get? c = some o := fun e => Heap.get?_push_of_some _ (old2 (old1 e))
  have kS0 : s.heap.objs.size ≤ h2.objs.size := by omega
  generalize hkS : h2.objs.size = kS at kSa atK kS0
  have f0 : ∀ {c : Addr}, s.heap.objs.size ≤ c → H c = none := fun hc => I.hok.fresh hc
  have fA := I.fpOk a0 (f0 a0)
  have fK := I.fpOk kS0 (f0 kS0)
  have nfr : ∀ {c : Addr}, s.heap.objs.size ≤ c → c ∉ frs X.stack := fun {c} hc y => by
    rcases List.mem_cons.mp (I.stkSub c y) with z | z
    · exact absurd (Nat.lt_of_lt_of_le I.lt hc) (by rw [z]; exact Nat.lt_irrefl _)
    · exact I.nofs hc z
  show wpAny _ _ (ksk_rest a (.ref f) false its.toArray e1 (.ref kS)) _ _ _
  unfold ksk_rest
  refine wpAny_bind (wpAny_rule ?_)
  first
    | rw [List.forIn_toArray]
    | (rw [← Array.forIn_toList]; simp only [List.toList_toArray])
    | rw [← Array.forIn_toList]
  refine wpAny_bind (ksk_fold (fun i s' => ∃ (S1 H1 : Hp) (kA : Array Value) (e : Nat), Gr F.B S S1 ∧ Same H H1 ∧ R X.K F S1 ρ τ H1 ∧ Inv X pins σ H1 s' ∧ s'.heap.get? kS = some (seqObj "list" kA e) ∧ s'.heap.get? a = some (seqObj "list" #[] e1) ∧ H1 kS = none ∧ H1 a = none ∧
    EachIs (fun u d => KeyIn X.K S1 (key d) u) kA.toList (ds.take i)) its 0 _ ⟨S, H, #[], 0, Gr.refl _ _, Same.refl _, r, I.kept (t' := s.toks) fun c o e => old3 e, atK, at3, fK.1, fA.1, by rw [List.take_zero]; exact .nil⟩ ?step ?done)
  case step =>
    rintro j u s1 hx ⟨S1, H1, kA, e, g1, sm1, r1, I1, k1, l1, hK1, hA1, ek⟩
    rw [Nat.zero_add] at ek ⊢
    have hj : j < its.length := (List.getElem?_eq_some_iff.mp hx).1
    have hjd : j < ds.length := by omega
    have hd : ds[j] ∈ ds := List.getElem_mem hjd
    have hjv : j < vs.length := by rw [rp.length]; exact hjd
    obtain ⟨d, ed, rx⟩ := rp.getV (List.getElem?_eq_getElem hjv)
    have ed2 : ds[j] = d := by
      rw [List.getElem?_eq_getElem hjd] at ed
      exact Option.some.inj ed
    obtain ⟨u2, eu, ru⟩ := rv.get (List.getElem?_eq_getElem hjv)
    rw [hx] at eu
    cases eu
    refine wpAny_bind (wpAny_attempt (wpAny_mono (turn d (ed2 ▸ hd) _ u S1 H1 s1 sm1 r1 (Rp.mono g1.s rx) ru I1) (fun kv s2 post => ?_) fun _ _ z => z.elim))
    obtain ⟨S2, H2, g2, sm2, r2, I2, kin, stay⟩ := post
    obtain ⟨k2, hK2⟩ := stay kS _ k1 hK1 (nfr kS0)
    obtain ⟨l2, hA2⟩ := stay a _ l1 hA1 (nfr a0)
    have szK : kA.size ≤ its.length := by
      have := ek.length
      rw [Array.length_toList, List.length_take] at this
      omega
    try dsimp only
    have up := Heap.SameBut.update s2.heap kS (Obj.mapSeq (·.push kv))
    obtain ⟨e2, k3⟩ : ∃ e2, (s2.heap.update kS (Obj.mapSeq (·.push kv))).get? kS = some (seqObj "list" (kA.push kv) e2) := ⟨_, get?_update_seq k2 (·.push kv)⟩
    have more : (kA.push kv).toList = kA.toList ++ [kv] := by simp
    have more2 : ds.take (j + 1) = ds.take j ++ [d] := by rw [List.take_add_one, List.getElem?_eq_getElem hjd, ed2]; rfl
    refine wpAny_bind (listUpdate_at k2 rfl ?_ (Nat.le_trans szK nz) (by rw [Array.size_push]; omega))
    refine wpAny_pure ⟨rfl, S2, H2, kA.push kv, e2, g1.trans g2, sm1.trans sm2, r2, I2.turned (t' := s2.toks) (fun c o y q => (up.2 c y).trans q) hK2 fK.2.1 fK.2.2.2.1 fK.2.2.2.2.1 fK.2.2.2.2.2, k3, (up.2 a (Ne.symm kSa)).trans l2, hK2, hA2, ?_⟩
    rw [more, more2]
    exact PySem.W.each_snoc (R := fun u d => KeyIn X.K S2 (key d) u) kin (ek.mono fun _ _ q => q.mono g2.s)
  case done =>
    rintro s1 ⟨S1, H1, kA, e, g1, sm1, r1, I1, k1, l1, hK1, hA1, ek⟩
    rw [Nat.zero_add, List.take_of_length_le (by omega)] at ek
    have szK : kA.size = its.length := by
      have := ek.length
      rw [Array.length_toList] at this
      omega
    have told : EachIs (fun u d => ∃ as, Reads s1.heap u d as) kA.toList (ds.map fun d => (key d).py) := PySem.W.EachIs.of_zip (by rw [ek.length, List.length_map]) fun p hp2 => by
      rw [List.zip_map_right] at hp2
      obtain ⟨⟨u, d⟩, hq, rfl⟩ := List.mem_map.mp hp2
      obtain ⟨w, rw1, rw2⟩ := ek.zip _ hq
      exact Dp.reads I1 _ w u (Rp.dp (key d) 6 w (Rp.mono r1.s rw1) (hp d (List.of_mem_zip hq).2)) rw2
    refine wpAny_bind (listItems_at k1 rfl ?_)
    obtain ⟨G, gon, goff⟩ := restrict s1.heap fun c => decide (c ≠ kS)
    have gG : ∀ c o, c ≠ kS → s1.heap.get? c = some o → G.get? c = some o := fun c o y e => by
      rw [gon c (decide_eq_true y)]
      exact e
    refine PySem.W.keyH_end (κ := PySem.W.dataKind s1.heap (ds.map fun d => (key d).py)) (h₁ := G) (fun c o _ e => ?_) (goff kS (by simp)) k1 l1 kSa (PySem.W.SortsAt.data told hal hsk fun d hd => ?_) szK nz fun g tk ep kp at9 => ⟨rfl, ?_⟩
    · by_cases y : c = kS
      · rw [y, goff kS (by simp)] at e
        cases e
      · rw [gon c (decide_eq_true y)] at e
        exact e
    · obtain ⟨x, hx, rfl⟩ := List.mem_map.mp hd
      have := pl_depth (hp x hx)
      show X.A.units + 1 + 1 + _ < _
      omega
    · have ko : PySem.W.KeyedOut false ((ds.zip vs).map fun b => (key b.1).py) its (PySem.W.sortVals (PySem.W.dataKind s1.heap (ds.map fun d => (key d).py)) false kA.toList its) := by
        have ez : ((ds.zip vs).map fun b => (key b.1).py) = ds.map fun d => (key d).py := by
          rw [show (fun b : D × V => (key b.1).py) = (fun d => (key d).py) ∘ fun b : D × V => b.1 from rfl, ← List.map_map, zip_fst rp.length]
        rw [ez]
        exact ⟨s1.heap, kA.toList, hal, rfl, told⟩
      have eo := PySem.W.keyedOut_each (R := fun (u : Value) (b : D × V) => RelV b.2 u) (fun b : D × V => (key b.1).py) ko (vals_zip rv rp.length.symm)
      have len : (((ds.zip vs).mergeSort (dataLe false fun b : D × V => (key b.1).py)).map (·.2)).length ≤ sizeLine := by
        rw [List.length_map, List.length_mergeSort, List.length_zip, rp.length, Nat.min_self]
        exact hz
      refine q a S1 H1 _ _ g1 r1 (Inv_adopt (tk := tk) (ch := [a, kS]) I1 (fun c o y z => ?_) (fun c y => ?_) List.mem_cons_self ⟨len, _, ep, vals_each eo, at9⟩) hA1 ?_
      · exact kp c o (fun z2 => y (by rw [z2]; exact List.mem_cons_self)) (gG c o (fun z2 => y (by rw [z2]; exact List.mem_cons_of_mem _ (List.mem_singleton.mpr rfl))) z)
      · rcases List.mem_cons.mp y with z | z
        · rw [z]; exact ⟨hA1, fA.2⟩
        · rw [List.mem_singleton.mp z]; exact ⟨hK1, fK.2⟩
      · have em : ((ds.zip vs).mergeSort (dataLe false fun b : D × V => (key b.1).py)).map (·.1) = ds.mergeSort (leK key) := by
          rw [PySem.W.sort_maps (r := dataLe false fun b : D × V => (key b.1).py) (s := leK key) (fun b : D × V => b.1) (fun _ _ _ _ => rfl), zip_fst rp.length]
        rw [← em]
        exact RpL.unzip fun b hb => RpL.zip (RpL.mono g1.s rp) b (List.mem_mergeSort.mp hb)
end
/-- the frame of a key's call: its one slot holds told data -/
theorem key_frame {K : PySem.W.Frag} {F : Fm} {S H : Hp} {ρ : List SV} {τ : Sto} {d : D} {v : V} (r : R K F S ρ τ H) (rx : Rp K S d v) :
    ∃ B : Hp, R K ⟨B, [v], 1⟩ S [.d d] [some v] H ∧ ∀ {S2 : Hp} {as : List SV} {H2 : Hp}, Gr B S S2 → R K ⟨B, [v], 1⟩ S2 as [some v] H2 → Gr F.B S S2 ∧ Same H H2 ∧ R K F S2 ρ τ H2 := by
  have p : RpL K S [d] [v] := ⟨v, [], rfl, rx, rfl⟩
  refine ⟨H, ⟨rfl, rfl, Same.refl H, r.s, fun i x e => ?_, fun i j x y ov ow q ha hb _ _ xa yb => ?_⟩, fun {S2 as H2} g2 r2 => ?_⟩
  · obtain ⟨ov, e1, e2⟩ := p.slots (H := H) (B := H) i x e
    exact ⟨ov, e1, e2 _⟩
  · exact (own_d (as := [d]) ha xa).elim
  · have sm : Same H H2 := r2.b
    refine ⟨⟨g2.s, fun c u h1 h2 => (g2.n c u h1 h2).imp (fun z => r.b.free z) id⟩, sm, r.len, r.ln, r.b.trans sm, r2.s, fun i x e => ?_, r.ap⟩
    obtain ⟨ov, e1, e2⟩ := r.at_ i x e
    refine ⟨ov, e1, e2.mono g2.s fun q ho hq => ?_⟩
    obtain ⟨_, _, o, h3⟩ := e2.held ho
    obtain ⟨u, hu, nt⟩ := h3.nt
    refine ⟨g2.free hq (fun z => ?_) fun xs z => nt xs (Option.some.inj ((sm q u hu).symm.trans (r2.s q _ z))), by rw [hu, sm q u hu]⟩
    have z : H q = none := z
    rw [hu] at z
    cases z
/-- what sorted by such a key asks -/
def rSortK (K : PySem.W.Frag) (q : Str) (ob : Value → Addr → Value → Obj) (dk : DTE) : List V → List V → Hp → VK → Prop := fun xs zs H Q =>
  ∃ (F : Fm) (S : Hp) (ρ : List SV) (τ : Sto) (l f c' : Addr) (pm ctv : Value) (ds : List D) (key : D → D), xs = [.ref l] ∧ zs = [.ref f] ∧ R K F S ρ τ H ∧ Rp K S (.lst ds) (.ref l) ∧ H f = some (LamO f (ob pm c' ctv)) ∧ H c' = some (LamX.CodeO c' q) ∧
    (∀ d, d ∈ ds → dk [.d d] (fun x _ => x = .d (key d)) (fun _ _ => False)) ∧ (∀ d, d ∈ ds → (key d).pl 6 = true) ∧ AllAlike (ds.map fun d => (key d).py) ∧ Sortable (ds.map fun d => (key d).py) ∧ ds.length ≤ sizeLine ∧
    ∀ v S1 H1, Gr F.B S S1 → R K F S1 ρ τ H1 → VR K F S1 ρ τ H1 v (.fr (.l (ds.mergeSort (leK key)))) → Q v H1
section
variable {X : Cx} {z : Str} {params : Arguments} {scope : Scope} {body : Expr} {k : Nat} {q : Str} {dk : DTE}
theorem cr_sortK (hr : Room (k + 3) X.A) (S : NdefX.NScope [z] [z] [] scope)
    (hb : ∀ (pm cv ctv : Value) (u : Value), bindArgs (PySem.W.kla_fn "<lambda>" q params body scope [] pm cv ctv) ⟨[u], []⟩ = pure [(z, u)])
    (hbody : ∀ (f c' : Addr) (A : Around) (outer : List Env) (s : Shared) (H : Hp) (E : XK), Room k (A.deeper (NdefX.envF ⟨"<lambda>", q, params, [], scope, [], c'⟩ f s.heap.objs.size)) → DE (NdefX.ncx C8.CX0 X.prog X.w X.K X.mg X.base [z] ⟨"<lambda>", q, params, [], scope, [], c'⟩ f A outer s H E) W0 body dk) :
    CallRK X (.builtin "sorted") ["key"] (rSortK X.K q (fun pm c' ctv => lamObj q params body scope [] pm c' ctv) dk) := by
  intro pins s σ H xs zs us ws Q I r1 r2 h
  obtain ⟨F, S0, ρ, τ, l, f, c', pm, ctv, ds, key, rfl, rfl, r, hl, hf, hc, hk, hp, hal, hsk, hz, hq⟩ := h
  rw [Vals.ref1 r1, Vals.ref1 r2]
  obtain ⟨l', vs, el, hl1, rp⟩ := hl
  cases el
  obtain ⟨_, its, n, rv, ho⟩ := I.hok l _ (r.s _ _ hl1)
  have hli : s.heap.IsList l its.toArray := ⟨_, ho, rfl, n, rfl⟩
  refine sortK_walk I r hli rv rp hp hal hsk hz (by have := hr.un; omega) (fun d hd v u S1 H1 s1 sm1 r1' rx ru I1 => ?_) fun a S1 H1 s1 ys g1 r1' I1 hA rys => ⟨.ref a, _, I1, rfl, ?_⟩
  · have C0 : NdefX.CellsAt [] [] [] s1.heap H1 := ⟨rfl, (fun _ _ z => nomatch z), (fun _ _ _ z => nomatch z), fun i y z => nomatch (show (none : Option Str) = some y from z)⟩
    obtain ⟨B, ra, kq⟩ := key_frame r1' rx
    refine wpAny_call (codeAny_mono (lam_call (CX := C8.CX0) (K := X.K) (mg := X.mg) (base := X.base) (N := [z]) (fr := []) (ws := []) (vs := [v]) (E := fun _ _ _ => False) (Q := fun w H2 => ∃ S2, Gr F.B S1 S2 ∧ Same H1 H2 ∧ R X.K F S2 ρ τ H2 ∧ Rp X.K S2 (key d) w) S (sm1 _ _ hf) (sm1 _ _ hc) hr.in1.in1 I1.env0.in1.in1 C0 (.cons ru .nil) rfl (hb _ _ _ _)
      fun room => ⟨_, hbody f c' _ _ s1 H1 _ (room.mono (by omega)), ?_⟩) fun fin s2 y => ?_)
    · refine ⟨⟨B, [v], 1⟩, S1, [.d d], _, _, ra, hk d hd, fun w x S3 ρ3 H3 g3 r3 vr3 e => ?_, fun _ _ _ _ _ _ _ _ _ y => y.elim⟩
      subst e
      obtain ⟨y1, y2, y3⟩ := kq g3 r3
      exact ⟨S3, y1, y2, y3, vr3⟩
    · cases fin with
      | error e => exact (show False from y).elim
      | ok fl =>
        cases fl with
        | next => exact False.elim y
        | brk => exact False.elim y
        | cont => exact False.elim y
        | ret kv =>
          obtain ⟨w, H2, os, bare, un, hok, rw', S4, g4, sm4, r4, rk⟩ := y
          exact ⟨S4, H2, g4, sm4, r4, I1.call' os un hok bare fun b z => by simp at z, ⟨w, rk, rw'⟩, fun c o e n hle => ⟨un.keep c o e n hle (by simp), un.free c o e n (by simp)⟩⟩
  · have nb := r1'.newB hA
    have r3 : R X.K F S1 ρ τ (upd H1 a (.lst ys)) := r1'.grow fun c u e => by rw [upd_ne (ne_of_none e hA)]; exact e
    exact hq _ S1 _ g1 r3 ⟨a, rfl, nb.1, nb.2, NoSl.new r1' hA, ys, upd_same, rys⟩
end
/-- sorted(e, key=lambda z: ..), the lambda read as data -/
def dSortK (m : Nat) (P : Addr) (q : Str) (de dk : DTE) : DTE := fun ρ Q E => de ρ (fun x ρ1 => stab x ρ1 fun a ρ2 => match a with
  | .lst ds => (atM ρ2 m fun μ => μ.lookup P = some (.tb P q)) ∧ ∃ key : D → D, (∀ d, d ∈ ds → dk [.d d] (fun x _ => x = .d (key d)) (fun _ _ => False)) ∧ (∀ d, d ∈ ds → (key d).pl 6 = true) ∧
      AllAlike (ds.map fun d => (key d).py) ∧ Sortable (ds.map fun d => (key d).py) ∧ ds.length ≤ sizeLine ∧ Q (.fr (.l (ds.mergeSort (leK key)))) ρ2
  | _ => False) E
section
variable {X : Cx} {W : WX} {e body : Expr} {z fn : Str} {params : Arguments} {scope : Scope} {lpos kpos pf cpos : Pos} {k : Nat} {c P : Addr} {de dk : DTE}
theorem d_sortK (m : Nat) (hr : Room (k + 3) X.A) (TB : LamX.TabB X.base X.mg c P) (hcode : X.env.code = .ref c) (S : NdefX.NScope [z] [z] [] scope) (hm : X.mg "sorted" = none) (he : DE X W e de)
    (hb : ∀ (q : Str) (pm cv ctv : Value) (u : Value), bindArgs (PySem.W.kla_fn "<lambda>" q params body scope [] pm cv ctv) ⟨[u], []⟩ = pure [(z, u)])
    (hbody : ∀ (q : Str) (f c' : Addr) (A : Around) (outer : List Env) (s : Shared) (H : Hp) (E : XK), Room k (A.deeper (NdefX.envF ⟨"<lambda>", q, params, [], scope, [], c'⟩ f s.heap.objs.size)) → DE (NdefX.ncx C8.CX0 X.prog X.w X.K X.mg X.base [z] ⟨"<lambda>", q, params, [], scope, [], c'⟩ f A outer s H E) W0 body dk)
    (hcl : L2.cloFrom X.env.cells scope.names [] = [] := by rfl) (hfree : ∀ y ∈ scope.names, y.2 = .free → X.env.scope.names.lookup y.1 = some .cell ∨ X.env.scope.names.lookup y.1 = some .free) (hdef : defaultsOf params X.env = ([], []) := by rfl) (hg : Gl X "sorted" := by rfl)
    (st : starEach [e] X.env = (false, eval e X.env) :: starEach [] X.env := by rfl) (sb : backTo cpos (starEach [e] X.env) = (false, eval e X.env) :: backTo cpos (starEach [] X.env) := by rfl) (sp : (backTo cpos (starEach [e] X.env)).any (·.1) = false := by rfl) :
    DE X W (.Call (.Name "sorted" pf) [e] [⟨some "key", .Lambda params body scope lpos, kpos⟩] cpos) (dSortK m P (X.env.qual ++ "<lambda>") de dk) := by
  have e1 := pe_callBK (X := X) (x := "sorted") (p := pf) (pos := cpos) (cr_sortK (q := X.env.qual ++ "<lambda>") (params := params) (body := body) hr S (hb _) (hbody _)) hg hm (by decide +kernel) (pa_cons he pa_nil st) (he := sb) (hpl := sp) (pk_cons (nm := some "key") (kpos := kpos) (pe_lamN (pos := lpos) (body := body) TB hcode hdef hfree hcl) pk_nil)
  refine pe_imp e1 fun σ H QQ ⟨F, S0, ρ, Q, Ee, r, h, kq, ke⟩ => ?_
  refine ⟨F, S0, ρ, _, Ee, r, h, fun v x S1 ρ1 H1 g1 r1 vr1 q1 => ?_, ke⟩
  obtain ⟨a, S2, ρ2, g2, r2, p2, q2⟩ := VR.stab r1 vr1 q1
  cases a with
  | lst ds =>
    obtain ⟨hM, key, hk, hp, hal, hsk, hz, hQ⟩ := q2
    obtain ⟨μ, em, hP⟩ := atM_ok hM
    obtain ⟨l, vs, el, hl, rp⟩ := id p2
    obtain ⟨ps, hps, ht, told⟩ := r2.tab em hP
    subst el
    refine ⟨ps, hps, ht, fun pos cv hc => (told pos cv hc).imp fun _ z => ⟨z.1, r2.s _ _ z.2⟩, fun f c' pm ctv H2 st2 hf2 => ?_⟩
    obtain ⟨S3, g3, r3, hc3, _⟩ := r2.lam (o := lamObj (X.env.qual ++ "<lambda>") params body scope [] pm c' ctv) em hP hps st2 hf2
    refine ⟨F, S3, ρ2, σ, l, f, c', pm, ctv, ds, key, rfl, rfl, r3, Rp.mono g3.s p2, upd_same, hc3, hk, hp, hal, hsk, hz, fun v S4 H4 g4 r4 vr4 => ?_⟩
    exact kq v _ S4 ρ2 H4 (((g1.trans g2).trans g3).trans g4) r4 vr4 hQ
  | _ => exact q2.elim
end
/-! a tuple of things of the memory, told -/
def outL : List D → List (Addr × OO) → (List D → List (Addr × OO) → Prop) → Prop
  | [], μ, k => k [] μ
  | .ptr p :: xs, μ, k => match μ.lookup p with
    | some o => outL xs (memD μ p) fun ys μ2 => k (o.toD :: ys) μ2
    | none => False
  | _ :: _, _, _ => False
def dOutT (m : Nat) (de : DTE) : DTE := fun ρ Q E => de ρ (fun x ρ1 => match x with
  | .d (.tup xs) => atM ρ1 m fun μ => outL xs μ fun ys μ2 => Q (.d (.tup ys)) (ρ1.set m (.mm μ2))
  | _ => False) E
theorem outL_ok {K : PySem.W.Frag} {F : Fm} {H : Hp} {σ : Sto} {m : Nat} : ∀ {xs : List D} {vs : List V} {S : Hp} {ρ : List SV} {μ : List (Addr × OO)} {k : List D → List (Addr × OO) → Prop}, R K F S ρ σ H → ρ[m]? = some (.mm μ) → RpL K S xs vs → outL xs μ k →
    ∃ (ys : List D) (μ2 : List (Addr × OO)) (S2 : Hp), Gr F.B S S2 ∧ R K F S2 (ρ.set m (.mm μ2)) σ H ∧ RpL K S2 ys vs ∧ k ys μ2
  | [], vs, S, ρ, μ, k, r, hm, rp, q => ⟨[], μ, S, Gr.refl _ _, by rw [setK_same hm]; exact r, rp, q⟩
  | .ptr p :: xs, vs, S, ρ, μ, k, r, hm, ⟨v, ws, e, rv, rp⟩, q => by
    obtain rfl : v = .ref p := rv
    unfold outL at q
    cases l : μ.lookup p with
    | none => simp only [l] at q
    | some o =>
      simp only [l] at q
      obtain ⟨r2, v2⟩ := r.outM hm l
      obtain ⟨S2, g2, r3, t2⟩ := VR.freeze r2 v2
      have hl : m < ρ.length := (List.getElem?_eq_some_iff.mp hm).1
      obtain ⟨ys, μ2, S3, g3, r4, rp4, q4⟩ := outL_ok r3 (List.getElem?_set_self hl) (RpL.mono g2.s rp) q
      rw [List.set_set] at r4
      exact ⟨o.toD :: ys, μ2, S3, g2.trans g3, r4, ⟨.ref p, ws, e, Rp.mono g3.s t2, rp4⟩, q4⟩
  | .int _ :: _, _, _, _, _, _, _, _, _, q => q.elim
  | .non :: _, _, _, _, _, _, _, _, _, q => q.elim
  | .bl _ :: _, _, _, _, _, _, _, _, _, q => q.elim
  | .str _ :: _, _, _, _, _, _, _, _, _, q => q.elim
  | .lst _ :: _, _, _, _, _, _, _, _, _, q => q.elim
  | .tup _ :: _, _, _, _, _, _, _, _, _, q => q.elim
  | .scr _ :: _, _, _, _, _, _, _, _, _, q => q.elim
  | .dct _ :: _, _, _, _, _, _, _, _, _, q => q.elim
  | .ins _ _ :: _, _, _, _, _, _, _, _, _, q => q.elim
  | .tkd _ :: _, _, _, _, _, _, _, _, _, q => q.elim
  | .exc _ _ _ _ :: _, _, _, _, _, _, _, _, _, q => q.elim
theorem d_outT {X : Cx} {W : WX} {e : Expr} {de : DTE} (m : Nat) (h : DE X W e de) : DE X W e (dOutT m de) := by
  refine pe_imp h fun σ H QQ ⟨F, S, ρ, Q, Ee, r, h, kq, ke⟩ => ⟨F, S, ρ, _, Ee, r, h, fun v x S1 ρ1 H1 g1 r1 vr1 q1 => ?_, ke⟩
  cases x with
  | d a =>
    cases a with
    | tup xs =>
      obtain ⟨p, vs, ev, hp, rp⟩ := vr1
      obtain ⟨μ, em, q⟩ := atM_ok q1
      obtain ⟨ys, μ2, S2, g2, r2, rp2, q2⟩ := outL_ok r1 em rp q
      exact kq v (.d (.tup ys)) S2 _ H1 (g1.trans g2) r2 ⟨p, vs, ev, g2.s _ _ hp, rp2⟩ q2
    | _ => exact q1.elim
  | _ => exact q1.elim
end DW
/-! DWstr: texts: str(i), join, split, int(text), a sign in a text, for over a text. -/
namespace DW
open PySem L2
open PySem.Spec PyProof.Rows
/-- a list of texts -/
def strsD : List D → Option (List Str)
  | [] => some []
  | .str s :: xs => (strsD xs).map (s :: ·)
  | _ :: _ => none
theorem strsD_map : ∀ ys : List Str, strsD (ys.map .str) = some ys
  | [] => rfl
  | y :: ys => by
    show (strsD (ys.map .str)).map (y :: ·) = _
    rw [strsD_map ys]
    rfl
theorem strs_vs {K : PySem.W.Frag} {S : Hp} : ∀ {xs : List D} {vs : List V} {ys : List Str}, RpL K S xs vs → strsD xs = some ys → vs = ys.map V.str
  | [], vs, ys, h, e => by
    have e : some [] = some ys := e
    cases e
    exact h
  | .str s :: xs, _, ys, ⟨v, ws, e1, h1, h2⟩, e => by
    have e : (strsD xs).map (s :: ·) = some ys := e
    cases c : strsD xs with
    | none => rw [c] at e; cases e
    | some zs =>
      rw [c] at e
      cases e
      have h1 : v = .str s := h1
      rw [e1, h1, strs_vs h2 c]
      rfl
  | .int _ :: _, _, _, _, e => by cases e
  | .non :: _, _, _, _, e => by cases e
  | .bl _ :: _, _, _, _, e => by cases e
  | .lst _ :: _, _, _, _, e => by cases e
  | .tup _ :: _, _, _, _, e => by cases e
  | .scr _ :: _, _, _, _, e => by cases e
  | .dct _ :: _, _, _, _, e => by cases e
  | .ins _ _ :: _, _, _, _, e => by cases e
  | .ptr _ :: _, _, _, _, e => by cases e
  | .tkd _ :: _, _, _, _, e => by cases e
  | .exc _ _ _ _ :: _, _, _, _, e => by cases e
theorem strs_rp {K : PySem.W.Frag} {S : Hp} : ∀ ys : List Str, RpL K S (ys.map D.str) (ys.map V.str)
  | [] => rfl
  | y :: ys => ⟨_, _, rfl, rfl, strs_rp ys⟩
/-- str(i) -/
def fStr (a : D) (k : DV → Prop) : Prop := match a with
  | .int i => i.natAbs.log2 < 1920 ∧ k (.d (.str (toString i)))
  | _ => False
/-- s.join(list) -/
def fJoin (a b : D) (k : DV → Prop) : Prop := match a, b with
  | .str s, .lst xs => match strsD xs with
    | some ys => (ys.map (·.length)).sum + ys.length * s.length ≤ 16777216 ∧ k (.d (.str (Txt.join s ys)))
    | none => False
  | _, _ => False
/-- s.split(t) -/
def fSplit (a b : D) (k : DV → Prop) : Prop := match a, b with
  | .str s, .str t => (t.length == 0) = false ∧ s.length + 2 ≤ sizeLine ∧ k (.fr (.l ((Txt.split s t).map .str)))
  | _, _ => False
/-- a sign in a text -/
def fInS (neg : Bool) (a b : D) (k : DV → Prop) : Prop := match a, b with
  | .str x, .str z => ∃ c : Nat, x = ⟨#[c]⟩ ∧ k (.d (.bl (if neg then !decide (c ∈ z.cps.toList) else decide (c ∈ z.cps.toList))))
  | _, _ => False
/-- int(text) -/
def fIntS (a : D) (k : DV → Prop) : Prop := match a with
  | .str x => ∃ n : Int, intText? x = some n ∧ x.length ≤ 640 ∧ k (.d (.int n))
  | _ => False
section
variable {X : Cx} {W : WX} {K : PySem.W.Frag}
theorem ok_str : UnOk K fStr (fun x H Q => ∃ i, [x] = [V.int i] ∧ i.natAbs.log2 < 1920 ∧ Q (.str (toString i)) H) := by
  intro S H a x Qz QQ sh ha h kq
  cases a with
  | int i =>
    have e : x = .int i := ha
    exact ⟨i, by rw [e], h.1, kq _ _ H Res.str h.2⟩
  | _ => exact False.elim h
theorem ok_join : OpOk K fJoin (fun x y H Q => ∃ a p, ∃ ys : List Str, x = .str a ∧ [y] = [V.ref p] ∧ (SqL K H p (ys.map V.str) ∨ SqT K H p (ys.map V.str)) ∧ (ys.map (·.length)).sum + ys.length * a.length ≤ 16777216 ∧ Q (.str (Txt.join a ys)) H) := by
  intro S H a b x y Qz QQ sh ha hb h kq
  unfold fJoin at h
  split at h
  · rename_i s xs
    obtain ⟨p, vs, e1, h1, h2⟩ := hb
    cases c : strsD xs with
    | none => rw [c] at h; exact h.elim
    | some ys =>
      rw [c] at h
      have e2 := strs_vs h2 c
      subst e2
      exact ⟨s, p, ys, ha, by rw [e1], .inl (SqL.of h1), h.1, kq _ _ H Res.str h.2⟩
  · exact h.elim
theorem ok_split : OpOk K fSplit (fun x y H Q => ∃ a b, x = .str a ∧ [y] = [V.str b] ∧ (b.length == 0) = false ∧ a.length + 2 ≤ sizeLine ∧ rNewStrs (Txt.split a b) H Q) := by
  intro S H a b x y Qz QQ sh ha hb h kq
  unfold fSplit at h
  split at h
  · rename_i s t
    have hb : y = .str t := hb
    exact ⟨s, t, ha, by rw [hb], h.1, h.2.1, fun p hp => kq _ _ _ (Res.lst hp (strs_rp _)) h.2.2⟩
  · exact h.elim
theorem ok_inS : OpOk K (fInS false) (fun x y H Q => ∃ (c : Nat) (z : Str), x = .str ⟨#[c]⟩ ∧ y = .str z ∧ Q (.bl (decide (c ∈ z.cps.toList))) H) := by
  intro S H a b x y Qz QQ sh ha hb h kq
  unfold fInS at h
  split at h
  · obtain ⟨c, rfl, q⟩ := h
    exact ⟨c, _, ha, hb, kq _ _ H Res.bl q⟩
  · exact h.elim
theorem ok_notInS : OpOk K (fInS true) (fun x y H Q => ∃ (c : Nat) (z : Str), x = .str ⟨#[c]⟩ ∧ y = .str z ∧ Q (.bl (!decide (c ∈ z.cps.toList))) H) := by
  intro S H a b x y Qz QQ sh ha hb h kq
  unfold fInS at h
  split at h
  · obtain ⟨c, rfl, q⟩ := h
    exact ⟨c, _, ha, hb, kq _ _ H Res.bl q⟩
  · exact h.elim
theorem ok_intS : UnOk K fIntS (fun x H Q => ∃ a n, [x] = [V.str a] ∧ intText? a = some n ∧ a.length ≤ 640 ∧ Q (.int n) H) := by
  intro S H a x Qz QQ sh ha h kq
  cases a with
  | str s =>
    have e : x = .str s := ha
    obtain ⟨n, h1, h2, q⟩ := h
    exact ⟨s, n, by rw [e], h1, h2, kq _ _ H Res.int q⟩
  | _ => exact False.elim h
end
section
variable {X : Cx} {W : WX} {e o : Expr} {p pos apos : Pos} {da do_ de : DTE}
theorem d_str1 (hm : X.mg "str" = none) (ha : DE X W e da) (hg : Gl X "str" := by rfl) (h1 : A1 X e pos := by exact ⟨rfl, rfl⟩) : DE X W (.Call (.Name "str" p) [e] [] pos) (dUn fStr da) := d_t1 call_str_int ok_str hm ha hg (by decide +kernel) (by decide) (by decide) h1
theorem d_intS (hm : X.mg "int" = none) (ha : DE X W e da) (hg : Gl X "int" := by rfl) (h1 : A1 X e pos := by exact ⟨rfl, rfl⟩) : DE X W (.Call (.Name "int" p) [e] [] pos) (dUn fIntS da) := d_t1 call_int_str ok_intS hm ha hg (by decide +kernel) (by decide) (by decide) h1
/-- a text's method of one argument -/
def dStrM (f : D → D → (DV → Prop) → Prop) (do_ de : DTE) : DTE := fun ρ Q E => do_ ρ (fun x ρ1 => match x with
  | .d (.str s) => de ρ1 (fun y ρ2 => pk ρ2 y fun b => f (.str s) b fun z => Q z ρ2) E
  | _ => False) E
theorem strM_ok {r : V → List V → Hp → VK → Prop} {f : D → D → (DV → Prop) → Prop} (hf : OpOk X.K f (fun x y => r x [y])) {σ : L2.St} {H : Hp} {QQ : VK} (h : tD X.K W (dStrM f do_ de) σ H QQ) : tM1 r (tD X.K W do_) (tD X.K W de) σ H QQ := by
  obtain ⟨F, S, ρ, Q, Ee, rr, h, kq, ke⟩ := h
  refine ⟨F, S, ρ, _, Ee, rr, h, fun v x S1 ρ1 H1 g1 r1 vr1 q1 => ?_, ke⟩
  cases x with
  | d a =>
    cases a with
    | str s =>
      have vr1 : v = .str s := vr1
      refine ⟨⟨s, vr1⟩, F, S1, ρ1, _, Ee, r1, q1, fun w y S3 ρ3 H3 g3 r3 vr3 q3 => ?_, fun e cls d S' ρ' H' g' r' xr' q' => ke e cls d S' ρ' H' (g1.trans g') r' xr' q'⟩
      obtain ⟨b', p2, q5⟩ := VR.pk r3 vr3 q3
      refine hf S3 H3 (.str s) b' v w _ QQ r3.s vr1 p2 q5 fun z dz H4 rs q6 => ?_
      obtain ⟨S5, g5, r5, vr5⟩ := rs.ok r3
      exact kq z dz S5 ρ3 H4 ((g1.trans g3).trans g5) r5 vr5 q6
    | _ => exact q1.elim
  | _ => exact q1.elim
theorem d_join (ho : DE X W o do_) (he : DE X W e de) (hs : starEach [e] X.env = [(false, eval e X.env)] := by rfl) (hbase : attributeBase o "join" X.env (eval o X.env) = eval o X.env := by rfl) (hline : (apos.endLine == pos.line) = true := by rfl) :
    DE X W (.Call (.Attribute o "join" apos) [e] [] pos) (dStrM fJoin do_ de) := pe_imp (pe_m1 F.slot_str_join F.type_str_join mt_join ho he hs hbase hline) fun _ _ _ h => strM_ok ok_join h
theorem d_split (ho : DE X W o do_) (he : DE X W e de) (hs : starEach [e] X.env = [(false, eval e X.env)] := by rfl) (hbase : attributeBase o "split" X.env (eval o X.env) = eval o X.env := by rfl) (hline : (apos.endLine == pos.line) = true := by rfl) :
    DE X W (.Call (.Attribute o "split" apos) [e] [] pos) (dStrM fSplit do_ de) := pe_imp (pe_m1 F.slot_str_split F.type_str_split mt_split ho he hs hbase hline) fun _ _ _ h => strM_ok ok_split h
end
/-! for over a text -/
def dForS (de : DTE) (dg : DTG) (db : DTS) : DTS := fun De ρ => de ρ (fun x ρ1 => match x with
  | .d (.str s) => dForN dg db De (s.cps.toList.map fun c => D.str ⟨#[c]⟩) ρ1
  | _ => False) De.ex
theorem signs_rp {K : PySem.W.Frag} {S : Hp} : ∀ cs : List Nat, RpL K S (cs.map fun c => D.str ⟨#[c]⟩) (cs.map fun c => V.str ⟨#[c]⟩)
  | [] => rfl
  | c :: cs => ⟨_, _, rfl, rfl, signs_rp cs⟩
section
variable {X : Cx} {W : WX} {it tg : Expr} {body : List Stmt} {pos : Pos} {de : DTE} {dg : DTG} {db : DTS}
theorem d_forS (hp : PassesOwn (model X.prog X.w) X.A X.env X.xe) (hc : X.calm = true) (hi : DE X W it de) {js : List Nat} (hg : DG X tg js dg) (hb : DSs X W body db) (hs : ∀ x, foldedSetIterable it X.env x = pure x := by intro _; rfl) : DS X W (.For tg it body [] pos) (dForS de dg db) := by
  refine ps_imp (ps_for hp hc (pi_str hi) hg hb hs) fun D σ H ⟨F, S, ρ, De, r, h, k1, k2, k3, k4, k5⟩ => ?_
  refine ⟨F, S, ρ, _, _, r, h, fun v x S1 ρ1 H1 g1 r1 vr1 q1 => ?_, fun e cls d S' ρ' H' g' r' => k5 e cls d ρ' σ S' H' g' r'⟩
  cases x with
  | d a =>
    cases a with
    | str s =>
      refine ⟨s, vr1, ?_⟩
      have kk1 := fun ρ' σ' S' H' g' => k1 ρ' σ' S' H' (g1.trans g')
      have kk2 := fun v x ρ' σ' S' H' g' => k2 v x ρ' σ' S' H' (g1.trans g')
      have kk5 := fun e cls d ρ' σ' S' H' g' => k5 e cls d ρ' σ' S' H' (g1.trans g')
      have ln : (s.cps.toList.map fun c => V.str ⟨#[c]⟩).length = s.cps.size := by rw [List.length_map, Array.length_toList]
      refine for_core r1 (signs_rp (K := X.K) (S := S1) s.cps.toList) q1 (fun i H' _ hi => ⟨by rw [ln] at hi; exact hi, fun x H2 y => ⟨y.1, ?_⟩⟩) (fun H' _ => by show s.cps.size ≤ _; rw [ln]; exact Nat.le_refl _) kk1 kk2 kk5
      obtain ⟨c, hc, rfl⟩ := y.2
      rw [List.getElem?_map, Array.getElem?_toList, hc]
      rfl
    | _ => exact q1.elim
  | _ => exact q1.elim
end
end DW
/-! DWlr: a list comprehension whose element lets an exception out. -/
namespace DW
open PySem L2
open PySem.Spec PyProof.Rows
/-- a frame notes an exception whose flight is another one's -/
theorem note_off {M : Model} {A : Around} {E : Value → Shared → Prop} {s : Shared} {Z : Obj → Prop} {base : Heap} {env : Env} {outer : List Env} {L e : Addr} {fl : Value} {Q : Unit → Shared → Prop} (hZ : PXN.Steady1 Z) (hfr : A.frames = some (env :: outer)) (hf : env.frame = some L)
    (kb : base.StaysIn s.heap) (nb : base.get? e = none) (ff : s.heap.FunFrames base (env :: outer)) (t : HandSPX.TracedZ s.heap base e Z fl) (nf : (fl == rawInt L) = false)
    (q : ∀ h', HandSPX.HeldZ base (env :: outer) e Z L h' → s.heap.UpToSlots h' → Q () { s with heap := h' }) : wpAny M A (noteFrame (.ref e) env) Q E s := by
  obtain ⟨oe, vs, T, oT, ts, ge, z, de, e1, bT, ne, gT, dT, e3⟩ := t
  have off : ∀ {b : Addr}, b ≠ T → (s.heap.update T (Obj.mapFields (·.setIfInBounds 3 Value.none))).get? b = s.heap.get? b := fun h => Heap.get?_update_other _ _ fun y => h y.symm
  have rec_ : ∀ {b : Addr} {o : Obj}, s.heap.get? b = some o → (∀ us, o.data ≠ .fields us) → b ≠ T := by
    rintro b o g n rfl
    exact n ts (Option.some.inj (gT.symm.trans g) ▸ dT)
  unfold noteFrame
  rw [hf]
  show wpAny M A (field (.ref e) 1 >>= _) _ _ s
  refine wpAny_bind (wpAny_field ge de e1 ?_)
  rw [if_pos (show (Value.ref T != Value.none) = true from by simp)]
  refine wpAny_bind (wpAny_field gT dT e3 ?_)
  rw [if_neg (show ¬ ((fl == rawInt L) = true) from by rw [nf]; exact fun y => Bool.noConfusion y)]
  refine wpAny_bind (wpAny_setField gT dT (Array.getElem?_eq_some_iff.mp e3).1 ?_)
  have ff' : (s.heap.update T (Obj.mapFields (·.setIfInBounds 3 Value.none))).FunFrames base (env :: outer) := ff.of_keeps fun b o g n => ⟨o, (off (rec_ g n)).trans g, rfl⟩
  have kb' : base.StaysIn (s.heap.update T (Obj.mapFields (·.setIfInBounds 3 Value.none))) := fun b o g => (off fun y => by rw [y, bT] at g; cases g).trans (kb b o g)
  refine PXN.wpAny_entryZ hZ hfr ff' hf ((off ne.symm).trans ge) kb' nb de (Array.getElem?_eq_some_iff.mp e1).1 z fun h' w => ?_
  exact q h' ⟨w.1, nb, w.2.1, w.2.2.1⟩ fun b o g n => w.2.2.2 b o ((off (rec_ g n)).trans g) n
theorem note_sky {M : Model} {A : Around} {E : Value → Shared → Prop} {s : Shared} {Z : Obj → Prop} {B : Heap} {env : Env} {outer : List Env} {L C e : Addr} {Q : Unit → Shared → Prop} (hZ : PXN.Steady1 Z) (hfr : A.frames = some (env :: outer)) (hf : env.frame = some L) (ne : C ≠ L)
    (x : Sky B (env :: outer) e Z C s.heap) (q : ∀ h', HandSPX.HeldZ B (env :: outer) e Z L h' → s.heap.UpToSlots h' → Q () { s with heap := h' }) : wpAny M A (noteFrame (.ref e) env) Q E s := by
  rcases x with ⟨hB, hn, hl, oe, vs, he, hz, hd, h1⟩ | fl | ⟨k1, k2, k3, k4⟩
  · exact PXN.look_newZ hZ hfr hl hf he hB hn hd h1 hz q
  · exact PXN.looks_onZ hZ hfr hf fl q
  · refine note_off hZ hfr hf k1 k2 k3 k4 ?_ q
    cases h : (rawInt C == rawInt L) with
    | false => rfl
    | true =>
      have y : rawInt C = rawInt L := beq_iff_eq.mp h
      unfold rawInt at y
      injection y with y
      exact absurd (Int.ofNat.inj y) ne
/-- an object put in another's stead -/
def put (h : Heap) (C : Addr) (o : Obj) : Heap := h.update C fun _ => o
theorem put_self {h : Heap} {C : Addr} {o o0 : Obj} (g : h.get? C = some o0) (f : o.isFreed = false) : (put h C o).get? C = some o := Heap.get?_update_self _ g f
theorem put_ne {h : Heap} {C b : Addr} {o : Obj} (n : b ≠ C) : (put h C o).get? b = h.get? b := Heap.get?_update_other _ _ fun y => n y.symm
theorem funFrames_sb {h h' base : Heap} {C : Addr} (sb : Heap.SameBut C h h') : ∀ {l : List Env}, C ∉ frs l → h.FunFrames base l → h'.FunFrames base l
  | [], _, _ => trivial
  | env :: l, n, ⟨k, ⟨L, o, f, b, g, d⟩, r⟩ => by
    have e : frs (env :: l) = L :: frs l := by
      show List.filterMap _ _ = _
      rw [List.filterMap_cons, f]
      rfl
    rw [e, List.mem_cons, not_or] at n
    exact ⟨k, ⟨L, o, f, b, (sb.2 L fun y => n.1 y.symm).trans g, d⟩, funFrames_sb sb n.2 r⟩
/-- a block's frame is let go while an exception is held -/
theorem held_put {B h1 h2 : Heap} {l : List Env} {e L C : Addr} {Z : Obj → Prop} {o0 o2 : Obj} (x : HandSPX.HeldZ B l e Z L h1) (sb : Heap.SameBut C h1 h2) (b0 : B.get? C = some o0) (g2 : h2.get? C = some o2) (nC : C ∉ frs l) : HandSPX.HeldZ (put B C o2) l e Z L h2 := by
  obtain ⟨k1, k2, k3, oe, vs, T, oT, ts, ge, z, de, e1, bT, ne, gT, dT, e3⟩ := x
  have fr : o2.isFreed = false := (Heap.get?_some_iff.mp g2).2
  have eC : e ≠ C := fun y => by rw [y, b0] at k2; cases k2
  have tC : T ≠ C := fun y => by rw [y, b0] at bT; cases bT
  refine ⟨fun b o g => ?_, (put_ne eC).trans k2, ?_, oe, vs, T, oT, ts, (sb.2 e eC).trans ge, z, de, e1, (put_ne tC).trans bT, ne, (sb.2 T tC).trans gT, dT, e3⟩
  · by_cases y : b = C
    · rw [y] at g ⊢
      rw [put_self b0 fr] at g
      exact g2.trans g
    · rw [put_ne y] at g
      exact (sb.2 b y).trans (k1 b o g)
  · have fB : ∀ b, b ∈ frs l → (put B C o2).get? b = none := fun b hb => (put_ne fun y => nC (by rw [← y]; exact hb)).trans (k3.mem hb).1
    have k3' : h1.FunFrames (put B C o2) l := funFrames_none k3 fB
    exact funFrames_sb sb nC k3'
/-- what is owed where a block's element raises -/
def owed (X : Cx) (ce : Env) : Value → Shared → Prop := notedBy (model X.prog X.w) X.A ce (CompFails (model X.prog X.w) X.A X.xe ce)
theorem takes_blk {X : Cx} {W : WX} {pp : List (Addr × Obj)} {σ : L2.St} {H3 : Hp} {s3 : Shared} {scope : Scope} {ce : Env} {fp : List Addr} (I3 : Inv X pp σ H3 s3) (hs : X.stack = X.env :: X.outer) (hf : X.env.frame = some X.env.locals) (tk : L2N.Takes X W)
    (cL : ce.locals = s3.heap.objs.size) (cf : ce.frame = X.env.frame) (hfp : ∀ b ∈ fp, FpOk X pp H3 b) : L2N.Takes ((X.blk s3 H3 scope ce fp).tr [] (owed X ce)) (fun c d _ H => W c d σ H) := by
  rintro u s' ⟨a, B, sI, pins, σ', H', cls, d, rfl, J, nb, up, sky, na, os, ag, w⟩
  have hfr : X.A.frames = some (X.env :: X.outer) := by rw [I3.ok.frames, hs]
  have Cn : ce.locals ∉ frs X.stack := fun hb => by
    obtain ⟨_, o, g, _⟩ := J.ok.funs.mem hb
    have lt := Heap.lt_size (show s3.heap.get? ce.locals = some o from g)
    rw [cL] at lt
    exact Nat.lt_irrefl _ lt
  have nC : H' ce.locals = none := J.free
  obtain ⟨g0, g1, g2, g3, g4, g5⟩ := I3.fpOk (H' := H') (b := ce.locals) (Nat.le_of_eq cL.symm) nC
  obtain ⟨m, ⟨oC, es, ep, gC, dC, hm⟩, _⟩ := J.loc
  have gC : sI.heap.get? ce.locals = some oC := gC
  have sky : Sky B (X.env :: X.outer) a (L2N.Zn cls d) ce.locals s'.heap := by rw [← hs]; exact sky
  show wpAny _ _ (noteFrame (.ref a) ce) _ _ s'
  rw [noteFrame_env _ cf]
  refine note_sky L2N.Zn.steady hfr hf g1 sky fun h1 hh up1 => ?_
  obtain ⟨sl, gC'⟩ := up _ _ gC fun vs y => by rw [dC] at y; cases y
  obtain ⟨sl1, gC1⟩ := up1 _ _ gC' fun vs y => by
    have y : oC.data = .fields vs := y
    rw [dC] at y; cases y
  refine ⟨m, ⟨_, es, ep, gC1, dC, hm⟩, fun h2 m2 hn2 sb => ?_⟩
  obtain ⟨o2, es2, ep2, gC2, dC2, _⟩ := hn2
  have bC : B.get? ce.locals = some oC := nb _ _ gC Cn
  have Cn' : ce.locals ∉ frs (X.env :: X.outer) := by rw [← hs]; exact Cn
  have fr2 : o2.isFreed = false := (Heap.get?_some_iff.mp gC2).2
  have hh2 := held_put hh sb bC gC2 Cn'
  obtain ⟨oe, vs, T, oT, ts, ge, z, de, e1, _⟩ := hh2.2.2.2
  unfold PySem.passOn
  refine wpAny_bind (wpAny_field (s := { s' with heap := h2 }) ge de e1 ?_)
  rw [if_neg (show ¬ ((Value.ref T == Value.none) = true) from by simp), cf, hf]
  refine wpAny_bind (HandSPX.setFlight_onZ (s := { s' with heap := h2 }) hh2 fun h3 hh3 up3 => wpAny_throw ?_)
  have I7 : Inv X pp σ H' sI := I3.call' (ch := fp) J.os J.base J.hok J.bare fun b hb => ⟨(hfp b hb).2.2.2.1, (hfp b hb).2.1, (hfp b hb).2.2.2.2.1, (hfp b hb).2.2.2.2.2⟩
  have I8 : Inv X pp σ H' { sI with heap := put sI.heap ce.locals o2 } := I7.turned (t' := sI.toks) (it := ce.locals) (fun b o y g => (put_ne y).trans g) g0 g1 g3 g4 g5
  refine tk _ _ ⟨a, put B ce.locals o2, _, pp, σ, H', cls, d, rfl, I8, fun b o g n => ?_, fun b o g n => ?_, .inr (.inr ?_), na, os, ag, w⟩
  · by_cases y : b = ce.locals
    · rw [y] at g ⊢
      have g : (put sI.heap ce.locals o2).get? ce.locals = some o := g
      rw [put_self gC fr2] at g
      rw [put_self bC fr2]
      exact g
    · have g : (put sI.heap ce.locals o2).get? b = some o := g
      rw [put_ne y] at g
      rw [put_ne y]
      exact nb b o g n
  · by_cases y : b = ce.locals
    · have g : (put sI.heap ce.locals o2).get? b = some o := g
      rw [y, put_self gC fr2] at g
      cases g
      rw [y]
      exact up3 _ _ gC2 n
    · have g : (put sI.heap ce.locals o2).get? b = some o := g
      rw [put_ne y] at g
      obtain ⟨sa, ga⟩ := up b o g n
      obtain ⟨sb1, gb⟩ := up1 b _ ga n
      obtain ⟨sc, gc⟩ := up3 b _ ((sb.2 b y).trans gb) n
      exact ⟨sc, gc⟩
  · rw [hs]; exact hh3
theorem toXe {X : Cx} {pins : List (Addr × Obj)} {σ : L2.St} {H : Hp} {s : Shared} (I : Inv X pins σ H s) (xe : Value → Shared → Prop) : Inv (X.tr X.pn xe) pins σ H s :=
  ⟨I.ok.toTry _ _, I.os, I.bare, I.base, I.loc, I.cell, I.free, I.freeC, I.pin, I.hok, I.len⟩
theorem ofXe {X : Cx} {pins : List (Addr × Obj)} {σ : L2.St} {H : Hp} {s : Shared} {xe : Value → Shared → Prop} (I : Inv (X.tr X.pn xe) pins σ H s) : Inv X pins σ H s :=
  ⟨I.ok.ofTry, I.os, I.bare, I.base, I.loc, I.cell, I.free, I.freeC, I.pin, I.hok, I.len⟩
/-- [elt for tg in iter] over a list, no tests -/
theorem lcE_core {X : Cx} {W0 : WX} {pp : List (Addr × Obj)} {s0 : Shared} {σ : L2.St} {H : Hp} {Q : VK} {use : Option (Value → Sem Unit)} {Qf : Value → Shared → Prop} {elt tg iter : Expr} {scope : Scope} {own : List (Str × Nat)} {pos pos' : Pos} {tl : TE} {g : TG} {tt : TT} {te : WX → TE} (hc : X.calm = true) (hs0 : X.stack = X.env :: X.outer) (hf : X.env.frame = some X.env.locals) (tk : L2N.Takes X W0) (hN : X.N.Nodup) (hi : PE X iter tl) (ok : BlkOk X.N X.env.scope scope own)
    (hg : ∀ (s : Shared) (H : Hp) (C : Addr) (cl : List (Str × Addr)) (fp : List Addr), PG (X.blk s H scope (compEnvC scope cl C X.env) fp) tg g)
    (ht : ∀ (s : Shared) (H : Hp) (C : Addr) (cl : List (Str × Addr)) (fp : List Addr), PTs (X.blk s H scope (compEnvC scope cl C X.env) fp) [] tt)
    (he : ∀ (s : Shared) (H : Hp) (C : Addr) (cl : List (Str × Addr)) (fp : List Addr), ∀ (xe : Value → Shared → Prop) (Wb : WX), L2N.Takes ((X.blk s H scope (compEnvC scope cl C X.env) fp).tr [] xe) Wb → PE ((X.blk s H scope (compEnvC scope cl C X.env) fp).tr [] xe) elt (te Wb)) (hs : ∀ x, foldedSetIterable iter X.env x = pure x)
    (I : Inv X pp σ H s0) (h : tLc (iList X.K tl) g tt (te fun c d _ H => W0 c d σ H) (own.map (·.2)) σ H Q)
    (hRR : ∀ D ce s' m H', Inv X pp σ H' s' → Q (.ref D) H' → s'.heap.Ns ce.locals m → FpOk X pp H' ce.locals → compEnds (model X.prog X.w) X.A X.xe use Qf (.ref D) ce (.ok .next) s') :
    wpAny (model X.prog X.w) X.A (comprehension (.ListComp elt [⟨tg, iter, [], 0⟩] scope pos) scope X.env pos' (newList []) false (eval iter X.env) use) Qf X.xe s0 := by
  have closed : ∀ y ∈ scope.names, y.2 = .free → ∃ c, X.env.cells.lookup y.1 = some c := fun y hy e =>
    (ok.free y hy e).elim (fun k => I.ok.has _ (.inl k)) fun k => I.ok.has _ (.inr k)
  refine comprehension_at (use := use) rfl hs (closure_ok closed) ok.kind (fun y hy e => by rw [ok.uniq y hy, e]) (thn (hi.run pp s0 σ H _ I h) fun u s1 hu => ?_)
  obtain ⟨x, H1, I1, rx, a, rfl, ⟨xs0, sq⟩, q⟩ := hu
  cases rx
  obtain ⟨its, _, pl, _⟩ := I1.list sq
  refine wpAny_pyIter_list pl.isList ?_
  have new1 : H1 s1.heap.objs.size = none := I1.hok.fresh (Nat.le_refl _)
  have fI := I1.fpOk (Nat.le_refl _) new1
  have ne1 : ∀ {b : Addr} {o : Obj}, s1.heap.get? b = some o → b ≠ s1.heap.objs.size := fun z => Nat.ne_of_lt (Heap.lt_size z)
  obtain ⟨s2, e2⟩ : ∃ z : Shared, z = { s1 with heap := s1.heap.push { cls := .type "list_iterator", data := .fields #[.ref a, .int 0 0] } } := ⟨_, rfl⟩
  rw [← e2]
  have I2 : Inv X pp σ H1 s2 := by
    rw [e2]
    exact I1.kept (t' := s1.toks) fun b o e => Heap.get?_push_of_some _ e
  have st2 : s2.heap.IsListIter s1.heap.objs.size a 0 := by
    rw [e2]
    exact ⟨_, Heap.get?_push_size _ rfl, rfl, rfl⟩
  have lt2 : s1.heap.objs.size < s2.heap.objs.size := by
    rw [e2]
    show _ < (Heap.push _ _).objs.size
    rw [Heap.size_push]
    exact Nat.lt_succ_self _
  generalize s1.heap.objs.size = it at fI new1 st2 lt2 ⊢
  refine wpAny_newObj_type (newEnv_comp ?_) (by show 0 ≤ sizeLine; decide)
  have fresh2 : H1 s2.heap.objs.size = none := I2.hok.fresh (Nat.le_refl _)
  obtain ⟨W, ⟨m0, w0⟩, turn⟩ := q s2.heap.objs.size fresh2
  obtain ⟨s3, e3⟩ : ∃ z : Shared, z = { s2 with heap := s2.heap.push { cls := .type "list", data := .seq ([] : List Value).toArray } } := ⟨_, rfl⟩
  rw [← e3]
  have I3 : Inv X pp σ (upd H1 s2.heap.objs.size (.lst [])) s3 := by
    rw [e3]
    exact I2.laid (t' := s2.toks) (fun b o e => Heap.get?_push_of_some _ e) (Nat.le_refl _) ⟨Nat.zero_le _, [], 0, .nil, Heap.get?_push_size _ rfl⟩
  have st3 : s3.heap.IsListIter it a 0 := by
    rw [e3]
    exact st2.at fun o e => Heap.get?_push_of_some _ e
  have lt3 : it < s3.heap.objs.size := by
    rw [e3]
    show _ < (Heap.push _ _).objs.size
    rw [Heap.size_push]
    exact Nat.lt_succ_of_lt lt2
  have new3 : upd H1 s2.heap.objs.size (.lst []) it = none := by
    rw [upd_ne (Nat.ne_of_lt lt2)]
    exact new1
  have f3 : FpOk X pp (upd H1 s2.heap.objs.size (.lst [])) it := ⟨new3, fI.2⟩
  generalize s2.heap.objs.size = D at I3 new3 f3 w0 turn ⊢
  generalize upd H1 D (.lst []) = H3 at I3 new3 f3 w0
  have one : ∀ b ∈ [it], FpOk X pp H3 b ∧ b < s3.heap.objs.size := fun b hb => by
    rw [List.mem_singleton.mp hb]
    exact ⟨f3, lt3⟩
  have I4 := block_start I3 ok hN one
  have pg := hg s3 H3 s3.heap.objs.size (cellsFrom (s3.heap.objs.size + 1) scope.names (cloFrom X.env.cells scope.names [])) [it]
  have pt := ht s3 H3 s3.heap.objs.size (cellsFrom (s3.heap.objs.size + 1) scope.names (cloFrom X.env.cells scope.names [])) [it]
  have pe := he s3 H3 s3.heap.objs.size (cellsFrom (s3.heap.objs.size + 1) scope.names (cloFrom X.env.cells scope.names [])) [it]
  obtain ⟨s4, e4⟩ : ∃ z : Shared, z = { s3 with heap := pushCells (s3.heap.push { cls := .type "dict", data := .dict #[] }) scope.names } := ⟨_, rfl⟩
  have st4 : s4.heap.IsListIter it a 0 := by
    rw [e4]
    exact st3.at fun o e => pushCells_keeps _ _ _ _ (Heap.get?_push_of_some _ e)
  rw [← e4] at I4
  show codeAny _ _ (.compStart (.ListComp elt [⟨tg, iter, [], 0⟩] scope pos) 0 (.ref it) (.ref D)
    (compEnvC scope (cellsFrom (s3.heap.objs.size + 1) scope.names (cloFrom X.env.cells scope.names [])) s3.heap.objs.size X.env))
    (compEnds (model X.prog X.w) X.A X.xe use Qf (.ref D) (compEnvC scope (cellsFrom (s3.heap.objs.size + 1) scope.names (cloFrom X.env.cells scope.names [])) s3.heap.objs.size X.env))
    { s3 with heap := pushCells (s3.heap.push { cls := .type "dict", data := .dict #[] }) scope.names }
  rw [← e4]
  generalize hce : compEnvC scope (cellsFrom (s3.heap.objs.size + 1) scope.names (cloFrom X.env.cells scope.names [])) s3.heap.objs.size X.env = ce at I4 pg pt pe ⊢
  have cL : ce.locals = s3.heap.objs.size := by rw [← hce]; rfl
  have cf : ce.frame = X.env.frame := by rw [← hce]; rfl
  have pe := pe (owed X ce) (fun c d _ H => W0 c d σ H) (takes_blk I3 hs0 hf tk cL cf fun b hb => (one b hb).1)
  have mem : it ∈ (X.blk s3 H3 scope ce [it]).ex := List.mem_singleton.mpr rfl
  have stat : ∀ {σ' : L2.St} {G : Hp} {s' : Shared} {pn : List (Addr × Obj)}, Inv (X.blk s3 H3 scope ce [it]) pn σ' G s' → pn = [] → G it = none → FpOk (X.blk s3 H3 scope ce [it]) [] G it := fun I' _ hn =>
    ⟨hn, (I'.ok.exf it mem).1, I'.ok.exfs it mem, .inl mem, fun x c e => (I'.ok.exf it mem).2 x c e, fun p hp => absurd (show p ∈ ([] : List (Addr × Obj)) ++ [] from hp) (by simp)⟩
  have loop : codeAny (model X.prog X.w) X.A (.compLoop (.ListComp elt [⟨tg, iter, [], 0⟩] scope pos) 0 (.ref it) (.ref D) ce) (compEnds (model X.prog X.w) X.A X.xe use Qf (.ref D) ce) s4 := by
    refine compLoop_any (fun n s' => ∃ (i : Nat) (G : Hp), Inv (X.blk s3 H3 scope ce [it]) [] (wipe σ (own.map (·.2))) G s' ∧ s'.heap.IsListIter it a i ∧ G it = none ∧ W i n G) ?_ m0 ⟨0, H3, I4, st4, new3, w0⟩
    rintro n s5 ⟨i, H5, I5, st5, n5, w5⟩
    obtain ⟨p0, p1, p2, p3, p4, p5⟩ := stat I5 rfl n5
    rcases turn i n H5 w5 with ⟨⟨xs, hq, hx⟩, fin⟩ | ⟨⟨xs, x, hq, hx⟩, Nx, hNx, step⟩
    · obtain ⟨its5, rv, pl5, _⟩ := I5.list hq
      have len := rv.length
      refine wpAny_pyNext_list_end (I5.ok.hd hc) st5 pl5.isList (by simp; omega) fun h' eb => ?_
      have I6 : Inv (X.blk s3 H3 scope ce [it]) [] (wipe σ (own.map (·.2))) H5 { s5 with heap := h' } := I5.turned (t' := s5.toks) (fun b o hb e => eb b o hb e) p0 p1 p3 p4 p5
      have I7 : Inv X pp σ H5 { s5 with heap := h' } := I3.call' (ch := [it]) I6.os I6.base I6.hok I6.bare fun b hb => by
        rw [List.mem_singleton.mp hb]
        exact ⟨f3.2.2.2.1, f3.2.1, f3.2.2.2.2.1, f3.2.2.2.2.2⟩
      have nC : H5 s3.heap.objs.size = none := by
        have z : H5 ce.locals = none := I6.free
        rwa [cL] at z
      obtain ⟨m, hn, _⟩ := I6.loc
      have hn : h'.Ns ce.locals m := hn
      exact hRR D ce _ m H5 I7 fin hn (I3.fpOk (H' := H5) (b := ce.locals) (Nat.le_of_eq cL.symm) I6.free)
    · obtain ⟨its5, rv, pl5, _⟩ := I5.list hq
      obtain ⟨u, hu, ru⟩ := rv.get hx
      refine wpAny_pyNext_list_item st5 pl5.isList (x := u) (by simpa using hu) fun h' st' sb => ?_
      have I6 : Inv (X.blk s3 H3 scope ce [it]) [] (wipe σ (own.map (·.2))) H5 { s5 with heap := h' } := I5.turned (t' := s5.toks) (fun b o hb e => (sb.2 b hb).trans e) p0 p1 p3 p4 p5
      obtain ⟨oi, ei, ci, di⟩ := id st'
      refine go_of (s := { s5 with heap := h' }) ei ci di (by decide) ?_
      have P := I6.pinned (fp := [it]) (fun b hb => by rw [List.mem_singleton.mp hb]; exact stat I6 rfl n5)
        fun b hb => ⟨oi, by rw [List.mem_singleton.mp hb]; exact ei, fun v z => by rw [di] at z; cases z⟩
      refine thnF (pg.run _ _ _ H5 x u _ P ru (step x H5 ⟨rfl, fun ys hy => by rw [I5.list_inj hy hq]; exact hx⟩)) fun _ s8 ⟨σ8, H8, I8, hw8, q8⟩ => ?_
      have again : ∀ {s' : Shared} {G : Hp}, Inv (X.blk s3 H3 scope ce [it]) ([] ++ pinsAt [it] h') σ8 G s' → Nx G →
          ∃ m, m < n ∧ ∃ (i : Nat) (G : Hp), Inv (X.blk s3 H3 scope ce [it]) [] (wipe σ (own.map (·.2))) G s' ∧ s'.heap.IsListIter it a i ∧ G it = none ∧ W i m G := fun {s' G} I' nx => by
        obtain ⟨m', hm, w'⟩ := hNx G nx
        obtain ⟨y1, y2, _⟩ := I'.pin (it, oi) (List.mem_append_right _ (List.mem_append_right _ (mem_pinsAt (List.mem_singleton.mpr rfl) ei)))
        have len : (wipe σ (own.map (·.2))).length = σ8.length := by rw [← hw8, wipe_length]
        refine ⟨m', hm, i + 1, G, (I'.unpinned (pins := [])).weak len (fun j v e => ?_), st'.at fun o e => ?_, y2, w'⟩
        · rw [← hw8] at e
          exact (wipe_some e).1
        · have z : o = oi := Option.some.inj (e.symm.trans ei)
          rw [z]
          exact y1
      refine thnF (pt.run _ s8 σ8 H8 _ I8 q8) fun b s9 ⟨H9, I9, q9⟩ => ?_
      cases b with
      | false =>
        rw [if_neg (fun z => Bool.noConfusion z)] at q9 ⊢
        exact again I9 q9
      | true =>
        rw [if_pos rfl] at q9 ⊢
        refine wpAny_mono (pe.run _ s9 σ8 H9 _ (toXe I9 (owed X ce)) q9) (fun z s10 ⟨yv, H10, I10, r10, acc, hD10, hz10, nx⟩ => ?_) (fun e s' y => by
          have ee : (fun (e : Value) (s' : Shared) => compEnds (model X.prog X.w) X.A X.xe use Qf (.ref D) ce (.error e) s') = CompFails (model X.prog X.w) X.A X.xe ce := by cases use <;> rfl
          rw [ee]; exact y)
        exact
          app_ok (X := X.blk s3 H3 scope ce [it]) (ofXe I10) hD10 hz10 r10 fun s11 I11 => again I11 nx
  exact codeAny_compStart_list loop (wpAny_pyIter_listiter st4 loop)
/-- as a value -/
theorem pe_lcE {X : Cx} {W0 : WX} {elt tg iter : Expr} {scope : Scope} {own : List (Str × Nat)} {pos : Pos} {tl : TE} {g : TG} {tt : TT} {te : WX → TE} (hc : X.calm = true) (hs0 : X.stack = X.env :: X.outer) (hf : X.env.frame = some X.env.locals) (tk : L2N.Takes X W0) (hN : X.N.Nodup) (hi : PE X iter tl) (ok : BlkOk X.N X.env.scope scope own)
    (hg : ∀ (s : Shared) (H : Hp) (C : Addr) (cl : List (Str × Addr)) (fp : List Addr), PG (X.blk s H scope (compEnvC scope cl C X.env) fp) tg g)
    (ht : ∀ (s : Shared) (H : Hp) (C : Addr) (cl : List (Str × Addr)) (fp : List Addr), PTs (X.blk s H scope (compEnvC scope cl C X.env) fp) [] tt)
    (he : ∀ (s : Shared) (H : Hp) (C : Addr) (cl : List (Str × Addr)) (fp : List Addr), ∀ (xe : Value → Shared → Prop) (Wb : WX), L2N.Takes ((X.blk s H scope (compEnvC scope cl C X.env) fp).tr [] xe) Wb → PE ((X.blk s H scope (compEnvC scope cl C X.env) fp).tr [] xe) elt (te Wb)) (hs : ∀ x, foldedSetIterable iter X.env x = pure x := by intro _; rfl) :
    PE X (.ListComp elt [⟨tg, iter, [], 0⟩] scope pos) (fun σ H Q => tLc (iList X.K tl) g tt (te fun c d _ H => W0 c d σ H) (own.map (·.2)) σ H Q) := by
  refine ⟨fun pp s0 σ H Q I h => ?_⟩
  rw [eval_ListComp]
  refine lcE_core hc hs0 hf tk hN hi ok hg ht he hs I h fun D ce s' m H' I' q hn f => ⟨m, hn, fun h2 sb => ?_⟩
  obtain ⟨g0, g1, g2, g3, g4, g5⟩ := f
  exact ⟨.ref D, H', I'.turned (t' := s'.toks) (fun b o hb e => (sb.2 b hb).trans e) g0 g1 g3 g4 g5, rfl, q⟩
/-- name = [..] on one line, the name a local -/
theorem ps_setLcE {X : Cx} {W0 : WX} {i : Nat} {y : Str} {py : Pos} {elt tg iter : Expr} {scope : Scope} {own : List (Str × Nat)} {pos spos : Pos} {tl : TE} {g : TG} {tt : TT} {te : WX → TE} (hc : X.calm = true) (hs0 : X.stack = X.env :: X.outer) (hf : X.env.frame = some X.env.locals) (tk : L2N.Takes X W0) (hN : X.N.Nodup)
    (hy : X.N[i]? = some y) (hyl : X.env.scope.names.lookup y = some .local) (hsw : swapsWith (.ListComp elt [⟨tg, iter, [], 0⟩] scope pos) (some (.Name y py)) spos.line X.env = pure true) (hi : PE X iter tl) (ok : BlkOk X.N X.env.scope scope own)
    (hg : ∀ (s : Shared) (H : Hp) (C : Addr) (cl : List (Str × Addr)) (fp : List Addr), PG (X.blk s H scope (compEnvC scope cl C X.env) fp) tg g)
    (ht : ∀ (s : Shared) (H : Hp) (C : Addr) (cl : List (Str × Addr)) (fp : List Addr), PTs (X.blk s H scope (compEnvC scope cl C X.env) fp) [] tt)
    (he : ∀ (s : Shared) (H : Hp) (C : Addr) (cl : List (Str × Addr)) (fp : List Addr), ∀ (xe : Value → Shared → Prop) (Wb : WX), L2N.Takes ((X.blk s H scope (compEnvC scope cl C X.env) fp).tr [] xe) Wb → PE ((X.blk s H scope (compEnvC scope cl C X.env) fp).tr [] xe) elt (te Wb)) (hs : ∀ x, foldedSetIterable iter X.env x = pure x := by intro _; rfl) :
    PS X (.Assign [.Name y py] (.ListComp elt [⟨tg, iter, [], 0⟩] scope pos) spos) (tAsg (fun σ H Q => tLc (iList X.K tl) g tt (te fun c d _ H => W0 c d σ H) (own.map (·.2)) σ H Q) (gName i)) := by
  refine ⟨fun pins s σ H D I h => ?_⟩
  rw [exec_Assign_Name_used _ _ _ _ hsw]
  refine wpAny_bind (wpAny_standAt (wpAny_bind ?_))
  show wpAny _ X.A (do let _ ← comprehension (.ListComp elt [⟨tg, iter, [], 0⟩] scope pos) scope X.env (firstIterPos [⟨tg, iter, [], 0⟩] pos) (newList []) false (eval iter X.env) (some (assign (.Name y py) X.env))) _ _ s
  have h : tLc (iList X.K tl) g tt (te fun c d _ H => W0 c d σ H) (own.map (·.2)) σ H (fun x H1 => gName i x σ H1 D.nx) := h
  refine wpAny_bind (wpAny_mono (lcE_core (Qf := fun _ s' => SP X pins D .next s') hc hs0 hf tk hN hi ok hg ht he hs I h fun L ce s' m H' I' q hn f => ?_) (fun _ s' hq => wpAny_pure (wpAny_pure hq)) fun _ _ z => z)
  show wpAny _ _ (assign (.Name y py) X.env (.ref L)) _ _ _
  refine wpAny_assign_Name (store_ok2 (v := V.ref L) I' hN hy (.inl hyl) rfl (fun s2 I2 ⟨a, sb, ha⟩ => ?_) (.inr hyl))
  obtain ⟨f0, f1, f2, f3, f4, f5⟩ := f
  have haC : ce.locals ≠ a := by
    rcases ha with z | z
    · rw [z]; exact f1
    · exact fun e => f4 y a z e.symm
  refine ⟨m, hn.sameBut sb haC, fun h3 sb3 => ?_⟩
  exact ⟨_, H', I2.turned (t' := s2.toks) (fun b o hb e => (sb3.2 b hb).trans e) f0 f1 f3 f4 f5, q⟩
/-! by data -/
def dLcNE (dg : DTG) (de : DTE) (vs : List Nat) (Q : List D → List SV → Prop) (E : DExc → List SV → Prop) : List D → List D → List SV → Prop
  | [], acc, ρ => Q acc ρ
  | a :: as, acc, ρ => dg a ρ fun ρ1 => de ρ1 (fun y ρ3 => stab y ρ3 fun c ρ4 => acc.length < sizeLine ∧ dLcNE dg de vs Q E as (acc ++ [c]) (wipeD ρ4 vs)) (fun e ρ3 => E e (wipeD ρ3 vs))
def dLcE (di : DTE) (dg : DTG) (de : DTE) (vs : List Nat) : DTE := fun ρ Q E => di ρ (fun x ρ1 => stab x ρ1 fun a ρ2 => match a with
  | .lst ds => dLcNE dg de vs (fun acc ρ3 => Q (.fr (.l acc)) (backD ρ3 ρ2 vs)) (fun e ρ3 => E e (backD ρ3 ρ2 vs)) ds [] (wipeD ρ2 vs)
  | _ => False) E
section
variable {K : PySem.W.Frag} {F : Fm} {S H : Hp} {ρ : List SV} {σ : L2.St}
theorem lc_turnsE {J : It} {js : List Nat} {dg : DTG} {de : DTE} {us : List Nat} {ds : List D} {vs : List V} {Wb : WX} {Qd : List D → List SV → Prop} {Ed : DExc → List SV → Prop} {QQ : VK} (r0 : R K F S ρ σ H) (pl : RpL K S ds vs) (hjs : ∀ j, j ∈ js → j ∈ us)
    (h : dLcNE dg de us (fun acc ρ3 => Qd acc (backD ρ3 ρ us)) (fun e ρ3 => Ed e (backD ρ3 ρ us)) ds [] (wipeD ρ us))
    (go : ∀ i H', Same S H' → i < vs.length → J.go i H' ∧ ∀ x H2, J.yld i H' x H2 → H2 = H' ∧ vs[i]? = some x) (stop : ∀ H', Same S H' → J.stop vs.length H')
    (kq : ∀ v acc S' ρ' H', Gr F.B S S' → R K F S' ρ' σ H' → VR K F S' ρ' σ H' v (.fr (.l acc)) → Qd acc ρ' → QQ v H')
    (ke : ∀ e cls d S' ρ' σ' H', Gr F.B S S' → R K F S' ρ' σ H' → XR K S' H' e cls d → Ed e ρ' → Wb cls d σ' H') : ∀ L, H L = none → ∃ Wt : Nat → Nat → Hp → Prop, (∃ m, Wt 0 m (upd H L (.lst []))) ∧ ∀ i m H, Wt i m H →
      (J.stop i H ∧ QQ (.ref L) H) ∨ (J.go i H ∧ ∃ Nx : Hp → Prop, (∀ H', Nx H' → ∃ m', m' < m ∧ Wt (i + 1) m' H') ∧ ∀ x H', J.yld i H x H' → gD K js dg x (L2.wipe σ us) H' fun σ2 H2 => L2.wipe σ2 us = L2.wipe σ us ∧ tDT K W0 dYes σ2 H2 fun b H3 =>
        if b = true then tD K Wb de σ2 H3 fun y H4 => ∃ acc, H4 L = some (.lst acc) ∧ acc.length < sizeLine ∧ Nx (upd H4 L (.lst (acc ++ [y]))) else Nx H3) := by
  intro L hL
  have ln := pl.length
  have bL := r0.newB hL
  have nL := NoSl.new r0 hL
  refine ⟨fun i m H1 => m = ds.length - i ∧ i ≤ ds.length ∧ ∃ S1 ρ1 acc ws, Gr F.B S S1 ∧ R K F S1 ρ1 (L2.wipe σ us) H1 ∧ S1 L = none ∧ NoSl ρ1 (L2.wipe σ us) L ∧ H1 L = some (.lst ws) ∧ RpL K S1 acc ws ∧ dLcNE dg de us (fun acc ρ3 => Qd acc (backD ρ3 ρ us)) (fun e ρ3 => Ed e (backD ρ3 ρ us)) (ds.drop i) acc ρ1,
    ⟨_, rfl, Nat.zero_le _, S, wipeD ρ us, [], [], Gr.refl _ _, ?_, bL.2, ?_, upd_same, rfl, h⟩, ?_⟩
  · exact (r0.beside bL.1 bL.2 nL).wipe us
  · exact NoSl.new (r0.wipe us) hL
  rintro i m H1 ⟨rfl, hi, S1, ρ1, acc, ws, g1, r1, s1, n1, hw, pa, w1⟩
  have sH : Same S H1 := g1.s.trans r1.s
  by_cases c : i < ds.length
  · have e : ds.drop i = ds[i] :: ds.drop (i + 1) := List.drop_eq_getElem_cons c
    rw [e] at w1
    obtain ⟨gg, gy⟩ := go i H1 sH (by omega)
    refine .inr ⟨gg, fun H' => ∃ S' ρ' acc ws, Gr F.B S S' ∧ R K F S' ρ' (L2.wipe σ us) H' ∧ S' L = none ∧ NoSl ρ' (L2.wipe σ us) L ∧ H' L = some (.lst ws) ∧ RpL K S' acc ws ∧ dLcNE dg de us (fun acc ρ3 => Qd acc (backD ρ3 ρ us)) (fun e ρ3 => Ed e (backD ρ3 ρ us)) (ds.drop (i + 1)) acc ρ',
      fun H' q => ⟨ds.length - (i + 1), by omega, rfl, c, q⟩, fun x H2 y => ?_⟩
    obtain ⟨rfl, hx⟩ := gy x H2 y
    obtain ⟨v, hv, hp⟩ := pl.get (i := i) (x := ds[i]) (List.getElem?_eq_getElem c)
    rw [hx] at hv
    cases hv
    have r1' := r1.keep hw n1
    refine ⟨F.and L (.lst ws), S1, ρ1, ds[i], _, r1', Rp.mono g1.s hp, w1, fun ρ2 σ2 S2 H3 g2 r2 hwipe q2 => ⟨(hwipe us hjs).trans (wipe_wipe us fun _ h => h), ?_⟩⟩
    have ew := hwipe us hjs
    rw [wipe_wipe us fun _ h => h] at ew
    have fin : ∀ {S' ρ' H'}, Gr (F.and L (.lst ws)).B S1 S' → R K (F.and L (.lst ws)) S' ρ' σ2 H' → ∃ r' : R K F S' (wipeD ρ' us) (L2.wipe σ us) H', S' L = none ∧ NoSl (wipeD ρ' us) (L2.wipe σ us) L := fun {S' ρ' H'} g' r' => by
      have rw' := r'.wipe us
      rw [ew] at rw'
      exact ⟨rw'.drop bL.1, g'.kept r' (fun _ z => nomatch z) s1, rw'.noSl⟩
    refine ⟨F.and L (.lst ws), S2, ρ2, (fun k ρ3 => k = true ∧ de ρ3 (fun y ρ3 => stab y ρ3 fun c ρ4 => acc.length < sizeLine ∧ dLcNE dg de us (fun acc ρ3 => Qd acc (backD ρ3 ρ us)) (fun e ρ3 => Ed e (backD ρ3 ρ us)) (ds.drop (i + 1)) (acc ++ [c]) (wipeD ρ4 us)) (fun e ρ3 => Ed e (backD (wipeD ρ3 us) ρ us))), (fun _ _ => False), r2, ⟨rfl, q2⟩, fun k S3 ρ3 H4 g3 r3 q3 => ?_, fun _ _ _ _ _ _ _ _ _ z => z.elim⟩
    have g13 := g2.trans g3
    cases k with
    | false => exact absurd q3.1 (fun z => Bool.noConfusion z)
    | true =>
      have q3 := q3.2
      refine ⟨F.and L (.lst ws), S3, ρ3, _, _, r3, q3, fun w z S4 ρ4 H5 g4 r4 vr4 q4 => ?_, fun e cls d S4 ρ4 H5 g4 r4 xr4 q4 => ?_⟩
      · obtain ⟨a', S5, ρ5, g5, r5, p5, q5⟩ := VR.stab r4 vr4 q4
        have g15 := (g13.trans g4).trans g5
        obtain ⟨ra, rb, rc⟩ := fin g15 r5
        refine ⟨ws, r5.kept, by rw [pa.length]; exact q5.1, S5, _, acc ++ [a'], ws ++ [w], g1.trans (g15.drop bL.1), ra.beside bL.1 rb rc, rb, rc, upd_same, RpL.append (RpL.mono g15.s pa) (RpL.one p5), q5.2⟩
      · have g14 := g13.trans g4
        obtain ⟨ra, rb, rc⟩ := fin g14 r4
        have gg := g1.trans (g14.drop bL.1)
        exact ke e cls d S4 _ σ2 H5 gg (ra.back r0 gg) xr4 q4
  · have e : i = ds.length := by omega
    rw [e, List.drop_length] at w1
    refine .inl ⟨?_, ?_⟩
    · rw [e, ← ln]
      exact stop H1 sH
    · have rb := r1.back r0 g1
      refine kq _ acc S1 _ H1 g1 rb ⟨L, rfl, bL.1, s1, fun i x ov h es ho => ?_, ws, hw, pa⟩ w1
      have hv : i ∉ us := fun hv => by
        have hi2 : i < ρ1.length := by
          have := (List.getElem?_eq_some_iff.mp h).1
          rw [back_len] at this; exact this
        rw [back_in hv hi2] at h
        cases h
        exact (keepD_has ho).elim
      rw [back_out hv] at h
      exact n1 i x ov h (by rw [wipe_out hv]; exact es) ho
end
section
variable {X : Cx} {W : WX} {elt tg iter : Expr} {scope : Scope} {own : List (Str × Nat)} {pos : Pos} {di de : DTE} {dg : DTG} {js : List Nat}
theorem d_lcE (hc : X.calm = true) (hs0 : X.stack = X.env :: X.outer) (hf : X.env.frame = some X.env.locals) (tk : L2N.Takes X W) (hN : X.N.Nodup) (hi : DE X W iter di) (ok : BlkOk X.N X.env.scope scope own) (hjs : ∀ j, j ∈ js → j ∈ own.map (·.2))
    (hg : ∀ (s : Shared) (H : Hp) (C : Addr) (cl : List (Str × Addr)) (fp : List Addr), DG (X.blk s H scope (compEnvC scope cl C X.env) fp) tg js dg)
    (he : ∀ (s : Shared) (H : Hp) (C : Addr) (cl : List (Str × Addr)) (fp : List Addr), ∀ (xe : Value → Shared → Prop) (Wb : WX), L2N.Takes ((X.blk s H scope (compEnvC scope cl C X.env) fp).tr [] xe) Wb → DE ((X.blk s H scope (compEnvC scope cl C X.env) fp).tr [] xe) Wb elt de) (hs : ∀ x, foldedSetIterable iter X.env x = pure x := by intro _; rfl) :
    DE X W (.ListComp elt [⟨tg, iter, [], 0⟩] scope pos) (dLcE di dg de (own.map (·.2))) := by
  refine pe_imp (pe_lcE (g := gD X.K js dg) (tt := tDT X.K W0 dYes) (te := fun Wb => tD X.K Wb de) hc hs0 hf tk hN hi ok hg (fun _ _ _ _ _ => d_tests_nil) he hs) fun σ H QQ ⟨F, S, ρ, Q, Ee, r, h, kq, ke⟩ => ?_
  refine ⟨F, S, ρ, _, Ee, r, h, fun v x S1 ρ1 H1 g1 r1 vr1 q1 => ?_, ke⟩
  obtain ⟨a, S2, ρ2, g2, r2, p2, q2⟩ := VR.stab r1 vr1 q1
  cases a with
  | lst ds =>
    obtain ⟨p, vs, e, h1, pl⟩ := p2
    have hw : ∀ G, Same S2 G → SqL X.K G p vs := fun G s => SqL.of (s _ _ h1)
    have g12 := g1.trans g2
    have kk : ∀ v acc S' ρ' H', Gr F.B S2 S' → R X.K F S' ρ' σ H' → VR X.K F S' ρ' σ H' v (.fr (.l acc)) → Q (.fr (.l acc)) ρ' → QQ v H' := fun v acc S' ρ' H' g' r' vr' q' => kq v _ S' ρ' H' (g12.trans g') r' vr' q'
    exact ⟨p, e, ⟨vs, hw _ r2.s⟩, lc_turnsE (Wb := fun c d _ H => W c d σ H) r2 pl hjs q2 (goL hw) (fun G s => ⟨vs, hw G s, Nat.le_refl _⟩) kk fun e cls d S' ρ' _ H' g' r' xr' q' => ke e cls d S' ρ' H' (g12.trans g') r' xr' q'⟩
  | _ => exact q2.elim
theorem d_setLcE {i : Nat} {y : Str} {py spos : Pos} (hc : X.calm = true) (hs0 : X.stack = X.env :: X.outer) (hf : X.env.frame = some X.env.locals) (tk : L2N.Takes X W) (hN : X.N.Nodup) (hy : X.N[i]? = some y) (hyl : X.env.scope.names.lookup y = some .local)
    (hsw : swapsWith (.ListComp elt [⟨tg, iter, [], 0⟩] scope pos) (some (.Name y py)) spos.line X.env = pure true) (hi : DE X W iter di) (ok : BlkOk X.N X.env.scope scope own) (hjs : ∀ j, j ∈ js → j ∈ own.map (·.2))
    (hg : ∀ (s : Shared) (H : Hp) (C : Addr) (cl : List (Str × Addr)) (fp : List Addr), DG (X.blk s H scope (compEnvC scope cl C X.env) fp) tg js dg)
    (he : ∀ (s : Shared) (H : Hp) (C : Addr) (cl : List (Str × Addr)) (fp : List Addr), ∀ (xe : Value → Shared → Prop) (Wb : WX), L2N.Takes ((X.blk s H scope (compEnvC scope cl C X.env) fp).tr [] xe) Wb → DE ((X.blk s H scope (compEnvC scope cl C X.env) fp).tr [] xe) Wb elt de) (hs : ∀ x, foldedSetIterable iter X.env x = pure x := by intro _; rfl) :
    DS X W (.Assign [.Name y py] (.ListComp elt [⟨tg, iter, [], 0⟩] scope pos) spos) (dSet i (dLcE di dg de (own.map (·.2)))) := by
  refine ps_imp (ps_setLcE (g := gD X.K js dg) (tt := tDT X.K W0 dYes) (te := fun Wb => tD X.K Wb de) hc hs0 hf tk hN hy hyl hsw hi ok hg (fun _ _ _ _ _ => d_tests_nil) he hs) fun D σ H ⟨F, S, ρ, De, r, h, k1, k2, k3, k4, k5⟩ => ?_
  refine ⟨F, S, ρ, _, _, r, h, fun v x S1 ρ1 H1 g1 r1 vr1 q1 => ?_, fun e cls d S' ρ' H' g' r' => k5 e cls d ρ' σ S' H' g' r'⟩
  obtain ⟨a, S2, ρ2, g2, r2, p2, q2⟩ := VR.stab r1 vr1 q1
  cases a with
  | lst ds =>
    obtain ⟨p, vs, e, h1, pl⟩ := p2
    have hw : ∀ G, Same S2 G → SqL X.K G p vs := fun G s => SqL.of (s _ _ h1)
    have g12 := g1.trans g2
    have kk : ∀ v acc S' ρ' H', Gr F.B S2 S' → R X.K F S' ρ' σ H' → VR X.K F S' ρ' σ H' v (.fr (.l acc)) → storeS i (.fr (.l acc)) ρ' De.nx → gName i v σ H' D.nx := fun v acc S' ρ' H' g' r' vr' q' => by
      obtain ⟨S4, ρ4, g4, r4, q4⟩ := VR.store r' vr' q'
      exact k1 ρ4 _ S4 H' ((g12.trans g').trans g4) r4 q4
    exact ⟨p, e, ⟨vs, hw _ r2.s⟩, lc_turnsE (Wb := fun c d _ H => W c d σ H) r2 pl hjs q2 (goL hw) (fun G s => ⟨vs, hw G s, Nat.le_refl _⟩) kk fun e cls d S' ρ' _ H' g' r' xr' q' => k5 e cls d ρ' σ S' H' (g12.trans g') r' xr' q'⟩
  | _ => exact q2.elim
end
end DW
/-! Ed1: rings folded in: what one level of the folding keeps, in plain Lean. -/
namespace Ed
/-- an arc: its ends (sets of places as lists), what it costs still, its road -/
structure PA where
  t : List Int
  g : List Int
  l : Int
  r : Int
deriving DecidableEq
/-- the nodes that arcs lead to -/
inductive NR (as : List PA) (root : List Int) : List Int → Prop
  | root : NR as root root
  | step {n : List Int} {a : PA} (h : NR as root n) (ha : a ∈ as) (e : a.t = n) : NR as root a.g
theorem NR.mono {as bs : List PA} {root n : List Int} (h : ∀ a, a ∈ as → a ∈ bs) (r : NR as root n) : NR bs root n := by
  induction r with
  | root => exact .root
  | step _ ha e ih => exact .step ih (h _ ha) e
def ent (pl : List Int) (a : PA) : Bool := a.g.all (fun x => decide (x ∈ pl)) && !(a.t.all fun x => decide (x ∈ pl))
def esum (P : List (List Int × Int)) (a : PA) : Int := ((P.filter fun q => ent q.1 a).map (·.2)).sum
theorem esum_nil (a : PA) : esum [] a = 0 := rfl
theorem esum_app (P Q : List (List Int × Int)) (a : PA) : esum (P ++ Q) a = esum P a + esum Q a := by
  unfold esum
  rw [List.filter_append, List.map_append, List.sum_append]
theorem esum_none {P : List (List Int × Int)} {a : PA} (h : ∀ q, q ∈ P → ent q.1 a = false) : esum P a = 0 := by
  unfold esum
  rw [List.filter_eq_nil_iff.mpr fun q hq => by rw [h q hq]; decide]
  rfl
theorem ent_iff {pl : List Int} {a : PA} : ent pl a = true ↔ (∀ x, x ∈ a.g → x ∈ pl) ∧ ∃ x, x ∈ a.t ∧ x ∉ pl := by
  unfold ent
  simp [List.all_eq_true]
theorem sum_nonneg {l : List Int} (h : ∀ x, x ∈ l → 0 ≤ x) : 0 ≤ l.sum := by
  induction l with
  | nil => exact Int.le_refl 0
  | cons x l ih =>
    rw [List.sum_cons]
    have := h x List.mem_cons_self
    have := ih fun y hy => h y (List.mem_cons_of_mem _ hy)
    omega
theorem le_sum {l : List Int} (h : ∀ x, x ∈ l → 0 ≤ x) {y : Int} (hy : y ∈ l) : y ≤ l.sum := by
  induction l with
  | nil => cases hy
  | cons x l ih =>
    rw [List.sum_cons]
    have h0 := h x List.mem_cons_self
    have h1 := sum_nonneg fun y hy => h y (List.mem_cons_of_mem x hy)
    rcases List.mem_cons.mp hy with rfl | hy
    · omega
    · have := ih (fun y hy => h y (List.mem_cons_of_mem _ hy)) hy
      omega
/-- a map of nodes that can be worked at -/
structure Good (r : List Int) (ns : List (List Int)) (as : List PA) : Prop where
  nd : ns.Nodup
  rt : r ∈ ns
  ne : ∀ n, n ∈ ns → n ≠ []
  dj : ∀ n m x, n ∈ ns → m ∈ ns → x ∈ n → x ∈ m → n = m
  so : ∀ n, n ∈ ns → n.Pairwise (· < ·)
  tg : ∀ a, a ∈ as → a.t ∈ ns ∧ a.g ∈ ns ∧ a.t ≠ a.g
  lf : ∀ a, a ∈ as → 0 ≤ a.l
  rd : (as.map PA.r).Nodup
  rc : ∀ n, n ∈ ns → NR as r n
/-- a set of places made of nodes -/
def Uni (r : List Int) (ns : List (List Int)) (pl : List Int) : Prop := pl.Pairwise (· < ·) ∧ ∃ U : List (List Int), U ≠ [] ∧ (∀ n, n ∈ U → n ∈ ns ∧ n ≠ r) ∧ ∀ x, x ∈ pl ↔ ∃ n, n ∈ U ∧ x ∈ n
structure Post (r : List Int) (ns : List (List Int)) (as : List PA) (found : List Int) (P : List (List Int × Int)) : Prop where
  nd : found.Nodup
  sub : ∀ x, x ∈ found → ∃ a, a ∈ as ∧ a.r = x
  one : ∀ n, n ∈ ns → n ≠ r → ∃ a, a ∈ as ∧ a.r ∈ found ∧ a.g = n ∧ ∀ b, b ∈ as → b.r ∈ found → b.g = n → b = a
  nor : ∀ a, a ∈ as → a.r ∈ found → a.g ≠ r
  rc : ∀ n, n ∈ ns → NR (as.filter fun a => decide (a.r ∈ found)) r n
  pp : ∀ q, q ∈ P → 0 < q.2 ∧ Uni r ns q.1
  pd : (P.map Prod.fst).Nodup
  le : ∀ a, a ∈ as → esum P a ≤ a.l
  eq : ∀ a, a ∈ as → a.r ∈ found → esum P a = a.l
  en : ∀ q, q ∈ P → ∃ a, a ∈ as ∧ a.r ∈ found ∧ ent q.1 a = true ∧ ∀ b, b ∈ as → b.r ∈ found → ent q.1 b = true → b = a
theorem rd_inj {as : List PA} (h : (as.map PA.r).Nodup) {a b : PA} (ha : a ∈ as) (hb : b ∈ as) (e : a.r = b.r) : a = b := by
  induction as with
  | nil => cases ha
  | cons c as ih =>
    rw [List.map_cons, List.nodup_cons] at h
    rcases List.mem_cons.mp ha with e1 | ha' <;> rcases List.mem_cons.mp hb with e2 | hb'
    · rw [e1, e2]
    · exact absurd (List.mem_map.mpr ⟨b, hb', by rw [← e, e1]⟩) h.1
    · exact absurd (List.mem_map.mpr ⟨a, ha', by rw [e, e2]⟩) h.1
    · exact ih h.2 ha' hb'
section
variable {r : List Int} {ns : List (List Int)} {as : List PA}
/-- an arc enters a set made of nodes just where it leads into one of them from one that is none of them -/
theorem Good.ent_uni (G : Good r ns as) {pl : List Int} {U : List (List Int)} (hU : ∀ n, n ∈ U → n ∈ ns) (hp : ∀ x, x ∈ pl ↔ ∃ n, n ∈ U ∧ x ∈ n) {a : PA} (ht : a.t ∈ ns) (hg : a.g ∈ ns) : ent pl a = true ↔ a.g ∈ U ∧ a.t ∉ U := by
  have key : ∀ n, n ∈ ns → ((∀ x, x ∈ n → x ∈ pl) ↔ n ∈ U) := fun n hn => by
    constructor
    · intro h
      obtain ⟨x, hx⟩ := List.exists_mem_of_ne_nil n (G.ne n hn)
      obtain ⟨m, hm, hxm⟩ := (hp x).mp (h x hx)
      rw [G.dj n m x hn (hU m hm) hx hxm]
      exact hm
    · intro h x hx
      exact (hp x).mpr ⟨n, h, hx⟩
  rw [ent_iff, key a.g hg]
  constructor
  · rintro ⟨h1, x, hx, hn⟩
    exact ⟨h1, fun h => hn ((key a.t ht).mpr h x hx)⟩
  · rintro ⟨h1, h2⟩
    refine ⟨h1, Classical.byContradiction fun z => h2 ((key a.t ht).mp fun x hx => Classical.byContradiction fun w => z ⟨x, hx, w⟩)⟩
theorem Good.ent_node (G : Good r ns as) {n : List Int} (hn : n ∈ ns) {a : PA} (ht : a.t ∈ ns) (hg : a.g ∈ ns) (hne : a.t ≠ a.g) : ent n a = true ↔ a.g = n := by
  rw [G.ent_uni (U := [n]) (fun m hm => by rw [List.mem_singleton.mp hm]; exact hn) (fun x => by simp) ht hg]
  simp only [List.mem_singleton]
  exact ⟨fun h => h.1, fun h => ⟨h, fun z => hne (z.trans h.symm)⟩⟩
/-- what a level takes off: least n off each arc into n, but the root -/
structure Low (r : List Int) (ns : List (List Int)) (as bs : List PA) (least : List Int → Int) (c : List Int → PA) : Prop where
  map : bs = as.map fun a => if a.g = r then a else { a with l := a.l - least a.g }
  nn : ∀ n, n ∈ ns → n ≠ r → 0 ≤ least n
  le : ∀ a, a ∈ as → a.g ≠ r → least a.g ≤ a.l
  ch : ∀ n, n ∈ ns → n ≠ r → c n ∈ bs ∧ (c n).g = n ∧ (c n).l = 0
def prices (r : List Int) (ns : List (List Int)) (least : List Int → Int) : List (List Int × Int) := (ns.filter fun n => decide (n ≠ r) && decide (0 < least n)).map fun n => (n, least n)
theorem Good.low_mem {bs : List PA} {least : List Int → Int} {c : List Int → PA} (G : Good r ns as) (L : Low r ns as bs least c) {b : PA} (h : b ∈ bs) : ∃ a, a ∈ as ∧ a.t = b.t ∧ a.g = b.g ∧ a.r = b.r ∧ b.l = a.l - (if a.g = r then 0 else least a.g) := by
  rw [L.map] at h
  obtain ⟨a, ha, rfl⟩ := List.mem_map.mp h
  refine ⟨a, ha, ?_⟩
  by_cases e : a.g = r
  · simp [e]
  · simp [e]
theorem Good.mem_low {bs : List PA} {least : List Int → Int} {c : List Int → PA} (G : Good r ns as) (L : Low r ns as bs least c) {a : PA} (h : a ∈ as) : ∃ b, b ∈ bs ∧ b.t = a.t ∧ b.g = a.g ∧ b.r = a.r ∧ b.l = a.l - (if a.g = r then 0 else least a.g) := by
  refine ⟨_, by rw [L.map]; exact List.mem_map.mpr ⟨a, h, rfl⟩, ?_⟩
  by_cases e : a.g = r
  · simp [e]
  · simp [e]
theorem Good.low {bs : List PA} {least : List Int → Int} {c : List Int → PA} (G : Good r ns as) (L : Low r ns as bs least c) : Good r ns bs := by
  refine ⟨G.nd, G.rt, G.ne, G.dj, G.so, fun b hb => ?_, fun b hb => ?_, ?_, fun n hn => ?_⟩
  · obtain ⟨a, ha, e1, e2, _⟩ := G.low_mem L hb
    rw [← e1, ← e2]
    exact G.tg a ha
  · obtain ⟨a, ha, e1, e2, _, e3⟩ := G.low_mem L hb
    rw [e3]
    by_cases e : a.g = r
    · rw [if_pos e]
      have := G.lf a ha
      omega
    · rw [if_neg e]
      have := L.le a ha e
      omega
  · rw [L.map, List.map_map]
    have : (PA.r ∘ fun a : PA => if a.g = r then a else { a with l := a.l - least a.g }) = PA.r := by
      funext a
      by_cases e : a.g = r <;> simp [Function.comp, e]
    rw [this]
    exact G.rd
  · have : ∀ n, NR as r n → NR bs r n := fun n h => by
      induction h with
      | root => exact .root
      | step _ ha e ih =>
        obtain ⟨b, hb, e1, e2, _⟩ := G.mem_low L ha
        rw [← e2]
        exact .step ih hb (e1.trans e)
    exact this n (G.rc n hn)
theorem esum_prices (G : Good r ns as) {least : List Int → Int} (hn : ∀ n, n ∈ ns → n ≠ r → 0 ≤ least n) {a : PA} (ht : a.t ∈ ns) (hg : a.g ∈ ns) (hne : a.t ≠ a.g) : esum (prices r ns least) a = if a.g = r then 0 else least a.g := by
  unfold esum prices
  rw [List.filter_map, List.map_map, List.filter_filter]
  have e1 : (ns.filter fun n => ((fun q : List Int × Int => ent q.1 a) ∘ fun n => (n, least n)) n && (decide (n ≠ r) && decide (0 < least n))) = ns.filter fun n => decide (n = a.g) && (decide (n ≠ r) && decide (0 < least n)) := by
    refine List.filter_congr fun n hn => ?_
    have := G.ent_node hn ht hg hne
    have e : ent n a = decide (n = a.g) := by
      rw [Bool.eq_iff_iff, this, decide_eq_true_eq]
      exact ⟨Eq.symm, Eq.symm⟩
    simp only [Function.comp, e]
  rw [e1]
  have e2 : ∀ (l : List (List Int)), l.Nodup → a.g ∈ l → (l.filter fun n => decide (n = a.g) && (decide (n ≠ r) && decide (0 < least n))) = if a.g ≠ r ∧ 0 < least a.g then [a.g] else [] := by
    intro l
    induction l with
    | nil => intro _ h; cases h
    | cons m l ih =>
      intro nd h
      rw [List.nodup_cons] at nd
      by_cases e : m = a.g
      · subst e
        have : (l.filter fun n => decide (n = a.g) && (decide (n ≠ r) && decide (0 < least n))) = [] := List.filter_eq_nil_iff.mpr fun n hn z => by
          simp at z
          exact nd.1 (z.1 ▸ hn)
        rw [List.filter_cons, this]
        by_cases z : a.g ≠ r ∧ 0 < least a.g
        · rw [if_pos z, if_pos (by simp [z.1, z.2])]
        · rw [if_neg z, if_neg (by simpa using z)]
      · have h' : a.g ∈ l := by
          rcases List.mem_cons.mp h with z | z
          · exact absurd z.symm e
          · exact z
        rw [List.filter_cons, if_neg (by simp [e])]
        exact ih nd.2 h'
  rw [e2 ns G.nd hg]
  by_cases z : a.g = r
  · rw [if_neg (by simp [z]), if_pos z]
    rfl
  · rw [if_neg z]
    have := hn a.g hg z
    by_cases w : 0 < least a.g
    · rw [if_pos ⟨z, w⟩]
      simp
    · rw [if_neg (by simp [w])]
      have : least a.g = 0 := by omega
      rw [this]
      rfl
theorem prices_mem {least : List Int → Int} {q : List Int × Int} (h : q ∈ prices r ns least) : ∃ n, n ∈ ns ∧ n ≠ r ∧ 0 < least n ∧ q = (n, least n) := by
  unfold prices at h
  obtain ⟨n, hn, rfl⟩ := List.mem_map.mp h
  obtain ⟨h1, h2⟩ := List.mem_filter.mp hn
  simp at h2
  exact ⟨n, h1, h2.1, h2.2, rfl⟩
theorem prices_fst {least : List Int → Int} : (prices r ns least).map Prod.fst = ns.filter fun n => decide (n ≠ r) && decide (0 < least n) := by
  unfold prices
  rw [List.map_map]
  have : (Prod.fst ∘ fun n : List Int => (n, least n)) = id := rfl
  rw [this, List.map_id]
theorem Uni.node (G : Good r ns as) {n : List Int} (hn : n ∈ ns) (h : n ≠ r) : Uni r ns n := ⟨G.so n hn, [n], by simp, fun m hm => by rw [List.mem_singleton.mp hm]; exact ⟨hn, h⟩, fun x => by simp⟩
/-- NO RING: the chosen arcs are a tree -/
theorem Good.done {bs : List PA} {least : List Int → Int} {c : List Int → PA} (G : Good r ns as) (L : Low r ns as bs least c)
    (hr : ∀ n, n ∈ ns → NR ((ns.filter fun n => decide (n ≠ r)).map c) r n) : Post r ns as ((ns.filter fun n => decide (n ≠ r)).map fun n => (c n).r) (prices r ns least) := by
  have G' := G.low L
  have hc : ∀ n, n ∈ (ns.filter fun n => decide (n ≠ r)) ↔ n ∈ ns ∧ n ≠ r := fun n => by simp [List.mem_filter]
  -- the arcs of the level above
  have up : ∀ n, n ∈ ns → n ≠ r → ∃ a, a ∈ as ∧ a.t = (c n).t ∧ a.g = n ∧ a.r = (c n).r ∧ a.l = least n := fun n hn h => by
    obtain ⟨h1, h2, h3⟩ := L.ch n hn h
    obtain ⟨a, ha, e1, e2, e3, e4⟩ := G.low_mem L h1
    refine ⟨a, ha, e1, e2.trans h2, e3, ?_⟩
    rw [e2, h2, if_neg h, h3] at e4
    omega
  have inF : ∀ a, a ∈ as → a.r ∈ ((ns.filter fun n => decide (n ≠ r)).map fun n => (c n).r) → a.g ≠ r ∧ a.g ∈ ns ∧ a.r = (c a.g).r ∧ a.l = least a.g := fun a ha h => by
    obtain ⟨n, hn, e⟩ := List.mem_map.mp h
    obtain ⟨hn1, hn2⟩ := (hc n).mp hn
    obtain ⟨b, hb, e1, e2, e3, e4⟩ := up n hn1 hn2
    have := rd_inj G.rd ha hb (e.symm.trans e3.symm)
    subst this
    exact ⟨e2 ▸ hn2, e2 ▸ hn1, by rw [e2]; exact e3, by rw [e2]; exact e4⟩
  refine ⟨?_, fun x hx => ?_, fun n hn h => ?_, fun a ha h => (inF a ha h).1, fun n hn => ?_, fun q hq => ?_, ?_, fun a ha => ?_, fun a ha h => ?_, fun q hq => ?_⟩
  · have : ∀ l : List (List Int), l.Nodup → (∀ n, n ∈ l → n ∈ ns ∧ n ≠ r) → (l.map fun n => (c n).r).Nodup := by
      intro l
      induction l with
      | nil => intro _ _; exact List.nodup_nil
      | cons m l ih =>
        intro nd hl
        rw [List.nodup_cons] at nd
        rw [List.map_cons, List.nodup_cons]
        refine ⟨fun z => ?_, ih nd.2 fun n hn => hl n (List.mem_cons_of_mem _ hn)⟩
        obtain ⟨n, hn, e⟩ := List.mem_map.mp z
        obtain ⟨h1, h2, _⟩ := L.ch n (hl n (List.mem_cons_of_mem _ hn)).1 (hl n (List.mem_cons_of_mem _ hn)).2
        obtain ⟨h3, h4, _⟩ := L.ch m (hl m List.mem_cons_self).1 (hl m List.mem_cons_self).2
        have := rd_inj G'.rd h1 h3 e
        rw [this, h4] at h2
        exact nd.1 (h2 ▸ hn)
    exact this _ (G.nd.sublist List.filter_sublist) fun n hn => (hc n).mp hn
  · obtain ⟨n, hn, rfl⟩ := List.mem_map.mp hx
    obtain ⟨h1, h2⟩ := (hc n).mp hn
    obtain ⟨a, ha, _, _, e, _⟩ := up n h1 h2
    exact ⟨a, ha, e⟩
  · obtain ⟨a, ha, e1, e2, e3, e4⟩ := up n hn h
    refine ⟨a, ha, List.mem_map.mpr ⟨n, (hc n).mpr ⟨hn, h⟩, e3.symm⟩, e2, fun b hb hbf hbg => ?_⟩
    obtain ⟨_, _, z, _⟩ := inF b hb hbf
    rw [hbg] at z
    exact rd_inj G.rd hb ha (z.trans e3.symm)
  · have : ∀ n, NR ((ns.filter fun n => decide (n ≠ r)).map c) r n → NR (as.filter fun a => decide (a.r ∈ ((ns.filter fun n => decide (n ≠ r)).map fun n => (c n).r))) r n := fun n h => by
      induction h with
      | root => exact .root
      | @step n a _ ha e ih =>
        obtain ⟨m, hm, rfl⟩ := List.mem_map.mp ha
        obtain ⟨h1, h2⟩ := (hc m).mp hm
        obtain ⟨b, hb, e1, e2, e3, _⟩ := up m h1 h2
        rw [(L.ch m h1 h2).2.1, ← e2]
        exact .step ih (List.mem_filter.mpr ⟨hb, by simpa using ⟨m, ⟨h1, h2⟩, e3.symm⟩⟩) (e1.trans e)
    exact this n (hr n hn)
  · obtain ⟨n, h1, h2, h3, rfl⟩ := prices_mem hq
    exact ⟨h3, Uni.node G h1 h2⟩
  · rw [prices_fst]
    exact G.nd.sublist List.filter_sublist
  · obtain ⟨h1, h2, h3⟩ := G.tg a ha
    rw [esum_prices G L.nn h1 h2 h3]
    by_cases e : a.g = r
    · rw [if_pos e]
      exact G.lf a ha
    · rw [if_neg e]
      exact L.le a ha e
  · obtain ⟨h1, h2, h3⟩ := G.tg a ha
    obtain ⟨e1, _, _, e2⟩ := inF a ha h
    rw [esum_prices G L.nn h1 h2 h3, if_neg e1, e2]
  · obtain ⟨n, h1, h2, h3, rfl⟩ := prices_mem hq
    obtain ⟨a, ha, e1, e2, e3, e4⟩ := up n h1 h2
    obtain ⟨t1, t2, t3⟩ := G.tg a ha
    refine ⟨a, ha, List.mem_map.mpr ⟨n, (hc n).mpr ⟨h1, h2⟩, e3.symm⟩, (G.ent_node h1 t1 t2 t3).mpr e2, fun b hb hbf hbe => ?_⟩
    obtain ⟨u1, u2, u3⟩ := G.tg b hb
    have hbg := (G.ent_node h1 u1 u2 u3).mp hbe
    obtain ⟨_, _, z, _⟩ := inF b hb hbf
    rw [hbg] at z
    exact rd_inj G.rd hb ha (z.trans e3.symm)
end
end Ed
/-! Ed2: what the folded map's answer is for the map itself. -/
namespace Ed
theorem ent_cg {pl : List Int} {a b : PA} (h1 : a.t = b.t) (h2 : a.g = b.g) : ent pl a = ent pl b := by
  unfold ent
  rw [h1, h2]
theorem esum_cg {P : List (List Int × Int)} {a b : PA} (h1 : a.t = b.t) (h2 : a.g = b.g) : esum P a = esum P b := by
  unfold esum
  have : (fun q : List Int × Int => ent q.1 a) = fun q => ent q.1 b := funext fun q => ent_cg h1 h2
  rw [this]
theorem esum_ge {P : List (List Int × Int)} (hp : ∀ q, q ∈ P → 0 < q.2) {a : PA} {q : List Int × Int} (hq : q ∈ P) (he : ent q.1 a = true) : q.2 ≤ esum P a := by
  unfold esum
  refine le_sum (fun x hx => ?_) (List.mem_map.mpr ⟨q, List.mem_filter.mpr ⟨hq, he⟩, rfl⟩)
  obtain ⟨p, hp', rfl⟩ := List.mem_map.mp hx
  have := hp p (List.mem_filter.mp hp').1
  omega
section
variable {r : List Int} {ns : List (List Int)} {as bs : List PA} {least : List Int → Int} {c : List Int → PA} {found : List Int} {P2 : List (List Int × Int)}
theorem Good.unlow (G : Good r ns as) (L : Low r ns as bs least c) (T : Post r ns bs found P2) : Post r ns as found (prices r ns least ++ P2) := by
  have G' := G.low L
  have hpos : ∀ q, q ∈ P2 → 0 < q.2 := fun q hq => (T.pp q hq).1
  have same : ∀ {a b : PA}, a ∈ as → b ∈ bs → a.r = b.r → a.t = b.t ∧ a.g = b.g ∧ b.l = a.l - (if a.g = r then 0 else least a.g) := fun {a b} ha hb e => by
    obtain ⟨a', ha', e1, e2, e3, e4⟩ := G.low_mem L hb
    have := rd_inj G.rd ha ha' (e.trans e3.symm)
    subst this
    exact ⟨e1, e2, e4⟩
  have dn : ∀ {a : PA}, a ∈ as → ∃ b, b ∈ bs ∧ b.t = a.t ∧ b.g = a.g ∧ b.r = a.r ∧ b.l = a.l - (if a.g = r then 0 else least a.g) := fun {a} ha => G.mem_low L ha
  have uq : ∀ {a b : PA}, a ∈ as → b ∈ as → (∃ x y, x ∈ bs ∧ y ∈ bs ∧ x.r = a.r ∧ y.r = b.r ∧ x = y) → a = b := fun {a b} ha hb ⟨x, y, _, _, e1, e2, e3⟩ => rd_inj G.rd ha hb (by rw [← e1, ← e2, e3])
  have es : ∀ a, a ∈ as → esum (prices r ns least ++ P2) a = (if a.g = r then 0 else least a.g) + esum P2 a := fun a ha => by
    obtain ⟨h1, h2, h3⟩ := G.tg a ha
    rw [esum_app, esum_prices G L.nn h1 h2 h3]
  refine ⟨T.nd, fun x hx => ?_, fun n hn h => ?_, fun a ha h => ?_, fun n hn => ?_, fun q hq => ?_, ?_, fun a ha => ?_, fun a ha h => ?_, fun q hq => ?_⟩
  · obtain ⟨b, hb, rfl⟩ := T.sub x hx
    obtain ⟨a, ha, _, _, e, _⟩ := G.low_mem L hb
    exact ⟨a, ha, e⟩
  · obtain ⟨b, hb, h1, h2, h3⟩ := T.one n hn h
    obtain ⟨a, ha, e1, e2, e3, _⟩ := G.low_mem L hb
    refine ⟨a, ha, e3 ▸ h1, e2.trans h2, fun a' ha' hf hg => ?_⟩
    obtain ⟨b', hb', f1, f2, f3, _⟩ := dn ha'
    exact uq ha' ha ⟨b', b, hb', hb, f3, e3.symm, h3 b' hb' (f3 ▸ hf) (f2.trans hg)⟩
  · obtain ⟨b', hb', f1, f2, f3, _⟩ := dn ha
    rw [← f2]
    exact T.nor b' hb' (f3 ▸ h)
  · have : ∀ n, NR (bs.filter fun a => decide (a.r ∈ found)) r n → NR (as.filter fun a => decide (a.r ∈ found)) r n := fun n h => by
      induction h with
      | root => exact .root
      | @step n b _ hb e ih =>
        obtain ⟨h1, h2⟩ := List.mem_filter.mp hb
        obtain ⟨a, ha, e1, e2, e3, _⟩ := G.low_mem L h1
        rw [← e2]
        exact .step ih (List.mem_filter.mpr ⟨ha, by rw [e3]; exact h2⟩) (e1.trans e)
    exact this n (T.rc n hn)
  · rcases List.mem_append.mp hq with hq | hq
    · obtain ⟨n, h1, h2, h3, rfl⟩ := prices_mem hq
      exact ⟨h3, Uni.node G h1 h2⟩
    · exact T.pp q hq
  · rw [List.map_append, List.nodup_append]
    refine ⟨by rw [prices_fst]; exact G.nd.sublist List.filter_sublist, T.pd, fun x hx y hy e => ?_⟩
    subst e
    obtain ⟨q1, hq1, rfl⟩ := List.mem_map.mp hx
    obtain ⟨n, h1, h2, h3, rfl⟩ := prices_mem hq1
    obtain ⟨q2, hq2, e2⟩ := List.mem_map.mp hy
    obtain ⟨k1, k2, k3⟩ := L.ch n h1 h2
    obtain ⟨t1, t2, t3⟩ := G'.tg (c n) k1
    have en : ent q2.1 (c n) = true := by
      rw [e2]
      exact (G'.ent_node h1 t1 t2 t3).mpr k2
    have := esum_ge hpos hq2 en
    have := hpos q2 hq2
    have := T.le (c n) k1
    omega
  · obtain ⟨b, hb, e1, e2, _, e4⟩ := dn ha
    have := T.le b hb
    rw [es a ha, esum_cg e1.symm e2.symm]
    omega
  · obtain ⟨b, hb, e1, e2, e3, e4⟩ := dn ha
    have := T.eq b hb (e3 ▸ h)
    rw [es a ha, esum_cg e1.symm e2.symm]
    omega
  · rcases List.mem_append.mp hq with hq | hq
    · obtain ⟨n, h1, h2, h3, rfl⟩ := prices_mem hq
      obtain ⟨b, hb, k1, k2, k3⟩ := T.one n h1 h2
      obtain ⟨a, ha, e1, e2, e3, _⟩ := G.low_mem L hb
      obtain ⟨t1, t2, t3⟩ := G.tg a ha
      refine ⟨a, ha, e3 ▸ k1, (G.ent_node h1 t1 t2 t3).mpr (e2.trans k2), fun a' ha' hf he => ?_⟩
      obtain ⟨u1, u2, u3⟩ := G.tg a' ha'
      obtain ⟨b', hb', f1, f2, f3, _⟩ := dn ha'
      exact uq ha' ha ⟨b', b, hb', hb, f3, e3.symm, k3 b' hb' (f3 ▸ hf) (f2.trans ((G.ent_node h1 u1 u2 u3).mp he))⟩
    · obtain ⟨b, hb, k1, k2, k3⟩ := T.en q hq
      obtain ⟨a, ha, e1, e2, e3, _⟩ := G.low_mem L hb
      refine ⟨a, ha, e3 ▸ k1, by rw [ent_cg e1 e2]; exact k2, fun a' ha' hf he => ?_⟩
      obtain ⟨b', hb', f1, f2, f3, _⟩ := dn ha'
      exact uq ha' ha ⟨b', b, hb', hb, f3, e3.symm, k3 b' hb' (f3 ▸ hf) (by rw [ent_cg f1 f2]; exact he)⟩
/-- one behind the other by chosen arcs -/
def Adj (c : List Int → PA) : List (List Int) → Prop
  | a :: b :: l => (c a).t = b ∧ Adj c (b :: l)
  | _ => True
theorem Adj.right : ∀ (l1 : List (List Int)) {l2 : List (List Int)}, Adj c (l1 ++ l2) → Adj c l2
  | [], _, h => h
  | [a], [], h => trivial
  | [a], b :: l, h => h.2
  | a :: b :: l, l2, h => Adj.right (b :: l) (l2 := l2) h.2
theorem Adj.left : ∀ (l1 : List (List Int)) {l2 : List (List Int)}, Adj c (l1 ++ l2) → Adj c l1
  | [], _, _ => trivial
  | [a], _, _ => trivial
  | a :: b :: l, l2, h => ⟨h.1, Adj.left (b :: l) (l2 := l2) h.2⟩
theorem Adj.back {Q : List Int → Prop} {z : List Int} : ∀ (l : List (List Int)), Adj c (l ++ [z]) → Q z → (∀ n, n ∈ l → Q (c n).t → Q n) → ∀ n, n ∈ l → Q n
  | [], _, _, _, n, h => nomatch h
  | [a], ha, hz, hq, n, h => by
    rw [List.mem_singleton.mp h]
    refine hq a List.mem_cons_self ?_
    have : (c a).t = z := ha.1
    rw [this]
    exact hz
  | a :: b :: l, ha, hz, hq, n, h => by
    have ih := Adj.back (b :: l) ha.2 hz fun n hn => hq n (List.mem_cons_of_mem _ hn)
    rcases List.mem_cons.mp h with rfl | h
    · refine hq n List.mem_cons_self ?_
      rw [ha.1]
      exact ih b List.mem_cons_self
    · exact ih n h
theorem Adj.next {z : List Int} : ∀ (l : List (List Int)), Adj c (l ++ [z]) → ∀ n, n ∈ l → (c n).t ∈ l ∨ (c n).t = z
  | [], _, n, h => nomatch h
  | [a], ha, n, h => by
    rw [List.mem_singleton.mp h]
    exact .inr ha.1
  | a :: b :: l, ha, n, h => by
    rcases List.mem_cons.mp h with rfl | h
    · exact .inl (by rw [ha.1]; simp)
    · exact (Adj.next (b :: l) ha.2 n h).imp (List.mem_cons_of_mem _) id
/-- a ring of chosen arcs -/
structure Ring (r : List Int) (ns : List (List Int)) (c : List Int → PA) (ring : List (List Int)) : Prop where
  nd : ring.Nodup
  mem : ∀ n, n ∈ ring → n ∈ ns ∧ n ≠ r
  adj : ∃ h tl, ring = h :: tl ∧ Adj c (ring ++ [h])
theorem Ring.next {ring : List (List Int)} (R : Ring r ns c ring) {n : List Int} (h : n ∈ ring) : (c n).t ∈ ring := by
  obtain ⟨z, tl, e, ha⟩ := R.adj
  rcases Adj.next ring ha n h with q | q
  · exact q
  · rw [q, e]
    exact List.mem_cons_self
theorem Ring.all {ring : List (List Int)} (R : Ring r ns c ring) {Q : List Int → Prop} {e : List Int} (he : e ∈ ring) (hQ : Q e) (hq : ∀ n, n ∈ ring → n ≠ e → Q (c n).t → Q n) : ∀ n, n ∈ ring → Q n := by
  obtain ⟨z, tl, ez, ha⟩ := R.adj
  obtain ⟨l1, l2, el⟩ := List.append_of_mem he
  have nd := R.nd
  rw [el] at nd ha
  rw [List.nodup_append] at nd
  obtain ⟨n1, n2, n3⟩ := nd
  rw [List.nodup_cons] at n2
  have a1 : Adj c (l1 ++ [e]) := Adj.left (l1 ++ [e]) (l2 := l2 ++ [z]) (by simpa using ha)
  have a2 : Adj c (l2 ++ [z]) := Adj.right (l1 ++ [e]) (l2 := l2 ++ [z]) (by simpa using ha)
  have q1 : ∀ n, n ∈ l1 → Q n := Adj.back l1 a1 hQ fun n hn => hq n (by rw [el]; exact List.mem_append_left _ hn) fun z => n3 n hn e List.mem_cons_self z
  have hz : Q z := by
    have : z ∈ l1 ++ [e] := by
      cases l1 with
      | nil =>
        rw [el] at ez
        simp at ez
        simp [ez.1]
      | cons a l1 =>
        rw [el] at ez
        simp at ez
        simp [ez.1]
    rcases List.mem_append.mp this with h | h
    · exact q1 z h
    · rw [List.mem_singleton.mp h]
      exact hQ
  have q2 : ∀ n, n ∈ l2 → Q n := Adj.back l2 a2 hz fun n hn => hq n (by rw [el]; simp [hn]) fun z => n2.1 (z ▸ hn)
  intro n hn
  rw [el] at hn
  rcases List.mem_append.mp hn with h | h
  · exact q1 n h
  · rcases List.mem_cons.mp h with rfl | h
    · exact hQ
    · exact q2 n h
end
end Ed
/-! Ed3: a ring folded into one node, and taken out again. -/
namespace Ed
def con (ring : List (List Int)) (W n : List Int) : List Int := if n ∈ ring then W else n
def conA (ring : List (List Int)) (W : List Int) (a : PA) : PA := { a with t := con ring W a.t, g := con ring W a.g }
def ns2 (ns ring : List (List Int)) (W : List Int) : List (List Int) := (ns.filter fun n => decide (n ∉ ring)) ++ [W]
def as2 (bs : List PA) (ring : List (List Int)) (W : List Int) : List PA := (bs.map (conA ring W)).filter fun a => decide (a.t ≠ a.g)
section
variable {r : List Int} {ns : List (List Int)} {bs : List PA} {c : List Int → PA} {ring : List (List Int)} {W : List Int} {f2 : List Int} {P2 : List (List Int × Int)}
/-- what folds a ring -/
structure Fold (r : List Int) (ns : List (List Int)) (bs : List PA) (c : List Int → PA) (ring : List (List Int)) (W : List Int) : Prop where
  G : Good r ns bs
  ch : ∀ n, n ∈ ns → n ≠ r → c n ∈ bs ∧ (c n).g = n ∧ (c n).l = 0
  R : Ring r ns c ring
  so : W.Pairwise (· < ·)
  mem : ∀ x, x ∈ W ↔ ∃ n, n ∈ ring ∧ x ∈ n
theorem con_in {n : List Int} (h : n ∈ ring) : con ring W n = W := if_pos h
theorem con_out {n : List Int} (h : n ∉ ring) : con ring W n = n := if_neg h
theorem Fold.two (F : Fold r ns bs c ring W) : ∃ n m, n ∈ ring ∧ m ∈ ring ∧ n ≠ m := by
  obtain ⟨h, tl, e, _⟩ := F.R.adj
  have hh : h ∈ ring := by rw [e]; exact List.mem_cons_self
  obtain ⟨h1, h2⟩ := F.R.mem h hh
  obtain ⟨k1, k2, _⟩ := F.ch h h1 h2
  refine ⟨(c h).t, h, F.R.next hh, hh, fun z => ?_⟩
  exact (F.G.tg (c h) k1).2.2 (z.trans k2.symm)
theorem Fold.head (F : Fold r ns bs c ring W) : ∃ n, n ∈ ring := by
  obtain ⟨n, _, h, _⟩ := F.two
  exact ⟨n, h⟩
theorem Fold.new (F : Fold r ns bs c ring W) : W ∉ ns := fun h => by
  have all : ∀ n, n ∈ ring → n = W := fun n hn => by
    obtain ⟨x, hx⟩ := List.exists_mem_of_ne_nil n (F.G.ne n (F.R.mem n hn).1)
    exact F.G.dj n W x (F.R.mem n hn).1 h hx ((F.mem x).mpr ⟨n, hn, hx⟩)
  obtain ⟨n, m, hn, hm, e⟩ := F.two
  exact e ((all n hn).trans (all m hm).symm)
theorem Fold.ne (F : Fold r ns bs c ring W) {n : List Int} (h : n ∈ ns) : n ≠ W := fun z => F.new (z ▸ h)
theorem Fold.con_eq (F : Fold r ns bs c ring W) {n m : List Int} (hn : n ∈ ns) (hm : m ∈ ns) : con ring W n = con ring W m ↔ n = m ∨ (n ∈ ring ∧ m ∈ ring) := by
  by_cases h1 : n ∈ ring <;> by_cases h2 : m ∈ ring
  · simp [con_in h1, con_in h2, h1, h2]
  · rw [con_in h1, con_out h2]
    exact ⟨fun z => absurd z.symm (F.ne hm), fun z => by
      rcases z with rfl | z
      · exact absurd h1 h2
      · exact absurd z.2 h2⟩
  · rw [con_out h1, con_in h2]
    exact ⟨fun z => absurd z (F.ne hn), fun z => by
      rcases z with rfl | z
      · exact absurd h2 h1
      · exact absurd z.1 h1⟩
  · rw [con_out h1, con_out h2]
    exact ⟨.inl, fun z => z.elim id fun z => absurd z.1 h1⟩
theorem Fold.con_mem (F : Fold r ns bs c ring W) {n : List Int} (h : n ∈ ns) : con ring W n ∈ ns2 ns ring W := by
  unfold ns2
  by_cases e : n ∈ ring
  · rw [con_in e]
    simp
  · rw [con_out e]
    simp [h, e]
theorem Fold.root (F : Fold r ns bs c ring W) : r ∉ ring := fun h => (F.R.mem r h).2 rfl
theorem as2_mem {b : PA} : b ∈ as2 bs ring W ↔ ∃ a, a ∈ bs ∧ b = conA ring W a ∧ con ring W a.t ≠ con ring W a.g := by
  unfold as2
  rw [List.mem_filter, List.mem_map]
  constructor
  · rintro ⟨⟨a, ha, rfl⟩, h⟩
    exact ⟨a, ha, rfl, of_decide_eq_true h⟩
  · rintro ⟨a, ha, rfl, h⟩
    exact ⟨⟨a, ha, rfl⟩, decide_eq_true h⟩
theorem Fold.good (F : Fold r ns bs c ring W) : Good r (ns2 ns ring W) (as2 bs ring W) := by
  have G := F.G
  have m2 : ∀ n, n ∈ ns2 ns ring W ↔ (n ∈ ns ∧ n ∉ ring) ∨ n = W := fun n => by simp [ns2]
  refine ⟨?_, (m2 r).mpr (.inl ⟨G.rt, F.root⟩), fun n hn => ?_, fun n m x hn hm xn xm => ?_, fun n hn => ?_, fun a ha => ?_, fun a ha => ?_, ?_, fun n hn => ?_⟩
  · unfold ns2
    rw [List.nodup_append]
    refine ⟨G.nd.sublist List.filter_sublist, by simp, fun a ha b hb e => ?_⟩
    have hb : b = W := by simpa using hb
    exact F.new (hb ▸ e ▸ (List.mem_filter.mp ha).1)
  · rcases (m2 n).mp hn with h | rfl
    · exact G.ne n h.1
    · obtain ⟨m, hm⟩ := F.head
      obtain ⟨x, hx⟩ := List.exists_mem_of_ne_nil m (G.ne m (F.R.mem m hm).1)
      exact List.ne_nil_of_mem ((F.mem x).mpr ⟨m, hm, hx⟩)
  · have out : ∀ {n : List Int} {x : Int}, n ∈ ns ∧ n ∉ ring → x ∈ n → x ∈ W → False := fun {n x} h xn xw => by
      obtain ⟨k, hk, xk⟩ := (F.mem x).mp xw
      exact h.2 (G.dj n k x h.1 (F.R.mem k hk).1 xn xk ▸ hk)
    rcases (m2 n).mp hn with h | h <;> rcases (m2 m).mp hm with k | k
    · exact G.dj n m x h.1 k.1 xn xm
    · exact (out h xn (k ▸ xm)).elim
    · exact (out k xm (h ▸ xn)).elim
    · rw [h, k]
  · rcases (m2 n).mp hn with h | rfl
    · exact G.so n h.1
    · exact F.so
  · obtain ⟨b, hb, rfl, h⟩ := as2_mem.mp ha
    obtain ⟨h1, h2, _⟩ := G.tg b hb
    exact ⟨F.con_mem h1, F.con_mem h2, h⟩
  · obtain ⟨b, hb, rfl, _⟩ := as2_mem.mp ha
    exact G.lf b hb
  · unfold as2
    refine List.Nodup.sublist (List.Sublist.map _ List.filter_sublist) ?_
    rw [List.map_map]
    have : (PA.r ∘ conA ring W) = PA.r := rfl
    rw [this]
    exact G.rd
  · have key : ∀ n, NR bs r n → NR (as2 bs ring W) r (con ring W n) := fun n h => by
      induction h with
      | root =>
        rw [con_out F.root]
        exact .root
      | @step n a _ ha e ih =>
        by_cases z : con ring W a.t = con ring W a.g
        · rw [← z, e]
          exact ih
        · exact NR.step (a := conA ring W a) ih (as2_mem.mpr ⟨a, ha, rfl, z⟩) (by rw [← e]; rfl)
    rcases (m2 n).mp hn with h | rfl
    · have := key n (G.rc n h.1)
      rwa [con_out h.2] at this
    · obtain ⟨m, hm⟩ := F.head
      have := key m (G.rc m (F.R.mem m hm).1)
      rwa [con_in hm] at this
/-- a set made of nodes of the folded map, of the map itself -/
theorem Fold.uni (F : Fold r ns bs c ring W) {pl : List Int} (h : Uni r (ns2 ns ring W) pl) : ∃ U : List (List Int), U ≠ [] ∧ (∀ n, n ∈ U → n ∈ ns ∧ n ≠ r) ∧ (∀ x, x ∈ pl ↔ ∃ n, n ∈ U ∧ x ∈ n) ∧
    ∃ U2 : List (List Int), (∀ n, n ∈ U2 → n ∈ ns2 ns ring W) ∧ (∀ x, x ∈ pl ↔ ∃ n, n ∈ U2 ∧ x ∈ n) ∧ ∀ n, n ∈ ns → (n ∈ U ↔ con ring W n ∈ U2) := by
  obtain ⟨_, U2, h1, h2, h3⟩ := h
  have m2 : ∀ n, n ∈ ns2 ns ring W ↔ (n ∈ ns ∧ n ∉ ring) ∨ n = W := fun n => by simp [ns2]
  have mU : ∀ n, n ∈ (U2.flatMap fun n => if n = W then ring else [n]) ↔ (n ∈ U2 ∧ n ≠ W) ∨ (n ∈ ring ∧ W ∈ U2) := fun n => by
    rw [List.mem_flatMap]
    constructor
    · rintro ⟨m, hm, h⟩
      by_cases e : m = W
      · rw [if_pos e] at h
        exact .inr ⟨h, e ▸ hm⟩
      · rw [if_neg e] at h
        rw [List.mem_singleton.mp h]
        exact .inl ⟨hm, e⟩
    · rintro (⟨h, e⟩ | ⟨h, e⟩)
      · exact ⟨n, h, by rw [if_neg e]; exact List.mem_singleton.mpr rfl⟩
      · exact ⟨W, e, by rw [if_pos rfl]; exact h⟩
  refine ⟨U2.flatMap fun n => if n = W then ring else [n], ?_, fun n hn => ?_, fun x => ?_, U2, fun n hn => (h2 n hn).1, h3, fun n hn => ?_⟩
  · obtain ⟨n, hn⟩ := List.exists_mem_of_ne_nil U2 h1
    by_cases e : n = W
    · obtain ⟨m, hm⟩ := F.head
      exact List.ne_nil_of_mem ((mU m).mpr (.inr ⟨hm, e ▸ hn⟩))
    · exact List.ne_nil_of_mem ((mU n).mpr (.inl ⟨hn, e⟩))
  · rcases (mU n).mp hn with ⟨h, e⟩ | ⟨h, _⟩
    · rcases (m2 n).mp (h2 n h).1 with k | k
      · exact ⟨k.1, (h2 n h).2⟩
      · exact absurd k e
    · exact F.R.mem n h
  · rw [h3]
    constructor
    · rintro ⟨n, hn, hx⟩
      by_cases e : n = W
      · rw [e] at hx
        obtain ⟨m, hm, hx⟩ := (F.mem x).mp hx
        exact ⟨m, (mU m).mpr (.inr ⟨hm, e ▸ hn⟩), hx⟩
      · exact ⟨n, (mU n).mpr (.inl ⟨hn, e⟩), hx⟩
    · rintro ⟨n, hn, hx⟩
      rcases (mU n).mp hn with ⟨h, _⟩ | ⟨h, e⟩
      · exact ⟨n, h, hx⟩
      · exact ⟨W, e, (F.mem x).mpr ⟨n, h, hx⟩⟩
  · rw [mU]
    by_cases e : n ∈ ring
    · rw [con_in e]
      constructor
      · rintro (⟨h, k⟩ | ⟨_, h⟩)
        · rcases (m2 n).mp (h2 n h).1 with z | z
          · exact absurd e z.2
          · exact absurd z k
        · exact h
      · exact fun h => .inr ⟨e, h⟩
    · rw [con_out e]
      constructor
      · rintro (⟨h, k⟩ | ⟨h, _⟩)
        · exact h
        · exact absurd h e
      · exact fun h => .inl ⟨h, F.ne hn⟩
theorem Fold.ent_eq (F : Fold r ns bs c ring W) {pl : List Int} (h : Uni r (ns2 ns ring W) pl) {b : PA} (hb : b ∈ bs) : (con ring W b.t ≠ con ring W b.g → ent pl b = ent pl (conA ring W b)) ∧ (con ring W b.t = con ring W b.g → ent pl b = false) := by
  obtain ⟨U, u1, u2, u3, U2, v1, v2, v3⟩ := F.uni h
  obtain ⟨t1, t2, t3⟩ := F.G.tg b hb
  have e1 := F.G.ent_uni (fun n hn => (u2 n hn).1) u3 t1 t2
  constructor
  · intro hne
    have e2 := F.good.ent_uni v1 v2 (a := conA ring W b) (F.con_mem t1) (F.con_mem t2)
    rw [Bool.eq_iff_iff, e1, e2, v3 _ t2, v3 _ t1]
    exact Iff.rfl
  · intro he
    cases z : ent pl b with
    | false => rfl
    | true =>
      obtain ⟨a, b'⟩ := e1.mp z
      rw [v3 _ t2, ← he] at a
      rw [v3 _ t1] at b'
      exact absurd a b'
theorem Fold.esum_eq (F : Fold r ns bs c ring W) (h : ∀ q, q ∈ P2 → Uni r (ns2 ns ring W) q.1) {b : PA} (hb : b ∈ bs) : (con ring W b.t ≠ con ring W b.g → esum P2 b = esum P2 (conA ring W b)) ∧ (con ring W b.t = con ring W b.g → esum P2 b = 0) := by
  constructor
  · intro hne
    unfold esum
    rw [List.filter_congr fun q hq => (F.ent_eq (h q hq) hb).1 hne]
  · intro he
    exact esum_none fun q hq => (F.ent_eq (h q hq) hb).2 he
/-- the ring's own arcs that stay -/
def back (ring : List (List Int)) (c : List Int → PA) (entered : List (List Int)) : List Int := (ring.filter fun n => decide (n ∉ entered)).map fun n => (c n).r
theorem Fold.post (F : Fold r ns bs c ring W) (T : Post r (ns2 ns ring W) (as2 bs ring W) f2 P2) {entered : List (List Int)} (he : ∀ n, n ∈ entered ↔ ∃ b, b ∈ bs ∧ b.r ∈ f2 ∧ b.g ∈ ring ∧ b.g = n) : Post r ns bs (f2 ++ back ring c entered) P2 := by
  have G := F.G
  have G2 := F.good
  have hU : ∀ q, q ∈ P2 → Uni r (ns2 ns ring W) q.1 := fun q hq => (T.pp q hq).2
  -- the arcs of the folded map's answer
  have up : ∀ {b : PA}, b ∈ bs → b.r ∈ f2 → conA ring W b ∈ as2 bs ring W ∧ con ring W b.t ≠ con ring W b.g := fun {b} hb hf => by
    obtain ⟨a, ha, e⟩ := T.sub _ hf
    obtain ⟨b', hb', rfl, hne⟩ := as2_mem.mp ha
    have e : b'.r = b.r := e
    have := rd_inj G.rd hb' hb e
    subst this
    exact ⟨ha, hne⟩
  have uq : ∀ {b b' : PA}, b ∈ bs → b' ∈ bs → conA ring W b = conA ring W b' → b = b' := fun {b b'} hb hb' e => rd_inj G.rd hb hb' (by have z := congrArg PA.r e; exact z)
  have cr : ∀ {n : List Int}, n ∈ ring → c n ∈ bs ∧ (c n).g = n ∧ (c n).l = 0 := fun {n} h => F.ch n (F.R.mem n h).1 (F.R.mem n h).2
  have cin : ∀ {n : List Int}, n ∈ ring → con ring W (c n).t = con ring W (c n).g := fun {n} h => by rw [con_in (F.R.next h), (cr h).2.1, con_in h]
  have notF : ∀ {n : List Int}, n ∈ ring → (c n).r ∉ f2 := fun {n} h z => (up (cr h).1 z).2 (cin h)
  -- the one that enters the ring
  obtain ⟨a0, ha0, hf0, hg0, hu0⟩ := T.one W (by simp [ns2]) (fun z => F.new (z ▸ G.rt))
  obtain ⟨b0, hb0, rfl, hn0⟩ := as2_mem.mp ha0
  have hf0 : b0.r ∈ f2 := hf0
  have hg0 : con ring W b0.g = W := hg0
  have hg0 : b0.g ∈ ring := Classical.byContradiction fun z => by
    rw [con_out z] at hg0
    exact F.ne (G.tg b0 hb0).2.1 hg0
  have one0 : ∀ {b : PA}, b ∈ bs → b.r ∈ f2 → b.g ∈ ring → b = b0 := fun {b} hb hf hg => uq hb hb0 (hu0 (conA ring W b) (up hb hf).1 hf (con_in hg))
  have hent : ∀ n, n ∈ entered ↔ n = b0.g := fun n => by
    rw [he]
    constructor
    · rintro ⟨b, hb, hf, hg, rfl⟩
      rw [one0 hb hf hg]
    · rintro rfl
      exact ⟨b0, hb0, hf0, hg0, rfl⟩
  have mB : ∀ x, x ∈ back ring c entered ↔ ∃ n, n ∈ ring ∧ n ≠ b0.g ∧ (c n).r = x := fun x => by
    unfold back
    simp only [List.mem_map, List.mem_filter, decide_eq_true_eq, hent]
    constructor
    · rintro ⟨n, ⟨h1, h2⟩, e⟩
      exact ⟨n, h1, h2, e⟩
    · rintro ⟨n, h1, h2, e⟩
      exact ⟨n, ⟨h1, h2⟩, e⟩
  have inF : ∀ {b : PA}, b ∈ bs → b.r ∈ f2 ++ back ring c entered → b.r ∈ f2 ∨ ∃ n, n ∈ ring ∧ n ≠ b0.g ∧ b = c n := fun {b} hb h => by
    rcases List.mem_append.mp h with h | h
    · exact .inl h
    · obtain ⟨n, h1, h2, e⟩ := (mB _).mp h
      exact .inr ⟨n, h1, h2, rd_inj G.rd hb (cr h1).1 e.symm⟩
  refine ⟨?_, fun x hx => ?_, fun n hn h => ?_, fun a ha h => ?_, fun n hn => ?_, fun q hq => ?_, T.pd, fun b hb => ?_, fun b hb h => ?_, fun q hq => ?_⟩
  · rw [List.nodup_append]
    refine ⟨T.nd, ?_, fun x hx y hy e => ?_⟩
    · have : ∀ l : List (List Int), l.Nodup → (∀ n, n ∈ l → n ∈ ring) → (l.map fun n => (c n).r).Nodup := by
        intro l
        induction l with
        | nil => intro _ _; exact List.nodup_nil
        | cons m l ih =>
          intro nd hl
          rw [List.nodup_cons] at nd
          rw [List.map_cons, List.nodup_cons]
          refine ⟨fun z => ?_, ih nd.2 fun n hn => hl n (List.mem_cons_of_mem _ hn)⟩
          obtain ⟨n, hn, e⟩ := List.mem_map.mp z
          have h1 := cr (hl n (List.mem_cons_of_mem _ hn))
          have h2 := cr (hl m List.mem_cons_self)
          have := rd_inj G.rd h1.1 h2.1 e
          have e2 := h1.2.1
          rw [this, h2.2.1] at e2
          exact nd.1 (e2 ▸ hn)
      exact this _ (F.R.nd.sublist List.filter_sublist) fun n hn => (List.mem_filter.mp hn).1
    · subst e
      obtain ⟨n, h1, _, e⟩ := (mB x).mp hy
      exact notF h1 (e ▸ hx)
  · rcases List.mem_append.mp hx with h | h
    · obtain ⟨a, ha, e⟩ := T.sub x h
      obtain ⟨b, hb, rfl, _⟩ := as2_mem.mp ha
      exact ⟨b, hb, e⟩
    · obtain ⟨n, h1, _, e⟩ := (mB x).mp h
      exact ⟨c n, (cr h1).1, e⟩
  · by_cases hr : n ∈ ring
    · by_cases z : n = b0.g
      · refine ⟨b0, hb0, List.mem_append_left _ hf0, z.symm, fun b hb hf hg => ?_⟩
        rcases inF hb hf with hf | ⟨m, m1, m2, rfl⟩
        · exact one0 hb hf (hg ▸ hr)
        · rw [(cr m1).2.1] at hg
          exact absurd (hg.trans z) m2
      · refine ⟨c n, (cr hr).1, List.mem_append_right _ ((mB _).mpr ⟨n, hr, z, rfl⟩), (cr hr).2.1, fun b hb hf hg => ?_⟩
        rcases inF hb hf with hf | ⟨m, m1, m2, rfl⟩
        · have := one0 hb hf (hg ▸ hr)
          rw [this] at hg
          exact absurd hg.symm z
        · rw [(cr m1).2.1] at hg
          rw [hg]
    · obtain ⟨a, ha, h1, h2, h3⟩ := T.one n (by simp [ns2, hn, hr]) h
      obtain ⟨b, hb, rfl, hne⟩ := as2_mem.mp ha
      have h2 : con ring W b.g = n := h2
      have hbg : b.g = n := by
        by_cases z : b.g ∈ ring
        · rw [con_in z] at h2
          exact absurd h2.symm (F.ne hn)
        · rw [con_out z] at h2
          exact h2
      refine ⟨b, hb, List.mem_append_left _ h1, hbg, fun b' hb' hf hg => ?_⟩
      rcases inF hb' hf with hf | ⟨m, m1, m2, rfl⟩
      · exact uq hb' hb (h3 _ (up hb' hf).1 hf (by show con ring W b'.g = n; rw [hg, con_out hr]))
      · rw [(cr m1).2.1] at hg
        exact absurd (hg ▸ m1) hr
  · rcases inF ha h with hf | ⟨m, m1, m2, rfl⟩
    · intro z
      exact T.nor _ (up ha hf).1 hf (by show con ring W a.g = r; rw [z, con_out F.root])
    · rw [(cr m1).2.1]
      exact (F.R.mem m m1).2
  · -- everything is come to
    have stp : ∀ {b : PA}, b ∈ bs → b.r ∈ f2 ++ back ring c entered → NR (bs.filter fun a => decide (a.r ∈ f2 ++ back ring c entered)) r b.t → NR (bs.filter fun a => decide (a.r ∈ f2 ++ back ring c entered)) r b.g := fun {b} hb hf h =>
      .step h (List.mem_filter.mpr ⟨hb, by simpa using hf⟩) rfl
    have key : ∀ n2, NR ((as2 bs ring W).filter fun a => decide (a.r ∈ f2)) r n2 → ∀ m, m ∈ ns → con ring W m = n2 → NR (bs.filter fun a => decide (a.r ∈ f2 ++ back ring c entered)) r m := fun n2 h => by
      induction h with
      | root =>
        intro m hm e
        have : m = r := by
          rcases (F.con_eq hm G.rt).mp (e.trans (con_out F.root).symm) with z | z
          · exact z
          · exact absurd z.2 F.root
        rw [this]
        exact .root
      | @step n a _ ha e ih =>
        intro m hm e2
        obtain ⟨ha1, ha2⟩ := List.mem_filter.mp ha
        obtain ⟨b, hb, rfl, hne⟩ := as2_mem.mp ha1
        have hf : b.r ∈ f2 := of_decide_eq_true ha2
        obtain ⟨t1, t2, _⟩ := G.tg b hb
        have rg := stp hb (List.mem_append_left _ hf) (ih b.t t1 e)
        have e2 : con ring W m = con ring W b.g := e2
        rcases (F.con_eq hm t2).mp e2 with z | ⟨z1, z2⟩
        · rw [z]
          exact rg
        · have eb := one0 hb hf z2
          subst eb
          refine F.R.all (Q := fun n => NR (bs.filter fun a => decide (a.r ∈ f2 ++ back ring c entered)) r n) z2 rg (fun n hn hne hq => ?_) m z1
          have := stp (cr hn).1 (List.mem_append_right _ ((mB _).mpr ⟨n, hn, hne, rfl⟩)) hq
          rwa [(cr hn).2.1] at this
    exact key _ (T.rc _ (F.con_mem hn)) n hn rfl
  · obtain ⟨h1, h2⟩ := T.pp q hq
    obtain ⟨U, u1, u2, u3, _⟩ := F.uni h2
    exact ⟨h1, h2.1, U, u1, u2, u3⟩
  · obtain ⟨e1, e2⟩ := F.esum_eq hU hb
    by_cases z : con ring W b.t = con ring W b.g
    · rw [e2 z]
      exact G.lf b hb
    · rw [e1 z]
      exact T.le _ (as2_mem.mpr ⟨b, hb, rfl, z⟩)
  · obtain ⟨e1, e2⟩ := F.esum_eq hU hb
    rcases inF hb h with hf | ⟨m, m1, m2, rfl⟩
    · obtain ⟨h1, h2⟩ := up hb hf
      rw [e1 h2]
      exact T.eq _ h1 hf
    · rw [e2 (cin m1), (cr m1).2.2]
  · obtain ⟨a, ha, h1, h2, h3⟩ := T.en q hq
    obtain ⟨b, hb, rfl, hne⟩ := as2_mem.mp ha
    refine ⟨b, hb, List.mem_append_left _ h1, by rw [(F.ent_eq (hU q hq) hb).1 hne]; exact h2, fun b' hb' hf hen => ?_⟩
    rcases inF hb' hf with hf | ⟨m, m1, m2, rfl⟩
    · obtain ⟨k1, k2⟩ := up hb' hf
      exact uq hb' hb (h3 _ k1 hf (by rw [← (F.ent_eq (hU q hq) hb').1 k2]; exact hen))
    · rw [(F.ent_eq (hU q hq) hb').2 (cin m1)] at hen
      cases hen
end
end Ed
namespace LL
open PySem L2 DW
noncomputable def l_law_dice_1 (A : Cs) : DTS := shut
  (dSet 1 (dBin fMod (dBin fAdd (dBin fAdd (dBin fMul (dVar 1) (dC (.int 48271))) (dBin fMul (dBin fMod (dVar 2) (dC (.int 2147483647))) (dC (.int 69621)))) (dC (.int 11))) (dC (.int 2147483647))))
noncomputable def r_law_dice_2 (A : Cs) : DTS := shut
  (dRet (dLst (dACons (dVar 0) (dACons (dC (.int 0)) (dACons (dBin fMul (dVar 1) (dUn fInt (dBin fGt (dUn fLen (dVar 0)) (dC (.int 2))))) (dACons (dC (.int 0)) dANil))))))
/-- _law_dice: 0 script 1 mixed 2 cell -/
noncomputable def b_law_dice (A : Cs) : DTS :=
  (dSeq (dSet 1 (dC (.int 0)))
  (dSeq (dFor (dVar 0) (dgN 2)
  (l_law_dice_1 A))
  (r_law_dice_2 A)))
noncomputable def run_law_dice (A : Cs) : DSp := shut (dRun 1 2 (b_law_dice A))
noncomputable def r_law_next_1 (A : Cs) : DTS := shut
  (dSeq (dSetIx 0 (dC (.int 2)) (dBin fMod (dBin fMul (dBin fIx (dVar 0) (dC (.int 2))) (dC (.int 48271))) (dC (.int 2147483647))))
  (dRet (dBin fMod (dBin fDiv (dBin fIx (dVar 0) (dC (.int 2))) (dC (.int 7))) (dVar 1))))
noncomputable def r_law_next_2 (A : Cs) : DTS := shut
  (dSeq (dSetIx 0 (dC (.int 1)) (dBin fAdd (dBin fIx (dVar 0) (dC (.int 1))) (dC (.int 1))))
  (dSeq (dIfS (dTst (dBin fLe (dBin fIx (dVar 0) (dC (.int 1))) (dUn fLen (dBin fIx (dVar 0) (dC (.int 0))))))
  (dSeq (dSet 3 (dBin fIx (dBin fIx (dVar 0) (dC (.int 0))) (dBin fSub (dBin fIx (dVar 0) (dC (.int 1))) (dC (.int 1)))))
  (dSeq (dSetIx 0 (dC (.int 3)) (dIf (dTst (dBin fGe (dVar 3) (dBin fPow (dC (.int 10)) (dC (.int 18))))) (dBin fDiv (dVar 3) (dVar 1)) (dC (.int 0))))
  (dRet (dBin fMod (dVar 3) (dVar 1)))))
  dNil)
  (r_law_next_1 A)))
/-- _law_next: 0 dice_here 1 many 2 found 3 cell -/
noncomputable def b_law_next (A : Cs) : DTS :=
  (dSeq (dIfS (dTst (dBin fGt (dBin fIx (dVar 0) (dC (.int 3))) (dC (.int 0))))
  (dSeq (dSet 2 (dBin fMod (dBin fIx (dVar 0) (dC (.int 3))) (dVar 1)))
  (dSeq (dSetIx 0 (dC (.int 3)) (dBin fDiv (dBin fIx (dVar 0) (dC (.int 3))) (dVar 1)))
  (dRet (dVar 2))))
  dNil)
  (r_law_next_2 A))
noncomputable def run_law_next (A : Cs) : DSp := shut (dRun 2 2 (b_law_next A))
noncomputable def r_law_cost_1 (A : Cs) : DTS := shut
  (dRet (dCallR 2 0 (run_law_next A) (dACons (dBin fIx (dLst (dACons (dC (.int 200)) (dACons (dBin fAdd (dBin fPow (dC (.int 10)) (dC (.int 9))) (dC (.int 1))) dANil))) (dBin fSub (dVar 1) (dC (.int 4)))) dANil)))
/-- _law_cost: 0 d 1 way -/
noncomputable def b_law_cost (A : Cs) : DTS :=
  (dSeq (dSet 1 (dCallR 2 0 (run_law_next A) (dACons (dC (.int 6)) dANil)))
  (dSeq (dIfS (dTst (dBin fLt (dVar 1) (dC (.int 4))))
  (dRet (dCallR 2 0 (run_law_next A) (dACons (dBin fAdd (dC (.int 3)) (dBin fMul (dC (.int 4)) (dVar 1))) dANil)))
  dNil)
  (r_law_cost_1 A)))
noncomputable def run_law_cost (A : Cs) : DSp := shut (dRun 1 1 (b_law_cost A))
noncomputable def r_law_map_1 (A : Cs) : DTS := shut
  (dIfS (dTst (dBin fNe (dVar 7) (dVar 8)))
  (dExpr (dLM 5 gAppend (dACons (dTup (dACons (dVar 7) (dACons (dVar 8) (dACons (dCallR 1 0 (run_law_cost A) dANil) dANil)))) dANil)))
  dNil)
noncomputable def l_law_map_2 (A : Cs) : DTS := shut
  (dSeq (dSet 7 (dCallR 2 0 (run_law_next A) (dACons (dVar 3) dANil)))
  (dSeq (dSet 8 (dBin fMod (dBin fAdd (dBin fAdd (dVar 7) (dC (.int 1))) (dCallR 2 0 (run_law_next A) (dACons (dBin fSub (dVar 3) (dC (.int 1))) dANil))) (dVar 3)))
  (dSeq (dIfS (dAnd (dTst (dBin fGt (dCallR 2 0 (run_law_next A) (dACons (dC (.int 5)) dANil)) (dC (.int 0)))) (dTst (dBin fLt (dVar 6) (dVar 3))))
  (dSeq (dSet 8 (dBin fMod (dBin fAdd (dBin fAdd (dVar 4) (dC (.int 1))) (dVar 6)) (dVar 3)))
  (dSet 7 (dBin fMod (dBin fAdd (dVar 4) (dCallR 2 0 (run_law_next A) (dACons (dBin fAdd (dVar 6) (dC (.int 1))) dANil))) (dVar 3))))
  dNil)
  (r_law_map_1 A))))
noncomputable def r_law_map_3 (A : Cs) : DTS := shut
  (dRet (dTup (dACons (dVar 3) (dACons (dVar 4) (dACons (dVar 5) dANil)))))
/-- _law_map: 0 d 1 places 2 roads 3 many 4 root 5 rows 6 k 7 begin 8 goal -/
noncomputable def b_law_map (A : Cs) : DTS :=
  (dSeq (dSet 3 (dBin fAdd (dC (.int 1)) (dCallR 2 0 (run_law_next A) (dACons (dVar 1) dANil))))
  (dSeq (dSet 4 (dCallR 2 0 (run_law_next A) (dACons (dVar 3) dANil)))
  (dSeq (dSet 5 (dLst dANil))
  (dSeq (dIfS (dTst (dBin fGt (dVar 3) (dC (.int 1))))
  (dForG 1 (dACons (dCallR 2 0 (run_law_next A) (dACons (dBin fAdd (dVar 2) (dC (.int 1))) dANil)) dANil) (dgN 6)
  (l_law_map_2 A))
  dNil)
  (r_law_map_3 A)))))
noncomputable def run_law_map (A : Cs) : DSp := shut (dRun 3 6 (b_law_map A))
/-- _law_is: 0 e 1 word 2 kinds 3 words 4 one -/
noncomputable def b_law_is (A : Cs) (xa : Addr) (xc : Value) (xd : Option Addr) : DTS :=
  (dSeq (dSet 2 (dLst (dACons (dIsX xa xc xd [.ref A.BadMap] [.ref A.BadText] (dVar 0)) (dACons (dIsX xa xc xd [] [.ref A.BadMap, .ref A.BadText] (dVar 0)) (dACons (dIsX xa xc xd [] [.ref A.BadMap, .ref A.BadText] (dVar 0)) (dACons (dIsX xa xc xd [.ref A.BadText] [.ref A.BadMap] (dVar 0)) dANil))))))
  (dSeq (dSet 3 (dLst (dACons (dC (.str "map")) (dACons (dC (.str "tree")) (dACons (dC (.str "road")) (dACons (dC (.str "text")) dANil))))))
  (dRet (dAndV (dIsX xa xc xd [.ref A.BadMap, .ref A.BadText] [] (dVar 0)) (dBin fEq (dVar 2) (dLcH (dVar 3) (dgN 4) (dBin fEq (dVar 1) (dVar 4)) [4]))))))
noncomputable def run_law_is (A : Cs) (xa : Addr) (xc : Value) (xd : Option Addr) : DSp := shut (dRun 2 3 (b_law_is A xa xc xd))
/-- _law_whole: 0 found -/
noncomputable def b_law_whole (A : Cs) (xa : Addr) (xc : Value) (xd : Option Addr) : DTS :=
  (dRet (dAndV (dUn (fIsi "int") (dVar 0)) (dNotV (dUn (fIsi "bool") (dVar 0)))))
noncomputable def run_law_whole (A : Cs) (xa : Addr) (xc : Value) (xd : Option Addr) : DSp := shut (dRun 1 0 (b_law_whole A xa xc xd))
noncomputable def r_Map_init_1 (A : Cs) : DTS := shut
  (dIfS (dNot (dTst (dChain fLe fLe (dC (.int 0)) (dVar 7) (dC (.int 1000000000)))))
  (dRaise (.ref A.BadMap) (mk2 "at" "why") (dACons (dVar 4) (dACons (dC (.str "cost")) dANil)))
  dNil)
noncomputable def l_Map_init_2 (A : Cs) : DTS := shut
  (dSeq (dAsg (dBin fIx (dVar 3) (dVar 4)) (dgT [5, 6, 7]))
  (dSeq (dIfS (dOr (dNot (dTst (dChain fLe fLt (dC (.int 0)) (dVar 5) (dVar 1)))) (dOr (dNot (dTst (dChain fLe fLt (dC (.int 0)) (dVar 6) (dVar 1)))) (dTst (dBin fEq (dVar 5) (dVar 6)))))
  (dRaise (.ref A.BadMap) (mk2 "at" "why") (dACons (dVar 4) (dACons (dC (.str "place")) dANil)))
  dNil)
  (r_Map_init_1 A)))
noncomputable def r_Map_init_3 (A : Cs) : DTS := shut
  (dSeq (dSetF A.Map 0 "many" (dVar 1))
  (dSeq (dSetF A.Map 0 "root" (dVar 2))
  (dSetF A.Map 0 "rows" (dUn fList (dVar 3)))))
noncomputable def r_Map_init_4 (A : Cs) : DTS := shut
  (dSeq (dForG 1 (dACons (dUn fLen (dVar 3)) dANil) (dgN 4)
  (l_Map_init_2 A))
  (r_Map_init_3 A))
noncomputable def r_Map_init_5 (A : Cs) : DTS := shut
  (dSeq (dIfS (dTst (dBin fGt (dUn fLen (dVar 3)) (dC (.int 60))))
  (dRaise (.ref A.BadMap) (mk2 "at" "why") (dACons (dC (.int 0)) (dACons (dC (.str "roads")) dANil)))
  dNil)
  (r_Map_init_4 A))
noncomputable def r_Map_init_6 (A : Cs) : DTS := shut
  (dSeq (dIfS (dNot (dTst (dChain fLe fLt (dC (.int 0)) (dVar 2) (dVar 1))))
  (dRaise (.ref A.BadMap) (mk2 "at" "why") (dACons (dC (.int 0)) (dACons (dC (.str "root")) dANil)))
  dNil)
  (r_Map_init_5 A))
/-- Map.__init__: 0 self 1 many 2 root 3 roads 4 at 5 begin 6 goal 7 cost -/
noncomputable def b_Map_init (A : Cs) : DTS :=
  (dSeq (dIfS (dNot (dTst (dChain fLe fLe (dC (.int 1)) (dVar 1) (dC (.int 20)))))
  (dRaise (.ref A.BadMap) (mk2 "at" "why") (dACons (dC (.int 0)) (dACons (dC (.str "many")) dANil)))
  dNil)
  (r_Map_init_6 A))
noncomputable def run_Map_init (A : Cs) : DSp := shut (dRun 4 4 (b_Map_init A))
noncomputable def l_number_of_1 (A : Cs) : DTS := shut
  (dIfS (dTst (dBin (fInS true) (dVar 2) (dC (.str "0123456789"))))
  (dRaise (.ref A.BadText) (mk1 "row") (dACons (dVar 1) dANil))
  dNil)
noncomputable def r_number_of_2 (A : Cs) : DTS := shut
  (dRet (dUn fIntS (dVar 0)))
noncomputable def r_number_of_3 (A : Cs) : DTS := shut
  (dSeq (dForS (dVar 0) (dgN 2)
  (l_number_of_1 A))
  (r_number_of_2 A))
/-- number_of: 0 word 1 row 2 sign -/
noncomputable def b_number_of (A : Cs) : DTS :=
  (dSeq (dIfS (dOr (dTst (dBin fEq (dVar 0) (dC (.str "")))) (dOr (dTst (dBin fGt (dUn fLen (dVar 0)) (dC (.int 10)))) (dAnd (dTst (dBin fEq (dBin fIx (dVar 0) (dC (.int 0))) (dC (.str "0")))) (dTst (dBin fNe (dVar 0) (dC (.str "0")))))))
  (dRaise (.ref A.BadText) (mk1 "row") (dACons (dVar 1) dANil))
  dNil)
  (r_number_of_3 A))
noncomputable def run_number_of (A : Cs) : DSp := shut (dRun 2 1 (b_number_of A))
noncomputable def l_read_1 (A : Cs) : DTS := shut
  (dSeq (dSet 5 (dStrM fSplit (dBin fIx (dVar 1) (dVar 4)) (dC (.str " "))))
  (dIfS (dAnd (dTst (dBin fEq (dVar 4) (dC (.int 0)))) (dAnd (dTst (dBin fEq (dBin fIx (dVar 5) (dC (.int 0))) (dC (.str "map")))) (dTst (dBin fEq (dUn fLen (dVar 5)) (dC (.int 3))))))
  (dSet 2 (dLcE (dSl (dVar 5) (dPart (dC (.int 1))) dNoPart) (dgN 6) (dCall 2 (run_number_of A) (dACons (dVar 6) (dACons (dVar 4) dANil))) [6]))
  (dIfS (dAnd (dTst (dBin fGt (dVar 4) (dC (.int 0)))) (dAnd (dTst (dBin fEq (dBin fIx (dVar 5) (dC (.int 0))) (dC (.str "road")))) (dTst (dBin fEq (dUn fLen (dVar 5)) (dC (.int 4))))))
  (dExpr (dLM 3 gAppend (dACons (dUn fTuple (dLcE (dSl (dVar 5) (dPart (dC (.int 1))) dNoPart) (dgN 6) (dCall 2 (run_number_of A) (dACons (dVar 6) (dACons (dVar 4) dANil))) [6])) dANil)))
  (dRaise (.ref A.BadText) (mk1 "row") (dACons (dVar 4) dANil)))))
noncomputable def r_read_2 (A : Cs) : DTS := shut
  (dRet (dMake 4 A.Map (run_Map_init A) (dACons (dBin fIx (dVar 2) (dC (.int 0))) (dACons (dBin fIx (dVar 2) (dC (.int 1))) (dACons (dVar 3) dANil)))))
/-- read: 0 text 1 rows 2 head 3 roads 4 at 5 words 6 word -/
noncomputable def b_read (A : Cs) : DTS :=
  (dSeq (dSet 1 (dStrM fSplit (dVar 0) (dC (.str "\n"))))
  (dSeq (dSet 2 (dLst dANil))
  (dSeq (dSet 3 (dLst dANil))
  (dSeq (dForG 1 (dACons (dUn fLen (dVar 1)) dANil) (dgN 4)
  (l_read_1 A))
  (r_read_2 A)))))
noncomputable def run_read (A : Cs) : DSp := shut (dRun 1 6 (b_read A))
noncomputable def t_law_refused_1 (A : Cs) : DTS := shut
  (dExpr (dCall 1 (run_read A) (dACons (dStrM fJoin (dC (.str "\n")) (dVar 0)) dANil)))
noncomputable def r_law_refused_2 (A : Cs) (xa : Addr) (xc : Value) (xd : Option Addr) : DTS := shut
  (dRet (dAndV (dBin fEq (dExcF xa xc xd 4 A.BadMap "at") (dVar 2)) (dBin fEq (dExcF xa xc xd 4 A.BadMap "why") (dVar 3))))
noncomputable def r_law_refused_3 (A : Cs) (xa : Addr) (xc : Value) (xd : Option Addr) : DTS := shut
  (dSeq (dIfS (dTst (dBin fEq (dVar 1) (dC (.str "text"))))
  (dRet (dAndV (dCallX xa xc xd 1 (run_law_whole A) (dACons (dExcF xa xc xd 4 A.BadText "row") dANil)) (dBin fEq (dExcF xa xc xd 4 A.BadText "row") (dVar 2))))
  dNil)
  (r_law_refused_2 A xa xc xd))
noncomputable def r_law_refused_4 (A : Cs) : DTS := shut
  (dRet (dC (.bl false)))
/-- _law_refused: 0 rows 1 word 2 at 3 why 4 e -/
noncomputable def b_law_refused (A : Cs) : DTS :=
  (dSeq (dTryAs 4 [.ref A.BadMap, .ref A.BadText] [] (t_law_refused_1 A) (fun xa xc xd => (dSeq (dIfS (dNot (dTst (dCallX xa xc xd 2 (run_law_is A) (dACons (dVar 4) (dACons (dVar 1) dANil)))))
  (dRet (dC (.bl false)))
  dNil)
  (r_law_refused_3 A xa xc xd))))
  (r_law_refused_4 A))
noncomputable def run_law_refused (A : Cs) : DSp := shut (dRun 4 1 (b_law_refused A))
noncomputable def r_law_1 (A : Cs) : DTS := shut
  (dRet (dAndV (dCall 4 (run_law_refused A) (dACons (dVar 11) (dACons (dC (.str "map")) (dACons (dVar 12) (dACons (dVar 13) dANil))))) (dCall 4 (run_law_refused A) (dACons (dBin fAdd (dVar 11) (dLst (dACons (dC (.str "x")) dANil))) (dACons (dC (.str "text")) (dACons (dUn fLen (dVar 11)) (dACons (dC (.str "")) dANil)))))))
noncomputable def r_law_2 (A : Cs) : DTS := shut
  (dSeq (dSet 10 (dLst (dACons (dTup (dACons (dLst (dACons (dC (.str "map 0 0")) dANil)) (dACons (dC (.int 0)) (dACons (dC (.str "many")) dANil)))) (dACons (dTup (dACons (dLst (dACons (dC (.str "map 21 0")) dANil)) (dACons (dC (.int 0)) (dACons (dC (.str "many")) dANil)))) (dACons (dTup (dACons (dLst (dACons (dC (.str "map 3 3")) dANil)) (dACons (dC (.int 0)) (dACons (dC (.str "root")) dANil)))) dANil)))))
  (dSeq (dExpr (dLM 10 gAppend (dACons (dTup (dACons (dBin fAdd (dLst (dACons (dC (.str "map 2 0")) dANil)) (dBin fMul (dLst (dACons (dC (.str "road 0 1 2")) dANil)) (dC (.int 61)))) (dACons (dC (.int 0)) (dACons (dC (.str "roads")) dANil)))) dANil)))
  (dSeq (dExpr (dLM 10 gAppend (dACons (dTup (dACons (dLst (dACons (dC (.str "map 2 0")) (dACons (dC (.str "road 0 1 2")) (dACons (dC (.str "road 1 2 0")) dANil)))) (dACons (dC (.int 1)) (dACons (dC (.str "place")) dANil)))) dANil)))
  (dSeq (dExpr (dLM 10 gAppend (dACons (dTup (dACons (dLst (dACons (dC (.str "map 2 0")) (dACons (dC (.str "road 1 0 1000000001")) dANil))) (dACons (dC (.int 0)) (dACons (dC (.str "cost")) dANil)))) dANil)))
  (dSeq (dExpr (dLM 10 gAppend (dACons (dTup (dACons (dLst (dACons (dC (.str "map 2 1")) (dACons (dC (.str "road 1 0 1")) (dACons (dC (.str "road 1 0 9999999999")) (dACons (dC (.str "road 0 0 0")) dANil))))) (dACons (dC (.int 1)) (dACons (dC (.str "cost")) dANil)))) dANil)))
  (dSeq (dAsg (dBin fIx (dVar 10) (dCallR 2 1 (run_law_next A) (dACons (dC (.int 7)) dANil))) (dgT [11, 12, 13]))
  (r_law_1 A)))))))
noncomputable def r_law_3 (A : Cs) : DTS := shut
  (dSeq (dIfS (dNot (dTst (dCall 4 (run_law_refused A) (dACons (dBin fAdd (dBin fAdd (dLst (dACons (dBin fIx (dVar 7) (dCallR 2 1 (run_law_next A) (dACons (dUn fLen (dVar 7)) dANil))) dANil)) (dSl (dVar 5) (dPart (dC (.int 1))) dNoPart)) (dVar 9)) (dACons (dC (.str "text")) (dACons (dC (.int 0)) (dACons (dC (.str "")) dANil)))))))
  (dRet (dC (.bl false)))
  dNil)
  (r_law_2 A))
noncomputable def r_law_4 (A : Cs) : DTS := shut
  (dSeq (dIfS (dNot (dTst (dCall 4 (run_law_refused A) (dACons (dBin fAdd (dBin fAdd (dBin fAdd (dSl (dVar 5) dNoPart (dPart (dVar 8))) (dLst (dACons (dBin fIx (dVar 6) (dCallR 2 1 (run_law_next A) (dACons (dUn fLen (dVar 6)) dANil))) dANil))) (dSl (dVar 5) (dPart (dVar 8)) dNoPart)) (dVar 9)) (dACons (dC (.str "text")) (dACons (dVar 8) (dACons (dC (.str "")) dANil)))))))
  (dRet (dC (.bl false)))
  dNil)
  (r_law_3 A))
noncomputable def r_law_5 (A : Cs) : DTS := shut
  (dSeq (dSet 9 (dSl (dLst (dACons (dC (.str "")) (dACons (dC (.str "x")) dANil))) dNoPart (dPart (dCallR 2 1 (run_law_next A) (dACons (dC (.int 3)) dANil)))))
  (r_law_4 A))
noncomputable def r_law_6 (A : Cs) : DTS := shut
  (dSeq (dSet 6 (dLst (dACons (dC (.str "")) (dACons (dC (.str "road")) (dACons (dC (.str "road 0 1")) (dACons (dC (.str "road 0 1 2 3")) (dACons (dC (.str "road 0 1 -2")) (dACons (dC (.str "road 0 01 2")) (dACons (dC (.str "road 0 1  2")) (dACons (dC (.str "road 0 1 2 ")) dANil))))))))))
  (dSeq (dSet 6 (dBin fAdd (dVar 6) (dLst (dACons (dC (.str "roads 0 1 2")) (dACons (dC (.str " road 0 1 2")) (dACons (dC (.str "road 0 1 x")) (dACons (dC (.str "road 0 1 12345678901")) (dACons (dC (.str "map 2 0")) (dACons (dC (.str "Road 0 1 2")) dANil)))))))))
  (dSeq (dSet 6 (dBin fAdd (dVar 6) (dLst (dACons (dC (.str "road 0 1 +2")) (dACons (dC (.str "road 0 1 2.0")) (dACons (dC (.str "road 0 1 1_0")) (dACons (dC (.str "road 0 1\t2")) dANil)))))))
  (dSeq (dSet 7 (dLst (dACons (dC (.str "")) (dACons (dC (.str "map")) (dACons (dC (.str "map 2")) (dACons (dC (.str "map 2 0 0")) (dACons (dC (.str "map 02 0")) (dACons (dC (.str "Map 2 0")) (dACons (dC (.str "map 2 -1")) (dACons (dC (.str "map 2  0")) (dACons (dC (.str "road 0 1 2")) (dACons (dC (.str "map x 0")) dANil))))))))))))
  (dSeq (dSet 8 (dBin fAdd (dC (.int 1)) (dCallR 2 1 (run_law_next A) (dACons (dUn fLen (dVar 5)) dANil))))
  (r_law_5 A))))))
noncomputable def r_law_7 (A : Cs) : DTS := shut
  (dSeq (dSet 5 (dLst (dACons (dBin fAdd (dBin fAdd (dBin fAdd (dC (.str "map ")) (dUn fStr (dVar 2))) (dC (.str " "))) (dUn fStr (dVar 3))) dANil)))
  (dSeq (dSet 5 (dBin fAdd (dVar 5) (dLc (dVar 4) (dgN 14) dYes (dBin fAdd (dC (.str "road ")) (dStrM fJoin (dC (.str " ")) (dLc (dVar 14) (dgN 15) dYes (dUn fStr (dVar 15)) [15]))) [14])))
  (r_law_6 A)))
noncomputable def r_law_8 (A : Cs) : DTS := shut
  (dSeq (dAsg (dCallR 3 1 (run_law_map A) (dACons (dC (.int 8)) (dACons (dC (.int 16)) dANil))) (dgT [2, 3, 4]))
  (r_law_7 A))
/-- law: 0 script 1 d 2 many 3 root 4 roads 5 rows 6 odd 7 heads 8 at 9 behind 10 nones 11 some 12 number 13 why 14 row 15 one -/
noncomputable def b_law (A : Cs) : DTS :=
  (dSeq (dSet 1 (dCall 1 (run_law_dice A) (dACons (dVar 0) dANil)))
  (r_law_8 A))
noncomputable def run_law (A : Cs) : DSp := shut (dRun 1 15 (b_law A))
end LL
namespace LL
open PySem L2 DW
def top (i : Nat) : Stmt := PySem.Challenge.pw_rootcheap_k16_texts_refused.main.body.getD i (.Pass ⟨0, 0, 0, 0⟩)
abbrev s_law_dice : Stmt := top 18
abbrev s_law_next : Stmt := top 19
abbrev s_law_cost : Stmt := top 21
abbrev s_law_map : Stmt := top 22
abbrev s_law_is : Stmt := top 23
abbrev s_law_whole : Stmt := top 20
abbrev s_BadText_init : Stmt := inClass (top 6) 0
abbrev s_BadMap_init : Stmt := inClass (top 3) 0
abbrev s_Map_init : Stmt := inClass (top 11) 0
abbrev s_number_of : Stmt := top 15
abbrev s_read : Stmt := top 16
abbrev s_law_refused : Stmt := top 24
abbrev s_law : Stmt := top 25
structure Fa where
  f_law_dice : Addr
  d_law_dice : FuncData
  f_law_next : Addr
  d_law_next : FuncData
  f_law_cost : Addr
  d_law_cost : FuncData
  f_law_map : Addr
  d_law_map : FuncData
  f_law_is : Addr
  d_law_is : FuncData
  f_law_whole : Addr
  d_law_whole : FuncData
  f_BadText_init : Addr
  d_BadText_init : FuncData
  f_BadMap_init : Addr
  d_BadMap_init : FuncData
  f_Map_init : Addr
  d_Map_init : FuncData
  f_number_of : Addr
  d_number_of : FuncData
  f_read : Addr
  d_read : FuncData
  f_law_refused : Addr
  d_law_refused : FuncData
  f_law : Addr
  d_law : FuncData
structure Tx (K : PySem.W.Frag) (mg : Str → Option Value) (A : Cs) (B : Fa) : Prop where
  n_ValueError : mg "ValueError" = none
  n_bool : mg "bool" = none
  n_int : mg "int" = none
  n_isinstance : mg "isinstance" = none
  n_len : mg "len" = none
  n_list : mg "list" = none
  n_range : mg "range" = none
  n_str : mg "str" = none
  n_tuple : mg "tuple" = none
  g_FIGURES : ∃ t, mg "FIGURES" = some (.str "0123456789" t)
  g_MOST_COST : ∃ t, mg "MOST_COST" = some (.int 1000000000 t)
  g_MOST_FIGURES : ∃ t, mg "MOST_FIGURES" = some (.int 10 t)
  g_MOST_PLACES : ∃ t, mg "MOST_PLACES" = some (.int 20 t)
  g_MOST_ROADS : ∃ t, mg "MOST_ROADS" = some (.int 60 t)
  c_Map : Cls K A.Map
  a_Map_many : NoAttr K A.Map "many"
  a_Map_root : NoAttr K A.Map "root"
  a_Map_rows : NoAttr K A.Map "rows"
  g_BadMap : mg "BadMap" = some (.ref A.BadMap)
  g_BadText : mg "BadText" = some (.ref A.BadText)
  g_NoRoad : mg "NoRoad" = some (.ref A.NoRoad)
  g_NoTree : mg "NoTree" = some (.ref A.NoTree)
  g_RootError : mg "RootError" = some (.ref A.RootError)
  base_RootError : BaseC K A.RootError
  x_BadMap : OexC K A.BadMap
  xi_BadMap : PySem.W.findIn K (.ref A.BadMap) "__init__" = some (some (.ref B.f_BadMap_init))
  xt_BadMap : PySem.W.typeIn K (.ref B.f_BadMap_init) = some (.type "function")
  xn_BadMap_at : PySem.W.findIn K (.ref A.BadMap) "at" = some none
  xn_BadMap_why : PySem.W.findIn K (.ref A.BadMap) "why" = some none
  x_BadText : OexC K A.BadText
  xi_BadText : PySem.W.findIn K (.ref A.BadText) "__init__" = some (some (.ref B.f_BadText_init))
  xt_BadText : PySem.W.typeIn K (.ref B.f_BadText_init) = some (.type "function")
  xn_BadText_row : PySem.W.findIn K (.ref A.BadText) "row" = some none
  e_BadMap_RootError : PySem.W.exmOne K (.ref A.BadMap) (.ref A.RootError) = some true
  e_BadText_RootError : PySem.W.exmOne K (.ref A.BadText) (.ref A.RootError) = some true
  xf_BadMap : XfC K A.BadMap
  xf_BadText : XfC K A.BadText
  exc_BadMap : ExcC K A.BadMap
  kv_BadMap : PySem.W.subIn K (.ref A.BadMap) (.type "ValueError") = some true
  exc_BadText : ExcC K A.BadText
  kv_BadText : PySem.W.subIn K (.ref A.BadText) (.type "ValueError") = some true
  kd_BadMap : PySem.W.hasDictIn K A.BadMap = true
  kt_BadMap : PySem.W.typeIn K (.ref A.BadMap) = some (.type "type")
  ks_BadMap : PySem.W.subIn K (.ref A.BadMap) (.ref A.BadMap) = some true
  kd_BadText : PySem.W.hasDictIn K A.BadText = true
  kt_BadText : PySem.W.typeIn K (.ref A.BadText) = some (.type "type")
  ks_BadText : PySem.W.subIn K (.ref A.BadText) (.ref A.BadText) = some true
  kd_NoRoad : PySem.W.hasDictIn K A.NoRoad = true
  kt_NoRoad : PySem.W.typeIn K (.ref A.NoRoad) = some (.type "type")
  ks_NoRoad : PySem.W.subIn K (.ref A.NoRoad) (.ref A.NoRoad) = some true
  kd_NoTree : PySem.W.hasDictIn K A.NoTree = true
  kt_NoTree : PySem.W.typeIn K (.ref A.NoTree) = some (.type "type")
  ks_NoTree : PySem.W.subIn K (.ref A.NoTree) (.ref A.NoTree) = some true
  ki_BadMap_BadText : PySem.W.subIn K (.ref A.BadMap) (.ref A.BadText) = some false
  ki_BadMap_NoRoad : PySem.W.subIn K (.ref A.BadMap) (.ref A.NoRoad) = some false
  ki_BadMap_NoTree : PySem.W.subIn K (.ref A.BadMap) (.ref A.NoTree) = some false
  ki_BadText_BadMap : PySem.W.subIn K (.ref A.BadText) (.ref A.BadMap) = some false
  ki_BadText_NoRoad : PySem.W.subIn K (.ref A.BadText) (.ref A.NoRoad) = some false
  ki_BadText_NoTree : PySem.W.subIn K (.ref A.BadText) (.ref A.NoTree) = some false
  F_law_dice : Fun K "_law_dice" "_law_dice" s_law_dice B.f_law_dice B.d_law_dice
  b_law_dice : Binds K B.d_law_dice ["_law_script"] []
  g_law_dice : mg "_law_dice" = some (.ref B.f_law_dice)
  k_law_dice : PySem.W.keepIn K (.ref B.f_law_dice) = true
  F_law_next : Fun K "_law_next" "_law_next" s_law_next B.f_law_next B.d_law_next
  b_law_next : Binds K B.d_law_next ["_law_dice_here", "_law_many"] []
  g_law_next : mg "_law_next" = some (.ref B.f_law_next)
  k_law_next : PySem.W.keepIn K (.ref B.f_law_next) = true
  F_law_cost : Fun K "_law_cost" "_law_cost" s_law_cost B.f_law_cost B.d_law_cost
  b_law_cost : Binds K B.d_law_cost ["_law_d"] []
  g_law_cost : mg "_law_cost" = some (.ref B.f_law_cost)
  k_law_cost : PySem.W.keepIn K (.ref B.f_law_cost) = true
  F_law_map : Fun K "_law_map" "_law_map" s_law_map B.f_law_map B.d_law_map
  b_law_map : Binds K B.d_law_map ["_law_d", "_law_places", "_law_roads"] []
  g_law_map : mg "_law_map" = some (.ref B.f_law_map)
  k_law_map : PySem.W.keepIn K (.ref B.f_law_map) = true
  F_law_is : Fun K "_law_is" "_law_is" s_law_is B.f_law_is B.d_law_is
  b_law_is : Binds K B.d_law_is ["_law_e", "_law_word"] []
  g_law_is : mg "_law_is" = some (.ref B.f_law_is)
  k_law_is : PySem.W.keepIn K (.ref B.f_law_is) = true
  F_law_whole : Fun K "_law_whole" "_law_whole" s_law_whole B.f_law_whole B.d_law_whole
  b_law_whole : Binds K B.d_law_whole ["_law_found"] []
  g_law_whole : mg "_law_whole" = some (.ref B.f_law_whole)
  k_law_whole : PySem.W.keepIn K (.ref B.f_law_whole) = true
  F_BadText_init : Fun K "__init__" "BadText.__init__" s_BadText_init B.f_BadText_init B.d_BadText_init
  b_BadText_init : Binds K B.d_BadText_init ["self", "row"] []
  F_BadMap_init : Fun K "__init__" "BadMap.__init__" s_BadMap_init B.f_BadMap_init B.d_BadMap_init
  b_BadMap_init : Binds K B.d_BadMap_init ["self", "at", "why"] []
  F_Map_init : Fun K "__init__" "Map.__init__" s_Map_init B.f_Map_init B.d_Map_init
  b_Map_init : Binds K B.d_Map_init ["self", "many", "root", "roads"] []
  m_Map : Mk K A.Map B.f_Map_init
  g_Map : mg "Map" = some (.ref A.Map)
  F_number_of : Fun K "number_of" "number_of" s_number_of B.f_number_of B.d_number_of
  b_number_of : Binds K B.d_number_of ["word", "row"] []
  g_number_of : mg "number_of" = some (.ref B.f_number_of)
  k_number_of : PySem.W.keepIn K (.ref B.f_number_of) = true
  F_read : Fun K "read" "read" s_read B.f_read B.d_read
  b_read : Binds K B.d_read ["text"] []
  g_read : mg "read" = some (.ref B.f_read)
  k_read : PySem.W.keepIn K (.ref B.f_read) = true
  F_law_refused : Fun K "_law_refused" "_law_refused" s_law_refused B.f_law_refused B.d_law_refused
  b_law_refused : Binds K B.d_law_refused ["_law_rows", "_law_word", "_law_at", "_law_why"] []
  g_law_refused : mg "_law_refused" = some (.ref B.f_law_refused)
  k_law_refused : PySem.W.keepIn K (.ref B.f_law_refused) = true
  F_law : Fun K "law" "law" s_law B.f_law B.d_law
  b_law : Binds K B.d_law ["_law_script"] []
  g_law : mg "law" = some (.ref B.f_law)
  k_law : PySem.W.keepIn K (.ref B.f_law) = true
section
variable {P : Program} {w : World} {K : PySem.W.Frag} {mg : Str → Option Value} {base : Heap} {A : Cs} {B : Fa}
theorem sc_law_dice : FnScope ["_law_script", "_law_mixed", "_law_cell"] ["_law_script"] (defScope s_law_dice) := ⟨rfl, rfl, rfl, by decide +kernel, rfl, by decide +kernel, by decide +kernel⟩
theorem ok_law_dice (T : Tx K mg A B) : FnOk P w K mg base (L2N.CX P w) 1 B.f_law_dice B.d_law_dice ["_law_script"] (spD K 1 (run_law_dice A)) := fn_shut (fn_D (N := ["_law_script", "_law_mixed", "_law_cell"]) (ps := ["_law_script"]) T.F_law_dice sc_law_dice fun cdv Ar outer s H E hr => 
  (d_cons (d_set 1 d_int sc_law_dice.nd)
  (d_cons (d_for (passes_of rfl) rfl (d_var 0) (d_gname 2 sc_law_dice.nd)
  (d_shut (d_last (d_set 1 (d_mod (d_add (d_add (d_mul (d_var 1) d_int) (d_mul (d_mod (d_var 2) d_int) d_int)) d_int) d_int) sc_law_dice.nd))))
  (d_shut (d_last (d_ret (d_lst (d_acons (d_var 0) (d_acons d_int (d_acons (d_mul (d_var 1) (d_int1 T.n_int (d_cmp op_gt (ok_cmp _) (d_len T.n_len (d_var 0)) d_int))) (d_acons d_int d_anil)))))))))))
theorem sc_law_next : FnScope ["_law_dice_here", "_law_many", "_law_found", "_law_cell"] ["_law_dice_here", "_law_many"] (defScope s_law_next) := ⟨rfl, rfl, rfl, by decide +kernel, rfl, by decide +kernel, by decide +kernel⟩
theorem ok_law_next (T : Tx K mg A B) : FnOk P w K mg base (L2N.CX P w) 1 B.f_law_next B.d_law_next ["_law_dice_here", "_law_many"] (spD K 2 (run_law_next A)) := fn_shut (fn_D (N := ["_law_dice_here", "_law_many", "_law_found", "_law_cell"]) (ps := ["_law_dice_here", "_law_many"]) T.F_law_next sc_law_next fun cdv Ar outer s H E hr => 
  (d_cons (d_ifS (d_cmpT op_gt (ok_cmp _) (d_ix (hu1 hr) (d_var 0) d_int) d_int)
  (d_cons (d_set 2 (d_mod (d_ix (hu1 hr) (d_var 0) d_int) (d_var 1)) sc_law_next.nd)
  (d_cons (d_setIx 0 d_int (d_div (d_ix (hu1 hr) (d_var 0) d_int) (d_var 1)))
  (d_last (d_ret (d_var 2)))))
  d_nil)
  (d_shut (d_cons (d_setIx 0 d_int (d_add (d_ix (hu1 hr) (d_var 0) d_int) d_int))
  (d_cons (d_ifS (d_cmpT op_le (ok_cmp _) (d_ix (hu1 hr) (d_var 0) d_int) (d_len T.n_len (d_ix (hu1 hr) (d_var 0) d_int)))
  (d_cons (d_set 3 (d_ix (hu1 hr) (d_ix (hu1 hr) (d_var 0) d_int) (d_sub (d_ix (hu1 hr) (d_var 0) d_int) d_int)) sc_law_next.nd)
  (d_cons (d_setIx 0 d_int (d_if (d_cmpT op_ge (ok_cmp _) (d_var 3) (d_pow d_int d_int)) (d_div (d_var 3) (d_var 1)) d_int))
  (d_last (d_ret (d_mod (d_var 3) (d_var 1))))))
  d_nil)
  (d_shut (d_cons (d_setIx 0 d_int (d_mod (d_mul (d_ix (hu1 hr) (d_var 0) d_int) d_int) d_int))
  (d_last (d_ret (d_mod (d_div (d_ix (hu1 hr) (d_var 0) d_int) d_int) (d_var 1)))))))))))
theorem sc_law_cost : FnScope ["_law_d", "_law_way"] ["_law_d"] (defScope s_law_cost) := ⟨rfl, rfl, rfl, by decide +kernel, rfl, by decide +kernel, by decide +kernel⟩
theorem ok_law_cost (T : Tx K mg A B) : FnOk P w K mg base (L2N.CX P w) 2 B.f_law_cost B.d_law_cost ["_law_d"] (spD K 1 (run_law_cost A)) := fn_shut (fn_D (N := ["_law_d", "_law_way"]) (ps := ["_law_d"]) T.F_law_cost sc_law_cost fun cdv Ar outer s H E hr => 
  (d_cons (d_set 1 (d_callR 0 (ps := ["_law_dice_here", "_law_many"]) (ok_law_next T) (hr.mono (by decide)) T.g_law_next T.k_law_next T.b_law_next (L2N.takes_of rfl rfl rfl rfl) (d_acons d_int d_anil)) sc_law_cost.nd)
  (d_cons (d_ifS (d_cmpT op_lt (ok_cmp _) (d_var 1) d_int)
  (d_last (d_ret (d_callR 0 (ps := ["_law_dice_here", "_law_many"]) (ok_law_next T) (hr.mono (by decide)) T.g_law_next T.k_law_next T.b_law_next (L2N.takes_of rfl rfl rfl rfl) (d_acons (d_add d_int (d_mul d_int (d_var 1))) d_anil))))
  d_nil)
  (d_shut (d_last (d_ret (d_callR 0 (ps := ["_law_dice_here", "_law_many"]) (ok_law_next T) (hr.mono (by decide)) T.g_law_next T.k_law_next T.b_law_next (L2N.takes_of rfl rfl rfl rfl) (d_acons (d_ix (hu1 hr) (d_lst (d_acons d_int (d_acons (d_add (d_pow d_int d_int) d_int) d_anil))) (d_sub (d_var 1) d_int)) d_anil))))))))
theorem sc_law_map : FnScope ["_law_d", "_law_places", "_law_roads", "_law_many", "_law_root", "_law_rows", "_law_k", "_law_begin", "_law_goal"] ["_law_d", "_law_places", "_law_roads"] (defScope s_law_map) := ⟨rfl, rfl, rfl, by decide +kernel, rfl, by decide +kernel, by decide +kernel⟩
theorem ok_law_map (T : Tx K mg A B) : FnOk P w K mg base (L2N.CX P w) 3 B.f_law_map B.d_law_map ["_law_d", "_law_places", "_law_roads"] (spD K 3 (run_law_map A)) := fn_shut (fn_D (N := ["_law_d", "_law_places", "_law_roads", "_law_many", "_law_root", "_law_rows", "_law_k", "_law_begin", "_law_goal"]) (ps := ["_law_d", "_law_places", "_law_roads"]) T.F_law_map sc_law_map fun cdv Ar outer s H E hr => 
  (d_cons (d_set 3 (d_add d_int (d_callR 0 (ps := ["_law_dice_here", "_law_many"]) (ok_law_next T) (hr.mono (by decide)) T.g_law_next T.k_law_next T.b_law_next (L2N.takes_of rfl rfl rfl rfl) (d_acons (d_var 1) d_anil))) sc_law_map.nd)
  (d_cons (d_set 4 (d_callR 0 (ps := ["_law_dice_here", "_law_many"]) (ok_law_next T) (hr.mono (by decide)) T.g_law_next T.k_law_next T.b_law_next (L2N.takes_of rfl rfl rfl rfl) (d_acons (d_var 3) d_anil)) sc_law_map.nd)
  (d_cons (d_set 5 (d_lst d_anil) sc_law_map.nd)
  (d_cons (d_ifS (d_cmpT op_gt (ok_cmp _) (d_var 3) d_int)
  (d_last (d_forR1 (passes_of rfl) rfl T.n_range (d_acons (d_callR 0 (ps := ["_law_dice_here", "_law_many"]) (ok_law_next T) (hr.mono (by decide)) T.g_law_next T.k_law_next T.b_law_next (L2N.takes_of rfl rfl rfl rfl) (d_acons (d_add (d_var 2) d_int) d_anil)) d_anil) (d_gname 6 sc_law_map.nd)
  (d_shut (d_cons (d_set 7 (d_callR 0 (ps := ["_law_dice_here", "_law_many"]) (ok_law_next T) (hr.mono (by decide)) T.g_law_next T.k_law_next T.b_law_next (L2N.takes_of rfl rfl rfl rfl) (d_acons (d_var 3) d_anil)) sc_law_map.nd)
  (d_cons (d_set 8 (d_mod (d_add (d_add (d_var 7) d_int) (d_callR 0 (ps := ["_law_dice_here", "_law_many"]) (ok_law_next T) (hr.mono (by decide)) T.g_law_next T.k_law_next T.b_law_next (L2N.takes_of rfl rfl rfl rfl) (d_acons (d_sub (d_var 3) d_int) d_anil))) (d_var 3)) sc_law_map.nd)
  (d_cons (d_ifS (d_pw (d_and (d_cmpT op_gt (ok_cmp _) (d_callR 0 (ps := ["_law_dice_here", "_law_many"]) (ok_law_next T) (hr.mono (by decide)) T.g_law_next T.k_law_next T.b_law_next (L2N.takes_of rfl rfl rfl rfl) (d_acons d_int d_anil)) d_int) (d_and1 (d_cmpT op_lt (ok_cmp _) (d_var 6) (d_var 3)))))
  (d_cons (d_set 8 (d_mod (d_add (d_add (d_var 4) d_int) (d_var 6)) (d_var 3)) sc_law_map.nd)
  (d_last (d_set 7 (d_mod (d_add (d_var 4) (d_callR 0 (ps := ["_law_dice_here", "_law_many"]) (ok_law_next T) (hr.mono (by decide)) T.g_law_next T.k_law_next T.b_law_next (L2N.takes_of rfl rfl rfl rfl) (d_acons (d_add (d_var 6) d_int) d_anil))) (d_var 3)) sc_law_map.nd)))
  d_nil)
  (d_shut (d_last (d_ifS (d_cmpT (op_neD (hu64 hr)) ok_ne (d_var 7) (d_var 8))
  (d_last (d_expr (d_lm 5 PySem.F.slot_list_append PySem.F.type_list_append mt_append ok_append (d_acons (d_tup (d_acons (d_var 7) (d_acons (d_var 8) (d_acons (d_callR 0 (ps := ["_law_d"]) (ok_law_cost T) (hr.mono (by decide)) T.g_law_cost T.k_law_cost T.b_law_cost (L2N.takes_of rfl rfl rfl rfl) d_anil) d_anil)))) d_anil))))
  d_nil)))))))))
  d_nil)
  (d_shut (d_last (d_ret (d_tup (d_acons (d_var 3) (d_acons (d_var 4) (d_acons (d_var 5) d_anil))))))))))))
theorem sc_law_is : FnScope ["_law_e", "_law_word", "_law_kinds", "_law_words", "_law_one"] ["_law_e", "_law_word"] (defScope s_law_is) := ⟨rfl, rfl, rfl, by decide +kernel, rfl, by decide +kernel, by decide +kernel⟩
theorem ok_law_is (T : Tx K mg A B) : FnX P w K mg base (L2N.CX P w) 1 B.f_law_is B.d_law_is ["_law_e", "_law_word"] (spDX K 2 (run_law_is A)) := fnX_shut (fn_DX (N := ["_law_e", "_law_word", "_law_kinds", "_law_words", "_law_one"]) (ps := ["_law_e", "_law_word"]) (body := b_law_is A) T.F_law_is sc_law_is fun cdv Ar outer s H E p xc xd hot zn hr =>
  (d_cons (d_set 2 (d_lst (d_acons (d_isX (hotX_body hot zn) (pe_glob (v := .ref A.BadMap) rfl T.g_BadMap rfl) (.own A.BadMap) (fa1 ⟨_, rfl, T.exc_BadMap, kit_self⟩ fa0) (fa1 ⟨_, rfl, T.exc_BadText, (kit_cls T.kd_BadMap T.kt_BadMap T.ks_BadMap T.ki_BadText_BadMap)⟩ fa0) T.n_isinstance (d_var 0)) (d_acons (d_isX (hotX_body hot zn) (pe_glob (v := .ref A.NoTree) rfl T.g_NoTree rfl) (.own A.NoTree) fa0 (fa1 ⟨_, rfl, T.exc_BadMap, (kit_cls T.kd_NoTree T.kt_NoTree T.ks_NoTree T.ki_BadMap_NoTree)⟩ (fa1 ⟨_, rfl, T.exc_BadText, (kit_cls T.kd_NoTree T.kt_NoTree T.ks_NoTree T.ki_BadText_NoTree)⟩ fa0)) T.n_isinstance (d_var 0)) (d_acons (d_isX (hotX_body hot zn) (pe_glob (v := .ref A.NoRoad) rfl T.g_NoRoad rfl) (.own A.NoRoad) fa0 (fa1 ⟨_, rfl, T.exc_BadMap, (kit_cls T.kd_NoRoad T.kt_NoRoad T.ks_NoRoad T.ki_BadMap_NoRoad)⟩ (fa1 ⟨_, rfl, T.exc_BadText, (kit_cls T.kd_NoRoad T.kt_NoRoad T.ks_NoRoad T.ki_BadText_NoRoad)⟩ fa0)) T.n_isinstance (d_var 0)) (d_acons (d_isX (hotX_body hot zn) (pe_glob (v := .ref A.BadText) rfl T.g_BadText rfl) (.own A.BadText) (fa1 ⟨_, rfl, T.exc_BadText, kit_self⟩ fa0) (fa1 ⟨_, rfl, T.exc_BadMap, (kit_cls T.kd_BadText T.kt_BadText T.ks_BadText T.ki_BadMap_BadText)⟩ fa0) T.n_isinstance (d_var 0)) d_anil))))) sc_law_is.nd)
  (d_cons (d_set 3 (d_lst (d_acons d_str (d_acons d_str (d_acons d_str (d_acons d_str d_anil))))) sc_law_is.nd)
  (d_last (d_ret (d_andV (d_isX (hotX_body hot zn) (pe_bltn (v := .ty "ValueError") rfl T.n_ValueError boot_VE rfl) (.ty "ValueError") (fa1 ⟨_, rfl, T.exc_BadMap, (kit_val T.kv_BadMap)⟩ (fa1 ⟨_, rfl, T.exc_BadText, (kit_val T.kv_BadText)⟩ fa0)) fa0 T.n_isinstance (d_var 0)) (d_one (d_cmp (op_eqD (huH hr (by decide))) ok_eq (d_var 2) (d_lcH (own := [("_law_one", 4)]) (hot_body hot) sc_law_is.nd (d_var 3) (blkOk_by (own := [("_law_one", 4)]) (N := ["_law_e", "_law_word", "_law_kinds", "_law_words", "_law_one"]) (sc := (defScope s_law_is)) (by decide +kernel)) (by decide) (fun _ _ _ _ _ => (d_gname 4 sc_law_is.nd)) (fun _ _ _ _ _ => (d_cmp (op_eqD (huH hr (by decide))) ok_eq (d_var 1) (d_var 4))))))))))))
theorem sc_law_whole : FnScope ["_law_found"] ["_law_found"] (defScope s_law_whole) := ⟨rfl, rfl, rfl, by decide +kernel, rfl, by decide +kernel, by decide +kernel⟩
theorem ok_law_whole (T : Tx K mg A B) : FnX P w K mg base (L2N.CX P w) 1 B.f_law_whole B.d_law_whole ["_law_found"] (spDX K 1 (run_law_whole A)) := fnX_shut (fn_DX (N := ["_law_found"]) (ps := ["_law_found"]) (body := b_law_whole A) T.F_law_whole sc_law_whole fun cdv Ar outer s H E p xc xd hot zn hr =>
  (d_last (d_ret (d_andV (d_isi isi_int PyProof.Rows.boot_int T.n_int T.n_isinstance (d_var 0)) (d_one (d_notV (d_isi isi_bool PyProof.Rows.boot_bool T.n_bool T.n_isinstance (d_var 0))))))))
theorem sc_BadText_init : FnScope ["self", "row"] ["self", "row"] (defScope s_BadText_init) := ⟨rfl, rfl, rfl, by decide +kernel, rfl, by decide +kernel, by decide +kernel⟩
theorem ok_BadText_init (T : Tx K mg A B) : FnOk P w K mg base L2.CX0 1 B.f_BadText_init B.d_BadText_init ["self", "row"] (spX1 K A.BadText "row") := T.F_BadText_init.ok sc_BadText_init (fun vs H Q E q => by obtain ⟨a, v, rfl, _⟩ := q; rfl) fun cdv Ar outer s H vs Q E hr q => by
  refine ⟨_, pss_cons (ps_expr (pe_base T.base_RootError T.g_RootError (pa_cons (pv 0) (pa_cons pe_str pa_nil)))) (pss_one (ps_ost (pv 0) (pv 1))), ?_⟩
  obtain ⟨a, v, rfl, ha, q⟩ := q
  exact ⟨_, rfl, a, A.BadText, _, rfl, (by simp), T.x_BadText, ha, v, rfl, _, rfl, a, A.BadText, rfl, T.x_BadText, T.xn_BadText_row, .inl ⟨ha, fun dx hd hne => q dx hd hne⟩⟩
theorem sc_BadMap_init : FnScope ["self", "at", "why"] ["self", "at", "why"] (defScope s_BadMap_init) := ⟨rfl, rfl, rfl, by decide +kernel, rfl, by decide +kernel, by decide +kernel⟩
theorem ok_BadMap_init (T : Tx K mg A B) : FnOk P w K mg base L2.CX0 1 B.f_BadMap_init B.d_BadMap_init ["self", "at", "why"] (spX2 K A.BadMap "at" "why") := T.F_BadMap_init.ok sc_BadMap_init (fun vs H Q E q => by obtain ⟨a, v, w, rfl, _⟩ := q; rfl) fun cdv Ar outer s H vs Q E hr q => by
  refine ⟨_, pss_cons (ps_expr (pe_base T.base_RootError T.g_RootError (pa_cons (pv 0) (pa_cons (pv 2) pa_nil)))) (pss_cons (ps_ost (pv 0) (pv 1)) (pss_one (ps_ost (pv 0) (pv 2)))), ?_⟩
  obtain ⟨a, v, w, rfl, ha, q⟩ := q
  exact ⟨_, rfl, _, rfl, a, A.BadMap, _, rfl, (by simp), T.x_BadMap, ha, v, rfl, _, rfl, a, A.BadMap, rfl, T.x_BadMap, T.xn_BadMap_at, .inl ⟨ha, fun dx hd hne => ⟨w, rfl, _, rfl, a, A.BadMap, rfl, T.x_BadMap, T.xn_BadMap_why, .inr ⟨dx, _, upd_same, by rw [upd_ne hne]; exact upd_same, by simp, q dx hd hne⟩⟩⟩⟩
theorem sc_Map_init : FnScope ["self", "many", "root", "roads", "at", "begin", "goal", "cost"] ["self", "many", "root", "roads"] (defScope s_Map_init) := ⟨rfl, rfl, rfl, by decide +kernel, rfl, by decide +kernel, by decide +kernel⟩
theorem ok_Map_init (T : Tx K mg A B) : FnOk P w K mg base (L2N.CX P w) 3 B.f_Map_init B.d_Map_init ["self", "many", "root", "roads"] (spD K 4 (run_Map_init A)) := fn_shut (fn_D (N := ["self", "many", "root", "roads", "at", "begin", "goal", "cost"]) (ps := ["self", "many", "root", "roads"]) T.F_Map_init sc_Map_init fun cdv Ar outer s H E hr => 
  (d_cons (d_ifS (d_not (d_chainT op_le (ok_cmp _) op_le (ok_cmp _) d_int (d_var 1) (d_glob T.g_MOST_PLACES.choose_spec)))
  (d_last (d_raise2 rfl (L2N.takes_of rfl rfl rfl rfl) T.x_BadMap T.xi_BadMap T.xt_BadMap (ok_BadMap_init T) (hr.mono (by decide)) T.b_BadMap_init T.g_BadMap (d_acons d_int (d_acons d_str d_anil))))
  d_nil)
  (d_shut (d_cons (d_ifS (d_not (d_chainT op_le (ok_cmp _) op_lt (ok_cmp _) d_int (d_var 2) (d_var 1)))
  (d_last (d_raise2 rfl (L2N.takes_of rfl rfl rfl rfl) T.x_BadMap T.xi_BadMap T.xt_BadMap (ok_BadMap_init T) (hr.mono (by decide)) T.b_BadMap_init T.g_BadMap (d_acons d_int (d_acons d_str d_anil))))
  d_nil)
  (d_shut (d_cons (d_ifS (d_cmpT op_gt (ok_cmp _) (d_len T.n_len (d_var 3)) (d_glob T.g_MOST_ROADS.choose_spec))
  (d_last (d_raise2 rfl (L2N.takes_of rfl rfl rfl rfl) T.x_BadMap T.xi_BadMap T.xt_BadMap (ok_BadMap_init T) (hr.mono (by decide)) T.b_BadMap_init T.g_BadMap (d_acons d_int (d_acons d_str d_anil))))
  d_nil)
  (d_shut (d_cons (d_forR1 (passes_of rfl) rfl T.n_range (d_acons (d_len T.n_len (d_var 3)) d_anil) (d_gname 4 sc_Map_init.nd)
  (d_shut (d_cons (d_asg (d_ix (hu1 hr) (d_var 3) (d_var 4)) (d_gtup [5, 6, 7] rfl (pgs_cons (pg_name (i := 5) sc_Map_init.nd rfl (by first | exact Or.inl rfl | exact Or.inr rfl)) (pgs_cons (pg_name (i := 6) sc_Map_init.nd rfl (by first | exact Or.inl rfl | exact Or.inr rfl)) (pgs_cons (pg_name (i := 7) sc_Map_init.nd rfl (by first | exact Or.inl rfl | exact Or.inr rfl)) pgs_nil)))))
  (d_cons (d_ifS (d_pw (d_or (d_not (d_chainT op_le (ok_cmp _) op_lt (ok_cmp _) d_int (d_var 5) (d_var 1))) (d_or (d_not (d_chainT op_le (ok_cmp _) op_lt (ok_cmp _) d_int (d_var 6) (d_var 1))) (d_or1 (d_cmpT (op_eqD (hu64 hr)) ok_eq (d_var 5) (d_var 6))))))
  (d_last (d_raise2 rfl (L2N.takes_of rfl rfl rfl rfl) T.x_BadMap T.xi_BadMap T.xt_BadMap (ok_BadMap_init T) (hr.mono (by decide)) T.b_BadMap_init T.g_BadMap (d_acons (d_var 4) (d_acons d_str d_anil))))
  d_nil)
  (d_shut (d_last (d_ifS (d_not (d_chainT op_le (ok_cmp _) op_le (ok_cmp _) d_int (d_var 7) (d_glob T.g_MOST_COST.choose_spec)))
  (d_last (d_raise2 rfl (L2N.takes_of rfl rfl rfl rfl) T.x_BadMap T.xi_BadMap T.xt_BadMap (ok_BadMap_init T) (hr.mono (by decide)) T.b_BadMap_init T.g_BadMap (d_acons (d_var 4) (d_acons d_str d_anil))))
  d_nil)))))))
  (d_shut (d_cons (d_setF 0 T.c_Map T.a_Map_many (d_var 1))
  (d_cons (d_setF 0 T.c_Map T.a_Map_root (d_var 2))
  (d_last (d_setF 0 T.c_Map T.a_Map_rows (d_list T.n_list (d_var 3)))))))))))))))
theorem sc_number_of : FnScope ["word", "row", "sign"] ["word", "row"] (defScope s_number_of) := ⟨rfl, rfl, rfl, by decide +kernel, rfl, by decide +kernel, by decide +kernel⟩
theorem ok_number_of (T : Tx K mg A B) : FnOk P w K mg base (L2N.CX P w) 3 B.f_number_of B.d_number_of ["word", "row"] (spD K 2 (run_number_of A)) := fn_shut (fn_D (N := ["word", "row", "sign"]) (ps := ["word", "row"]) T.F_number_of sc_number_of fun cdv Ar outer s H E hr => 
  (d_cons (d_ifS (d_pw (d_or (d_cmpT (op_eqD (hu64 hr)) ok_eq (d_var 0) d_str) (d_or (d_cmpT op_gt (ok_cmp _) (d_len T.n_len (d_var 0)) (d_glob T.g_MOST_FIGURES.choose_spec)) (d_or1 (d_pw (d_and (d_cmpT (op_eqD (hu64 hr)) ok_eq (d_ix (hu1 hr) (d_var 0) d_int) d_str) (d_and1 (d_cmpT (op_neD (hu64 hr)) ok_ne (d_var 0) d_str))))))))
  (d_last (d_raise1 rfl (L2N.takes_of rfl rfl rfl rfl) T.x_BadText T.xi_BadText T.xt_BadText (ok_BadText_init T) (hr.mono (by decide)) T.b_BadText_init T.g_BadText (d_acons (d_var 1) d_anil)))
  d_nil)
  (d_shut (d_cons (d_forS (passes_of rfl) rfl (d_var 0) (d_gname 2 sc_number_of.nd)
  (d_shut (d_last (d_ifS (d_cmpT op_notIn_sign ok_notInS (d_var 2) (d_globS T.g_FIGURES.choose_spec))
  (d_last (d_raise1 rfl (L2N.takes_of rfl rfl rfl rfl) T.x_BadText T.xi_BadText T.xt_BadText (ok_BadText_init T) (hr.mono (by decide)) T.b_BadText_init T.g_BadText (d_acons (d_var 1) d_anil)))
  d_nil))))
  (d_shut (d_last (d_ret (d_intS T.n_int (d_var 0)))))))))
theorem sc_read : FnScope ["text", "rows", "head", "roads", "at", "words", "word"] ["text"] (defScope s_read) := ⟨rfl, rfl, rfl, by decide +kernel, rfl, by decide +kernel, by decide +kernel⟩
theorem ok_read (T : Tx K mg A B) : FnOk P w K mg base (L2N.CX P w) 5 B.f_read B.d_read ["text"] (spD K 1 (run_read A)) := fn_shut (fn_D (N := ["text", "rows", "head", "roads", "at", "words", "word"]) (ps := ["text"]) T.F_read sc_read fun cdv Ar outer s H E hr => 
  (d_cons (d_set 1 (d_split (d_var 0) d_str) sc_read.nd)
  (d_cons (d_set 2 (d_lst d_anil) sc_read.nd)
  (d_cons (d_set 3 (d_lst d_anil) sc_read.nd)
  (d_cons (d_forR1 (passes_of rfl) rfl T.n_range (d_acons (d_len T.n_len (d_var 1)) d_anil) (d_gname 4 sc_read.nd)
  (d_shut (d_cons (d_set 5 (d_split (d_ix (hu1 hr) (d_var 1) (d_var 4)) d_str) sc_read.nd)
  (d_last (d_ifS (d_pw (d_and (d_cmpT (op_eqD (hu64 hr)) ok_eq (d_var 4) d_int) (d_and (d_cmpT (op_eqD (hu64 hr)) ok_eq (d_ix (hu1 hr) (d_var 5) d_int) d_str) (d_and1 (d_cmpT (op_eqD (hu64 hr)) ok_eq (d_len T.n_len (d_var 5)) d_int)))))
  (d_last (d_setLcE (own := [("word", 6)]) (i := 2) rfl rfl rfl (L2N.takes_of rfl rfl rfl rfl) sc_read.nd rfl rfl (sw_true rfl rfl rfl (by decide +kernel)) (d_sl (d_var 5) (d_part d_int) d_nopart) (blkOk_by (own := [("word", 6)]) (N := ["text", "rows", "head", "roads", "at", "words", "word"]) (sc := (defScope s_read)) (by decide +kernel)) (by decide) (fun _ _ _ _ _ => (d_gname 6 sc_read.nd)) (fun _ _ _ _ _ xe Wb tke => (d_call (ps := ["word", "row"]) (ok_number_of T) (hr.mono (by decide)) T.g_number_of T.k_number_of T.b_number_of tke (d_acons (d_var 6) (d_acons (d_var 4) d_anil))))))
  (d_last (d_ifS (d_pw (d_and (d_cmpT op_gt (ok_cmp _) (d_var 4) d_int) (d_and (d_cmpT (op_eqD (hu64 hr)) ok_eq (d_ix (hu1 hr) (d_var 5) d_int) d_str) (d_and1 (d_cmpT (op_eqD (hu64 hr)) ok_eq (d_len T.n_len (d_var 5)) d_int)))))
  (d_last (d_expr (d_lm 3 PySem.F.slot_list_append PySem.F.type_list_append mt_append ok_append (d_acons (d_tuple T.n_tuple (d_lcE (own := [("word", 6)]) rfl rfl rfl (L2N.takes_of rfl rfl rfl rfl) sc_read.nd (d_sl (d_var 5) (d_part d_int) d_nopart) (blkOk_by (own := [("word", 6)]) (N := ["text", "rows", "head", "roads", "at", "words", "word"]) (sc := (defScope s_read)) (by decide +kernel)) (by decide) (fun _ _ _ _ _ => (d_gname 6 sc_read.nd)) (fun _ _ _ _ _ xe Wb tke => (d_call (ps := ["word", "row"]) (ok_number_of T) (hr.mono (by decide)) T.g_number_of T.k_number_of T.b_number_of tke (d_acons (d_var 6) (d_acons (d_var 4) d_anil)))))) d_anil))))
  (d_last (d_raise1 rfl (L2N.takes_of rfl rfl rfl rfl) T.x_BadText T.xi_BadText T.xt_BadText (ok_BadText_init T) (hr.mono (by decide)) T.b_BadText_init T.g_BadText (d_acons (d_var 4) d_anil))))))))))
  (d_shut (d_last (d_ret (d_make (ps := ["self", "many", "root", "roads"]) T.m_Map (ok_Map_init T) (hr.mono (by decide)) T.g_Map T.b_Map_init (L2N.takes_of rfl rfl rfl rfl) (d_acons (d_ix (hu1 hr) (d_var 2) d_int) (d_acons (d_ix (hu1 hr) (d_var 2) d_int) (d_acons (d_var 3) d_anil))))))))))))
theorem sc_law_refused : FnScope ["_law_rows", "_law_word", "_law_at", "_law_why", "_law_e"] ["_law_rows", "_law_word", "_law_at", "_law_why"] (defScope s_law_refused) := ⟨rfl, rfl, rfl, by decide +kernel, rfl, by decide +kernel, by decide +kernel⟩
theorem ok_law_refused (T : Tx K mg A B) : FnOk P w K mg base (L2N.CX P w) 6 B.f_law_refused B.d_law_refused ["_law_rows", "_law_word", "_law_at", "_law_why"] (spD K 4 (run_law_refused A)) := fn_shut (fn_D (N := ["_law_rows", "_law_word", "_law_at", "_law_why", "_law_e"]) (ps := ["_law_rows", "_law_word", "_law_at", "_law_why"]) T.F_law_refused sc_law_refused fun cdv Ar outer s H E hr => 
  (d_cons (d_tryAs 4 rfl rfl sc_law_refused.nd rfl rfl ⟨rfl, by decide, .inl T.g_RootError⟩ (L2N.takes_of rfl rfl rfl rfl) (fa1 T.e_BadMap_RootError (fa1 T.e_BadText_RootError fa0)) fa0 (fun W pn xe tkb hpb => (d_shut (d_last (d_expr (d_call (ps := ["text"]) (ok_read T) (hr.mono (by decide)) T.g_read T.k_read T.b_read tkb (d_acons (d_join d_str (d_var 0)) d_anil)))))) (fun xa oe xc xd pn hz hf => (d_cons (d_ifS (d_not (d_valT (d_callX (ps := ["_law_e", "_law_word"]) (ok_law_is T) (have h : L2H.RoomH 1 _ := L2H.roomH_of (hr.mono (by decide)); ⟨h.dp, h.un⟩) (hot_suite hz hf) T.g_law_is T.k_law_is T.b_law_is takesN (d_acons (d_var 4) (d_acons (d_var 1) d_anil)))))
  (d_last (d_ret d_bl))
  d_nil)
  (d_shut (d_cons (d_ifS (d_cmpT (op_eqD (have h := hu64 hr; h)) ok_eq (d_var 1) d_str)
  (d_last (d_ret (d_andV (d_callX (ps := ["_law_found"]) (ok_law_whole T) (have h : L2H.RoomH 1 _ := L2H.roomH_of (hr.mono (by decide)); ⟨h.dp, h.un⟩) (hot_suite hz hf) T.g_law_whole T.k_law_whole T.b_law_whole takesN (d_acons (d_excF 4 T.xf_BadText T.xn_BadText_row hz.zc hf) d_anil)) (d_one (d_cmp (op_eqD (have h := hu64 hr; h)) ok_eq (d_excF 4 T.xf_BadText T.xn_BadText_row hz.zc hf) (d_var 2))))))
  d_nil)
  (d_shut (d_last (d_ret (d_andV (d_cmp (op_eqD (have h := hu64 hr; h)) ok_eq (d_excF 4 T.xf_BadMap T.xn_BadMap_at hz.zc hf) (d_var 2)) (d_one (d_cmp (op_eqD (have h := hu64 hr; h)) ok_eq (d_excF 4 T.xf_BadMap T.xn_BadMap_why hz.zc hf) (d_var 3))))))))))))
  (d_shut (d_last (d_ret d_bl)))))
theorem sc_law : FnScope ["_law_script", "_law_d", "_law_many", "_law_root", "_law_roads", "_law_rows", "_law_odd", "_law_heads", "_law_at", "_law_behind", "_law_nones", "_law_some", "_law_number", "_law_why", "_law_row", "_law_one"] ["_law_script"] (defScope s_law) := ⟨rfl, rfl, rfl, by decide +kernel, rfl, by decide +kernel, by decide +kernel⟩
theorem ok_law (T : Tx K mg A B) : FnOk P w K mg base (L2N.CX P w) 7 B.f_law B.d_law ["_law_script"] (spD K 1 (run_law A)) := fn_shut (fn_D (N := ["_law_script", "_law_d", "_law_many", "_law_root", "_law_roads", "_law_rows", "_law_odd", "_law_heads", "_law_at", "_law_behind", "_law_nones", "_law_some", "_law_number", "_law_why", "_law_row", "_law_one"]) (ps := ["_law_script"]) T.F_law sc_law fun cdv Ar outer s H E hr => 
  (d_cons (d_set 1 (d_call (ps := ["_law_script"]) (ok_law_dice T) (hr.mono (by decide)) T.g_law_dice T.k_law_dice T.b_law_dice (L2N.takes_of rfl rfl rfl rfl) (d_acons (d_var 0) d_anil)) sc_law.nd)
  (d_shut (d_cons (d_asg (d_callR 1 (ps := ["_law_d", "_law_places", "_law_roads"]) (ok_law_map T) (hr.mono (by decide)) T.g_law_map T.k_law_map T.b_law_map (L2N.takes_of rfl rfl rfl rfl) (d_acons d_int (d_acons d_int d_anil))) (d_gtup [2, 3, 4] rfl (pgs_cons (pg_name (i := 2) sc_law.nd rfl (by first | exact Or.inl rfl | exact Or.inr rfl)) (pgs_cons (pg_name (i := 3) sc_law.nd rfl (by first | exact Or.inl rfl | exact Or.inr rfl)) (pgs_cons (pg_name (i := 4) sc_law.nd rfl (by first | exact Or.inl rfl | exact Or.inr rfl)) pgs_nil)))))
  (d_shut (d_cons (d_set 5 (d_lst (d_acons (d_add (d_add (d_add d_str (d_str1 T.n_str (d_var 2))) d_str) (d_str1 T.n_str (d_var 3))) d_anil)) sc_law.nd)
  (d_cons (d_set 5 (d_add (d_var 5) (d_lc (own := [("_law_row", 14)]) rfl sc_law.nd (d_var 4) (blkOk_by (own := [("_law_row", 14)]) (N := ["_law_script", "_law_d", "_law_many", "_law_root", "_law_roads", "_law_rows", "_law_odd", "_law_heads", "_law_at", "_law_behind", "_law_nones", "_law_some", "_law_number", "_law_why", "_law_row", "_law_one"]) (sc := (defScope s_law)) (by decide +kernel)) (by decide) (fun _ _ _ _ _ => (d_gname 14 sc_law.nd)) (fun _ _ _ _ _ => d_tests_nil) (fun _ _ _ _ _ => (d_add d_str (d_join d_str (d_lc (own := [("_law_one", 15)]) rfl sc_law.nd (d_var 14) (by dsimp only [L2.Cx.blk, compEnvC]; exact blkOk_by (own := [("_law_one", 15)]) (N := ["_law_script", "_law_d", "_law_many", "_law_root", "_law_roads", "_law_rows", "_law_odd", "_law_heads", "_law_at", "_law_behind", "_law_nones", "_law_some", "_law_number", "_law_why", "_law_row", "_law_one"]) (by kernel_rfl)) (by decide) (fun _ _ _ _ _ => (d_gname 15 sc_law.nd)) (fun _ _ _ _ _ => d_tests_nil) (fun _ _ _ _ _ => (d_str1 T.n_str (d_var 15))))))))) sc_law.nd)
  (d_shut (d_cons (d_set 6 (d_lst (d_acons d_str (d_acons d_str (d_acons d_str (d_acons d_str (d_acons d_str (d_acons d_str (d_acons d_str (d_acons d_str d_anil))))))))) sc_law.nd)
  (d_cons (d_set 6 (d_add (d_var 6) (d_lst (d_acons d_str (d_acons d_str (d_acons d_str (d_acons d_str (d_acons d_str (d_acons d_str d_anil)))))))) sc_law.nd)
  (d_cons (d_set 6 (d_add (d_var 6) (d_lst (d_acons d_str (d_acons d_str (d_acons d_str (d_acons d_str d_anil)))))) sc_law.nd)
  (d_cons (d_set 7 (d_lst (d_acons d_str (d_acons d_str (d_acons d_str (d_acons d_str (d_acons d_str (d_acons d_str (d_acons d_str (d_acons d_str (d_acons d_str (d_acons d_str d_anil))))))))))) sc_law.nd)
  (d_cons (d_set 8 (d_add d_int (d_callR 1 (ps := ["_law_dice_here", "_law_many"]) (ok_law_next T) (hr.mono (by decide)) T.g_law_next T.k_law_next T.b_law_next (L2N.takes_of rfl rfl rfl rfl) (d_acons (d_len T.n_len (d_var 5)) d_anil))) sc_law.nd)
  (d_shut (d_cons (d_set 9 (d_sl (d_lst (d_acons d_str (d_acons d_str d_anil))) d_nopart (d_part (d_callR 1 (ps := ["_law_dice_here", "_law_many"]) (ok_law_next T) (hr.mono (by decide)) T.g_law_next T.k_law_next T.b_law_next (L2N.takes_of rfl rfl rfl rfl) (d_acons d_int d_anil)))) sc_law.nd)
  (d_shut (d_cons (d_ifS (d_not (d_valT (d_call (ps := ["_law_rows", "_law_word", "_law_at", "_law_why"]) (ok_law_refused T) (hr.mono (by decide)) T.g_law_refused T.k_law_refused T.b_law_refused (L2N.takes_of rfl rfl rfl rfl) (d_acons (d_add (d_add (d_add (d_sl (d_var 5) d_nopart (d_part (d_var 8))) (d_lst (d_acons (d_ix (hu1 hr) (d_var 6) (d_callR 1 (ps := ["_law_dice_here", "_law_many"]) (ok_law_next T) (hr.mono (by decide)) T.g_law_next T.k_law_next T.b_law_next (L2N.takes_of rfl rfl rfl rfl) (d_acons (d_len T.n_len (d_var 6)) d_anil))) d_anil))) (d_sl (d_var 5) (d_part (d_var 8)) d_nopart)) (d_var 9)) (d_acons d_str (d_acons (d_var 8) (d_acons d_str d_anil)))))))
  (d_last (d_ret d_bl))
  d_nil)
  (d_shut (d_cons (d_ifS (d_not (d_valT (d_call (ps := ["_law_rows", "_law_word", "_law_at", "_law_why"]) (ok_law_refused T) (hr.mono (by decide)) T.g_law_refused T.k_law_refused T.b_law_refused (L2N.takes_of rfl rfl rfl rfl) (d_acons (d_add (d_add (d_lst (d_acons (d_ix (hu1 hr) (d_var 7) (d_callR 1 (ps := ["_law_dice_here", "_law_many"]) (ok_law_next T) (hr.mono (by decide)) T.g_law_next T.k_law_next T.b_law_next (L2N.takes_of rfl rfl rfl rfl) (d_acons (d_len T.n_len (d_var 7)) d_anil))) d_anil)) (d_sl (d_var 5) (d_part d_int) d_nopart)) (d_var 9)) (d_acons d_str (d_acons d_int (d_acons d_str d_anil)))))))
  (d_last (d_ret d_bl))
  d_nil)
  (d_shut (d_cons (d_set 10 (d_lst (d_acons (d_tup (d_acons (d_lst (d_acons d_str d_anil)) (d_acons d_int (d_acons d_str d_anil)))) (d_acons (d_tup (d_acons (d_lst (d_acons d_str d_anil)) (d_acons d_int (d_acons d_str d_anil)))) (d_acons (d_tup (d_acons (d_lst (d_acons d_str d_anil)) (d_acons d_int (d_acons d_str d_anil)))) d_anil)))) sc_law.nd)
  (d_cons (d_expr (d_lm 10 PySem.F.slot_list_append PySem.F.type_list_append mt_append ok_append (d_acons (d_tup (d_acons (d_add (d_lst (d_acons d_str d_anil)) (d_mul (d_lst (d_acons d_str d_anil)) d_int)) (d_acons d_int (d_acons d_str d_anil)))) d_anil)))
  (d_cons (d_expr (d_lm 10 PySem.F.slot_list_append PySem.F.type_list_append mt_append ok_append (d_acons (d_tup (d_acons (d_lst (d_acons d_str (d_acons d_str (d_acons d_str d_anil)))) (d_acons d_int (d_acons d_str d_anil)))) d_anil)))
  (d_cons (d_expr (d_lm 10 PySem.F.slot_list_append PySem.F.type_list_append mt_append ok_append (d_acons (d_tup (d_acons (d_lst (d_acons d_str (d_acons d_str d_anil))) (d_acons d_int (d_acons d_str d_anil)))) d_anil)))
  (d_cons (d_expr (d_lm 10 PySem.F.slot_list_append PySem.F.type_list_append mt_append ok_append (d_acons (d_tup (d_acons (d_lst (d_acons d_str (d_acons d_str (d_acons d_str (d_acons d_str d_anil))))) (d_acons d_int (d_acons d_str d_anil)))) d_anil)))
  (d_cons (d_asg (d_ix (hu1 hr) (d_var 10) (d_callR 1 (ps := ["_law_dice_here", "_law_many"]) (ok_law_next T) (hr.mono (by decide)) T.g_law_next T.k_law_next T.b_law_next (L2N.takes_of rfl rfl rfl rfl) (d_acons d_int d_anil))) (d_gtup [11, 12, 13] rfl (pgs_cons (pg_name (i := 11) sc_law.nd rfl (by first | exact Or.inl rfl | exact Or.inr rfl)) (pgs_cons (pg_name (i := 12) sc_law.nd rfl (by first | exact Or.inl rfl | exact Or.inr rfl)) (pgs_cons (pg_name (i := 13) sc_law.nd rfl (by first | exact Or.inl rfl | exact Or.inr rfl)) pgs_nil)))))
  (d_shut (d_last (d_ret (d_andV (d_call (ps := ["_law_rows", "_law_word", "_law_at", "_law_why"]) (ok_law_refused T) (hr.mono (by decide)) T.g_law_refused T.k_law_refused T.b_law_refused (L2N.takes_of rfl rfl rfl rfl) (d_acons (d_var 11) (d_acons d_str (d_acons (d_var 12) (d_acons (d_var 13) d_anil))))) (d_one (d_call (ps := ["_law_rows", "_law_word", "_law_at", "_law_why"]) (ok_law_refused T) (hr.mono (by decide)) T.g_law_refused T.k_law_refused T.b_law_refused (L2N.takes_of rfl rfl rfl rfl) (d_acons (d_add (d_var 11) (d_lst (d_acons d_str d_anil))) (d_acons d_str (d_acons (d_len T.n_len (d_var 11)) (d_acons d_str d_anil))))))))))))))))))))))))))))))))))))
end
theorem all_mk {l : PySem.W.OpenLaw} {w : World} {K : PySem.W.Frag} {h : Heap} {mg : Str → Option Value} {fa a_Map a_BadMap a_BadText a_NoRoad a_NoTree a_RootError f_law_dice f_law_next f_law_cost f_law_map f_law_is f_law_whole f_BadText_init f_BadMap_init f_Map_init f_number_of f_read f_law_refused f_law : Addr} (X : K.In h) (G : h.Ns mainGlobals mg) (hfa : mg "law" = some (.ref fa))
    {od_law_dice an_law_dice od_law_next an_law_next od_law_cost an_law_cost od_law_map an_law_map od_law_is an_law_is od_law_whole an_law_whole od_BadText_init an_BadText_init od_BadMap_init an_BadMap_init od_Map_init an_Map_init od_number_of an_number_of od_read an_read od_law_refused an_law_refused od_law an_law : Option Addr} {sl_law_dice sl_law_next sl_law_cost sl_law_map sl_law_is sl_law_whole sl_BadText_init sl_BadMap_init sl_Map_init sl_number_of sl_read sl_law_refused sl_law : Array (Option Value)} {oc_law_dice kV_law_dice dc_law_dice pm_law_dice cd_law_dice ct_law_dice oc_law_next kV_law_next dc_law_next pm_law_next cd_law_next ct_law_next oc_law_cost kV_law_cost dc_law_cost pm_law_cost cd_law_cost ct_law_cost oc_law_map kV_law_map dc_law_map pm_law_map cd_law_map ct_law_map oc_law_is kV_law_is dc_law_is pm_law_is cd_law_is ct_law_is oc_law_whole kV_law_whole dc_law_whole pm_law_whole cd_law_whole ct_law_whole oc_BadText_init kV_BadText_init dc_BadText_init pm_BadText_init cd_BadText_init ct_BadText_init oc_BadMap_init kV_BadMap_init dc_BadMap_init pm_BadMap_init cd_BadMap_init ct_BadMap_init oc_Map_init kV_Map_init dc_Map_init pm_Map_init cd_Map_init ct_Map_init oc_number_of kV_number_of dc_number_of pm_number_of cd_number_of ct_number_of oc_read kV_read dc_read pm_read cd_read ct_read oc_law_refused kV_law_refused dc_law_refused pm_law_refused cd_law_refused ct_law_refused oc_law kV_law dc_law pm_law cd_law ct_law : Value} {t_FIGURES t_MOST_COST t_MOST_FIGURES t_MOST_PLACES t_MOST_ROADS : Tok} {nm_BadMap qn_BadMap : Str} {N_BadMap : Addr} {bs_BadMap : List Value} {sn_BadMap : List Str} {sub_BadMap : List Value} {ab_BadMap : Bool} {col_BadMap : Option Bool} {dd_BadMap : Option Addr} {m0_BadMap m1_BadMap m2_BadMap m3_BadMap m5_BadMap : Option Value} {nm_BadText qn_BadText : Str} {N_BadText : Addr} {bs_BadText : List Value} {sn_BadText : List Str} {sub_BadText : List Value} {ab_BadText : Bool} {col_BadText : Option Bool} {dd_BadText : Option Addr} {m0_BadText m1_BadText m2_BadText m3_BadText m5_BadText : Option Value}
    (z_ValueError : PySem.W.nsIn K mainGlobals "ValueError" = some none)
    (z_bool : PySem.W.nsIn K mainGlobals "bool" = some none)
    (z_int : PySem.W.nsIn K mainGlobals "int" = some none)
    (z_isinstance : PySem.W.nsIn K mainGlobals "isinstance" = some none)
    (z_len : PySem.W.nsIn K mainGlobals "len" = some none)
    (z_list : PySem.W.nsIn K mainGlobals "list" = some none)
    (z_range : PySem.W.nsIn K mainGlobals "range" = some none)
    (z_str : PySem.W.nsIn K mainGlobals "str" = some none)
    (z_tuple : PySem.W.nsIn K mainGlobals "tuple" = some none)
    (g_FIGURES : PySem.W.nsIn K mainGlobals "FIGURES" = some (some (.str "0123456789" t_FIGURES)))
    (g_MOST_COST : PySem.W.nsIn K mainGlobals "MOST_COST" = some (some (.int 1000000000 t_MOST_COST)))
    (g_MOST_FIGURES : PySem.W.nsIn K mainGlobals "MOST_FIGURES" = some (some (.int 10 t_MOST_FIGURES)))
    (g_MOST_PLACES : PySem.W.nsIn K mainGlobals "MOST_PLACES" = some (some (.int 20 t_MOST_PLACES)))
    (g_MOST_ROADS : PySem.W.nsIn K mainGlobals "MOST_ROADS" = some (some (.int 60 t_MOST_ROADS)))
    (pg_Map : PySem.W.plainGet K a_Map Str.empty = true)
    (hd_Map : PySem.W.hasDictIn K a_Map = true)
    (po_Map : PySem.W.plainOver K a_Map = true)
    (sa_Map : PySem.W.findIn K (.ref a_Map) "__setattr__" = some (some (.builtin "object.__setattr__")))
    (a_Map_many : PySem.W.findIn K (.ref a_Map) "many" = some none)
    (a_Map_root : PySem.W.findIn K (.ref a_Map) "root" = some none)
    (a_Map_rows : PySem.W.findIn K (.ref a_Map) "rows" = some none)
    (g_Map : PySem.W.nsIn K mainGlobals "Map" = some (some (.ref a_Map)))
    (g_BadMap : PySem.W.nsIn K mainGlobals "BadMap" = some (some (.ref a_BadMap)))
    (g_BadText : PySem.W.nsIn K mainGlobals "BadText" = some (some (.ref a_BadText)))
    (g_NoRoad : PySem.W.nsIn K mainGlobals "NoRoad" = some (some (.ref a_NoRoad)))
    (g_NoTree : PySem.W.nsIn K mainGlobals "NoTree" = some (some (.ref a_NoTree)))
    (g_RootError : PySem.W.nsIn K mainGlobals "RootError" = some (some (.ref a_RootError)))
    (xga_RootError : PySem.W.specialIn K (.ref a_RootError) "__getattribute__" = some (some (.builtin "type.__getattribute__")))
    (xty_RootError : PySem.W.typeIn K (.ref a_RootError) = some (.type "type"))
    (xrd_RootError : PySem.W.readsIn K a_RootError (.type "type") = true)
    (xfi_RootError : PySem.W.findCls K (.ref a_RootError) (.type "type") "__init__" = some (.val (.builtin "ValueError.__init__")))
    (l_BadMap : K.lookup a_BadMap = some (PySem.excClassObj nm_BadMap qn_BadMap a_BadMap N_BadMap bs_BadMap [.ref a_RootError, .type "ValueError", .type "Exception", .type "BaseException", .type "object"] true sn_BadMap sub_BadMap ab_BadMap col_BadMap dd_BadMap m0_BadMap m1_BadMap m2_BadMap m3_BadMap m5_BadMap "ValueError.__new__"))
    (sa_BadMap : PySem.W.findIn K (.ref a_BadMap) "__setattr__" = some (some (.builtin "object.__setattr__")))
    (xb_BadMap : PySem.W.subIn K (.ref a_BadMap) (.type "BaseException") = some true)
    (xy_BadMap : PySem.W.typeIn K (.ref a_BadMap) = some (.type "type"))
    (xk_BadMap : PySem.W.keepIn K (.ref a_BadMap) = true)
    (xi_BadMap : PySem.W.findIn K (.ref a_BadMap) "__init__" = some (some (.ref f_BadMap_init)))
    (xt_BadMap : PySem.W.typeIn K (.ref f_BadMap_init) = some (.type "function"))
    (xn_BadMap_at : PySem.W.findIn K (.ref a_BadMap) "at" = some none)
    (xn_BadMap_why : PySem.W.findIn K (.ref a_BadMap) "why" = some none)
    (l_BadText : K.lookup a_BadText = some (PySem.excClassObj nm_BadText qn_BadText a_BadText N_BadText bs_BadText [.ref a_RootError, .type "ValueError", .type "Exception", .type "BaseException", .type "object"] true sn_BadText sub_BadText ab_BadText col_BadText dd_BadText m0_BadText m1_BadText m2_BadText m3_BadText m5_BadText "ValueError.__new__"))
    (sa_BadText : PySem.W.findIn K (.ref a_BadText) "__setattr__" = some (some (.builtin "object.__setattr__")))
    (xb_BadText : PySem.W.subIn K (.ref a_BadText) (.type "BaseException") = some true)
    (xy_BadText : PySem.W.typeIn K (.ref a_BadText) = some (.type "type"))
    (xk_BadText : PySem.W.keepIn K (.ref a_BadText) = true)
    (xi_BadText : PySem.W.findIn K (.ref a_BadText) "__init__" = some (some (.ref f_BadText_init)))
    (xt_BadText : PySem.W.typeIn K (.ref f_BadText_init) = some (.type "function"))
    (xn_BadText_row : PySem.W.findIn K (.ref a_BadText) "row" = some none)
    (cb_RootError : PySem.W.subIn K (.ref a_RootError) (.type "BaseException") = some true)
    (ch_RootError : PySem.W.hasDictIn K a_RootError = true)
    (cy_RootError : PySem.W.typeIn K (.ref a_RootError) = some (.type "type"))
    (se_BadMap_RootError : PySem.W.subIn K (.ref a_BadMap) (.ref a_RootError) = some true)
    (se_BadText_RootError : PySem.W.subIn K (.ref a_BadText) (.ref a_RootError) = some true)
    (fg_BadMap : PySem.W.findIn K (.ref a_BadMap) "__getattribute__" = some (some (.builtin "BaseException.__getattribute__")))
    (fh_BadMap : PySem.W.findIn K (.ref a_BadMap) "__getattr__" = some none)
    (fb_BadMap : PySem.W.subIn K (.ref a_BadMap) (.type "BaseException") = some true)
    (fd_BadMap : PySem.W.hasDictIn K a_BadMap = true)
    (fg_BadText : PySem.W.findIn K (.ref a_BadText) "__getattribute__" = some (some (.builtin "BaseException.__getattribute__")))
    (fh_BadText : PySem.W.findIn K (.ref a_BadText) "__getattr__" = some none)
    (fb_BadText : PySem.W.subIn K (.ref a_BadText) (.type "BaseException") = some true)
    (fd_BadText : PySem.W.hasDictIn K a_BadText = true)
    (eg_BadMap : PySem.W.findIn K (.ref a_BadMap) "__getattribute__" = some (some (.builtin "BaseException.__getattribute__")))
    (eh_BadMap : PySem.W.findIn K (.ref a_BadMap) "__getattr__" = some none)
    (eb_BadMap : PySem.W.subIn K (.ref a_BadMap) (.type "BaseException") = some true)
    (ed_BadMap : PySem.W.hasDictIn K a_BadMap = true)
    (ea_BadMap : PySem.W.findIn K (.ref a_BadMap) "__class__" = some (some (.builtin "object.__class__")))
    (em_BadMap : PySem.W.mroIn K a_BadMap (.type "object") = some true)
    (se_n : PySem.W.specialIn K (.builtin "object.__class__") "__get__" = some (some (.builtin "getset_descriptor.__get__")))
    (se_t : PySem.W.takesIn K (.builtin "object.__class__") = some true)
    (kv_BadMap : PySem.W.subIn K (.ref a_BadMap) (.type "ValueError") = some true)
    (eg_BadText : PySem.W.findIn K (.ref a_BadText) "__getattribute__" = some (some (.builtin "BaseException.__getattribute__")))
    (eh_BadText : PySem.W.findIn K (.ref a_BadText) "__getattr__" = some none)
    (eb_BadText : PySem.W.subIn K (.ref a_BadText) (.type "BaseException") = some true)
    (ed_BadText : PySem.W.hasDictIn K a_BadText = true)
    (ea_BadText : PySem.W.findIn K (.ref a_BadText) "__class__" = some (some (.builtin "object.__class__")))
    (em_BadText : PySem.W.mroIn K a_BadText (.type "object") = some true)
    (kv_BadText : PySem.W.subIn K (.ref a_BadText) (.type "ValueError") = some true)
    (kd_BadMap : PySem.W.hasDictIn K a_BadMap = true)
    (kt_BadMap : PySem.W.typeIn K (.ref a_BadMap) = some (.type "type"))
    (ks_BadMap : PySem.W.subIn K (.ref a_BadMap) (.ref a_BadMap) = some true)
    (kd_BadText : PySem.W.hasDictIn K a_BadText = true)
    (kt_BadText : PySem.W.typeIn K (.ref a_BadText) = some (.type "type"))
    (ks_BadText : PySem.W.subIn K (.ref a_BadText) (.ref a_BadText) = some true)
    (kd_NoRoad : PySem.W.hasDictIn K a_NoRoad = true)
    (kt_NoRoad : PySem.W.typeIn K (.ref a_NoRoad) = some (.type "type"))
    (ks_NoRoad : PySem.W.subIn K (.ref a_NoRoad) (.ref a_NoRoad) = some true)
    (kd_NoTree : PySem.W.hasDictIn K a_NoTree = true)
    (kt_NoTree : PySem.W.typeIn K (.ref a_NoTree) = some (.type "type"))
    (ks_NoTree : PySem.W.subIn K (.ref a_NoTree) (.ref a_NoTree) = some true)
    (ki_BadMap_BadText : PySem.W.subIn K (.ref a_BadMap) (.ref a_BadText) = some false)
    (ki_BadMap_NoRoad : PySem.W.subIn K (.ref a_BadMap) (.ref a_NoRoad) = some false)
    (ki_BadMap_NoTree : PySem.W.subIn K (.ref a_BadMap) (.ref a_NoTree) = some false)
    (ki_BadText_BadMap : PySem.W.subIn K (.ref a_BadText) (.ref a_BadMap) = some false)
    (ki_BadText_NoRoad : PySem.W.subIn K (.ref a_BadText) (.ref a_NoRoad) = some false)
    (ki_BadText_NoTree : PySem.W.subIn K (.ref a_BadText) (.ref a_NoTree) = some false)
    (l_law_dice : K.lookup f_law_dice = some ⟨oc_law_dice, od_law_dice, .func (PySem.W.fnOf "_law_dice" "_law_dice" (defArgs s_law_dice) (defBody s_law_dice) (defScope s_law_dice) .none kV_law_dice dc_law_dice pm_law_dice an_law_dice cd_law_dice ct_law_dice), sl_law_dice⟩)
    (c_law_dice : PySem.W.codeIn K cd_law_dice "_law_dice" = true)
    (k_law_dice : PySem.W.keepIn K (.ref f_law_dice) = true)
    (g_law_dice : PySem.W.nsIn K mainGlobals "_law_dice" = some (some (.ref f_law_dice)))
    (l_law_next : K.lookup f_law_next = some ⟨oc_law_next, od_law_next, .func (PySem.W.fnOf "_law_next" "_law_next" (defArgs s_law_next) (defBody s_law_next) (defScope s_law_next) .none kV_law_next dc_law_next pm_law_next an_law_next cd_law_next ct_law_next), sl_law_next⟩)
    (c_law_next : PySem.W.codeIn K cd_law_next "_law_next" = true)
    (k_law_next : PySem.W.keepIn K (.ref f_law_next) = true)
    (g_law_next : PySem.W.nsIn K mainGlobals "_law_next" = some (some (.ref f_law_next)))
    (l_law_cost : K.lookup f_law_cost = some ⟨oc_law_cost, od_law_cost, .func (PySem.W.fnOf "_law_cost" "_law_cost" (defArgs s_law_cost) (defBody s_law_cost) (defScope s_law_cost) .none kV_law_cost dc_law_cost pm_law_cost an_law_cost cd_law_cost ct_law_cost), sl_law_cost⟩)
    (c_law_cost : PySem.W.codeIn K cd_law_cost "_law_cost" = true)
    (k_law_cost : PySem.W.keepIn K (.ref f_law_cost) = true)
    (g_law_cost : PySem.W.nsIn K mainGlobals "_law_cost" = some (some (.ref f_law_cost)))
    (l_law_map : K.lookup f_law_map = some ⟨oc_law_map, od_law_map, .func (PySem.W.fnOf "_law_map" "_law_map" (defArgs s_law_map) (defBody s_law_map) (defScope s_law_map) .none kV_law_map dc_law_map pm_law_map an_law_map cd_law_map ct_law_map), sl_law_map⟩)
    (c_law_map : PySem.W.codeIn K cd_law_map "_law_map" = true)
    (k_law_map : PySem.W.keepIn K (.ref f_law_map) = true)
    (g_law_map : PySem.W.nsIn K mainGlobals "_law_map" = some (some (.ref f_law_map)))
    (l_law_is : K.lookup f_law_is = some ⟨oc_law_is, od_law_is, .func (PySem.W.fnOf "_law_is" "_law_is" (defArgs s_law_is) (defBody s_law_is) (defScope s_law_is) .none kV_law_is dc_law_is pm_law_is an_law_is cd_law_is ct_law_is), sl_law_is⟩)
    (c_law_is : PySem.W.codeIn K cd_law_is "_law_is" = true)
    (k_law_is : PySem.W.keepIn K (.ref f_law_is) = true)
    (g_law_is : PySem.W.nsIn K mainGlobals "_law_is" = some (some (.ref f_law_is)))
    (l_law_whole : K.lookup f_law_whole = some ⟨oc_law_whole, od_law_whole, .func (PySem.W.fnOf "_law_whole" "_law_whole" (defArgs s_law_whole) (defBody s_law_whole) (defScope s_law_whole) .none kV_law_whole dc_law_whole pm_law_whole an_law_whole cd_law_whole ct_law_whole), sl_law_whole⟩)
    (c_law_whole : PySem.W.codeIn K cd_law_whole "_law_whole" = true)
    (k_law_whole : PySem.W.keepIn K (.ref f_law_whole) = true)
    (g_law_whole : PySem.W.nsIn K mainGlobals "_law_whole" = some (some (.ref f_law_whole)))
    (l_BadText_init : K.lookup f_BadText_init = some ⟨oc_BadText_init, od_BadText_init, .func (PySem.W.fnOf "__init__" "BadText.__init__" (defArgs s_BadText_init) (defBody s_BadText_init) (defScope s_BadText_init) .none kV_BadText_init dc_BadText_init pm_BadText_init an_BadText_init cd_BadText_init ct_BadText_init), sl_BadText_init⟩)
    (c_BadText_init : PySem.W.codeIn K cd_BadText_init "BadText.__init__" = true)
    (k_BadText_init : PySem.W.keepIn K (.ref f_BadText_init) = true)
    (l_BadMap_init : K.lookup f_BadMap_init = some ⟨oc_BadMap_init, od_BadMap_init, .func (PySem.W.fnOf "__init__" "BadMap.__init__" (defArgs s_BadMap_init) (defBody s_BadMap_init) (defScope s_BadMap_init) .none kV_BadMap_init dc_BadMap_init pm_BadMap_init an_BadMap_init cd_BadMap_init ct_BadMap_init), sl_BadMap_init⟩)
    (c_BadMap_init : PySem.W.codeIn K cd_BadMap_init "BadMap.__init__" = true)
    (k_BadMap_init : PySem.W.keepIn K (.ref f_BadMap_init) = true)
    (l_Map_init : K.lookup f_Map_init = some ⟨oc_Map_init, od_Map_init, .func (PySem.W.fnOf "__init__" "Map.__init__" (defArgs s_Map_init) (defBody s_Map_init) (defScope s_Map_init) .none kV_Map_init dc_Map_init pm_Map_init an_Map_init cd_Map_init ct_Map_init), sl_Map_init⟩)
    (c_Map_init : PySem.W.codeIn K cd_Map_init "Map.__init__" = true)
    (k_Map_init : PySem.W.keepIn K (.ref f_Map_init) = true)
    (at_Map_init : PySem.W.findIn K (.ref a_Map) "__init__" = some (some (.ref f_Map_init)))
    (i_Map_init : PySem.W.isFn K (.ref f_Map_init) = true)
    (mk_Map : PySem.W.makesIn K a_Map = true)
    (kc_Map : PySem.W.keepIn K (.ref a_Map) = true)
    (l_number_of : K.lookup f_number_of = some ⟨oc_number_of, od_number_of, .func (PySem.W.fnOf "number_of" "number_of" (defArgs s_number_of) (defBody s_number_of) (defScope s_number_of) .none kV_number_of dc_number_of pm_number_of an_number_of cd_number_of ct_number_of), sl_number_of⟩)
    (c_number_of : PySem.W.codeIn K cd_number_of "number_of" = true)
    (k_number_of : PySem.W.keepIn K (.ref f_number_of) = true)
    (g_number_of : PySem.W.nsIn K mainGlobals "number_of" = some (some (.ref f_number_of)))
    (l_read : K.lookup f_read = some ⟨oc_read, od_read, .func (PySem.W.fnOf "read" "read" (defArgs s_read) (defBody s_read) (defScope s_read) .none kV_read dc_read pm_read an_read cd_read ct_read), sl_read⟩)
    (c_read : PySem.W.codeIn K cd_read "read" = true)
    (k_read : PySem.W.keepIn K (.ref f_read) = true)
    (g_read : PySem.W.nsIn K mainGlobals "read" = some (some (.ref f_read)))
    (l_law_refused : K.lookup f_law_refused = some ⟨oc_law_refused, od_law_refused, .func (PySem.W.fnOf "_law_refused" "_law_refused" (defArgs s_law_refused) (defBody s_law_refused) (defScope s_law_refused) .none kV_law_refused dc_law_refused pm_law_refused an_law_refused cd_law_refused ct_law_refused), sl_law_refused⟩)
    (c_law_refused : PySem.W.codeIn K cd_law_refused "_law_refused" = true)
    (k_law_refused : PySem.W.keepIn K (.ref f_law_refused) = true)
    (g_law_refused : PySem.W.nsIn K mainGlobals "_law_refused" = some (some (.ref f_law_refused)))
    (l_law : K.lookup f_law = some ⟨oc_law, od_law, .func (PySem.W.fnOf "law" "law" (defArgs s_law) (defBody s_law) (defScope s_law) .none kV_law dc_law pm_law an_law cd_law ct_law), sl_law⟩)
    (c_law : PySem.W.codeIn K cd_law "law" = true)
    (k_law : PySem.W.keepIn K (.ref f_law) = true)
    (g_law : PySem.W.nsIn K mainGlobals "law" = some (some (.ref f_law))) :
    ∃ (fd : FuncData) (A : Cs), (∀ (s : Shared) (v : Value), BindsTo s fd ⟨[v], []⟩ [("_law_script", v)]) ∧ ∀ base : Heap, K.In base → base.Ns mainGlobals mg → FnOk l.prog w K mg base (L2N.CX l.prog w) 7 fa fd ["_law_script"] (spD K 1 (run_law A)) := by
  have e := hfa.symm.trans (PySem.W.mg_of X G g_law)
  have e2 : f_law = fa := by
    cases e
    rfl
  subst e2
  have T : Tx K mg (⟨a_Map, 0, 0, a_BadMap, a_NoTree, a_NoRoad, a_BadText, a_RootError, 0, 0, 0, 0, 0⟩ : Cs) (⟨f_law_dice, PySem.W.fnOf "_law_dice" "_law_dice" (defArgs s_law_dice) (defBody s_law_dice) (defScope s_law_dice) .none kV_law_dice dc_law_dice pm_law_dice an_law_dice cd_law_dice ct_law_dice, f_law_next, PySem.W.fnOf "_law_next" "_law_next" (defArgs s_law_next) (defBody s_law_next) (defScope s_law_next) .none kV_law_next dc_law_next pm_law_next an_law_next cd_law_next ct_law_next, f_law_cost, PySem.W.fnOf "_law_cost" "_law_cost" (defArgs s_law_cost) (defBody s_law_cost) (defScope s_law_cost) .none kV_law_cost dc_law_cost pm_law_cost an_law_cost cd_law_cost ct_law_cost, f_law_map, PySem.W.fnOf "_law_map" "_law_map" (defArgs s_law_map) (defBody s_law_map) (defScope s_law_map) .none kV_law_map dc_law_map pm_law_map an_law_map cd_law_map ct_law_map, f_law_is, PySem.W.fnOf "_law_is" "_law_is" (defArgs s_law_is) (defBody s_law_is) (defScope s_law_is) .none kV_law_is dc_law_is pm_law_is an_law_is cd_law_is ct_law_is, f_law_whole, PySem.W.fnOf "_law_whole" "_law_whole" (defArgs s_law_whole) (defBody s_law_whole) (defScope s_law_whole) .none kV_law_whole dc_law_whole pm_law_whole an_law_whole cd_law_whole ct_law_whole, f_BadText_init, PySem.W.fnOf "__init__" "BadText.__init__" (defArgs s_BadText_init) (defBody s_BadText_init) (defScope s_BadText_init) .none kV_BadText_init dc_BadText_init pm_BadText_init an_BadText_init cd_BadText_init ct_BadText_init, f_BadMap_init, PySem.W.fnOf "__init__" "BadMap.__init__" (defArgs s_BadMap_init) (defBody s_BadMap_init) (defScope s_BadMap_init) .none kV_BadMap_init dc_BadMap_init pm_BadMap_init an_BadMap_init cd_BadMap_init ct_BadMap_init, f_Map_init, PySem.W.fnOf "__init__" "Map.__init__" (defArgs s_Map_init) (defBody s_Map_init) (defScope s_Map_init) .none kV_Map_init dc_Map_init pm_Map_init an_Map_init cd_Map_init ct_Map_init, f_number_of, PySem.W.fnOf "number_of" "number_of" (defArgs s_number_of) (defBody s_number_of) (defScope s_number_of) .none kV_number_of dc_number_of pm_number_of an_number_of cd_number_of ct_number_of, f_read, PySem.W.fnOf "read" "read" (defArgs s_read) (defBody s_read) (defScope s_read) .none kV_read dc_read pm_read an_read cd_read ct_read, f_law_refused, PySem.W.fnOf "_law_refused" "_law_refused" (defArgs s_law_refused) (defBody s_law_refused) (defScope s_law_refused) .none kV_law_refused dc_law_refused pm_law_refused an_law_refused cd_law_refused ct_law_refused, f_law, PySem.W.fnOf "law" "law" (defArgs s_law) (defBody s_law) (defScope s_law) .none kV_law dc_law pm_law an_law cd_law ct_law⟩ : Fa) := { n_ValueError := PySem.W.mg_none_of X G z_ValueError, n_bool := PySem.W.mg_none_of X G z_bool, n_int := PySem.W.mg_none_of X G z_int, n_isinstance := PySem.W.mg_none_of X G z_isinstance, n_len := PySem.W.mg_none_of X G z_len, n_list := PySem.W.mg_none_of X G z_list, n_range := PySem.W.mg_none_of X G z_range, n_str := PySem.W.mg_none_of X G z_str, n_tuple := PySem.W.mg_none_of X G z_tuple, g_FIGURES := ⟨_, PySem.W.mg_of X G g_FIGURES⟩, g_MOST_COST := ⟨_, PySem.W.mg_of X G g_MOST_COST⟩, g_MOST_FIGURES := ⟨_, PySem.W.mg_of X G g_MOST_FIGURES⟩, g_MOST_PLACES := ⟨_, PySem.W.mg_of X G g_MOST_PLACES⟩, g_MOST_ROADS := ⟨_, PySem.W.mg_of X G g_MOST_ROADS⟩, c_Map := ⟨pg_Map, hd_Map, po_Map, sa_Map⟩, a_Map_many := a_Map_many, a_Map_root := a_Map_root, a_Map_rows := a_Map_rows, g_BadMap := PySem.W.mg_of X G g_BadMap, g_BadText := PySem.W.mg_of X G g_BadText, g_NoRoad := PySem.W.mg_of X G g_NoRoad, g_NoTree := PySem.W.mg_of X G g_NoTree, g_RootError := PySem.W.mg_of X G g_RootError, base_RootError := ⟨xga_RootError, xty_RootError, xrd_RootError, xfi_RootError⟩, x_BadMap := ⟨⟨_, _, _, _, _, _, _, _, _, _, _, _, _, _, _, l_BadMap, rfl⟩, sa_BadMap, xb_BadMap, xy_BadMap, xk_BadMap⟩, xi_BadMap := xi_BadMap, xt_BadMap := xt_BadMap, xn_BadMap_at := xn_BadMap_at, xn_BadMap_why := xn_BadMap_why, x_BadText := ⟨⟨_, _, _, _, _, _, _, _, _, _, _, _, _, _, _, l_BadText, rfl⟩, sa_BadText, xb_BadText, xy_BadText, xk_BadText⟩, xi_BadText := xi_BadText, xt_BadText := xt_BadText, xn_BadText_row := xn_BadText_row, e_BadMap_RootError := PySem.W.exm_ref cb_RootError ch_RootError cy_RootError se_BadMap_RootError, e_BadText_RootError := PySem.W.exm_ref cb_RootError ch_RootError cy_RootError se_BadText_RootError, xf_BadMap := ⟨fg_BadMap, fh_BadMap, fb_BadMap, fd_BadMap⟩, xf_BadText := ⟨fg_BadText, fh_BadText, fb_BadText, fd_BadText⟩, exc_BadMap := ⟨eg_BadMap, eh_BadMap, eb_BadMap, ed_BadMap, ea_BadMap, se_n, se_t, em_BadMap⟩, kv_BadMap := kv_BadMap, exc_BadText := ⟨eg_BadText, eh_BadText, eb_BadText, ed_BadText, ea_BadText, se_n, se_t, em_BadText⟩, kv_BadText := kv_BadText, kd_BadMap := kd_BadMap, kt_BadMap := kt_BadMap, ks_BadMap := ks_BadMap, kd_BadText := kd_BadText, kt_BadText := kt_BadText, ks_BadText := ks_BadText, kd_NoRoad := kd_NoRoad, kt_NoRoad := kt_NoRoad, ks_NoRoad := ks_NoRoad, kd_NoTree := kd_NoTree, kt_NoTree := kt_NoTree, ks_NoTree := ks_NoTree, ki_BadMap_BadText := ki_BadMap_BadText, ki_BadMap_NoRoad := ki_BadMap_NoRoad, ki_BadMap_NoTree := ki_BadMap_NoTree, ki_BadText_BadMap := ki_BadText_BadMap, ki_BadText_NoRoad := ki_BadText_NoRoad, ki_BadText_NoTree := ki_BadText_NoTree, F_law_dice := fun_mk (st := s_law_dice) l_law_dice c_law_dice k_law_dice, b_law_dice := (fun_mk (st := s_law_dice) l_law_dice c_law_dice k_law_dice).binds (ps := ["_law_script"]) fun _ _ _ _ _ _ us hl => match us, hl with | [_], _ => rfl, g_law_dice := PySem.W.mg_of X G g_law_dice, k_law_dice := k_law_dice, F_law_next := fun_mk (st := s_law_next) l_law_next c_law_next k_law_next, b_law_next := (fun_mk (st := s_law_next) l_law_next c_law_next k_law_next).binds (ps := ["_law_dice_here", "_law_many"]) fun _ _ _ _ _ _ us hl => match us, hl with | [_, _], _ => rfl, g_law_next := PySem.W.mg_of X G g_law_next, k_law_next := k_law_next, F_law_cost := fun_mk (st := s_law_cost) l_law_cost c_law_cost k_law_cost, b_law_cost := (fun_mk (st := s_law_cost) l_law_cost c_law_cost k_law_cost).binds (ps := ["_law_d"]) fun _ _ _ _ _ _ us hl => match us, hl with | [_], _ => rfl, g_law_cost := PySem.W.mg_of X G g_law_cost, k_law_cost := k_law_cost, F_law_map := fun_mk (st := s_law_map) l_law_map c_law_map k_law_map, b_law_map := (fun_mk (st := s_law_map) l_law_map c_law_map k_law_map).binds (ps := ["_law_d", "_law_places", "_law_roads"]) fun _ _ _ _ _ _ us hl => match us, hl with | [_, _, _], _ => rfl, g_law_map := PySem.W.mg_of X G g_law_map, k_law_map := k_law_map, F_law_is := fun_mk (st := s_law_is) l_law_is c_law_is k_law_is, b_law_is := (fun_mk (st := s_law_is) l_law_is c_law_is k_law_is).binds (ps := ["_law_e", "_law_word"]) fun _ _ _ _ _ _ us hl => match us, hl with | [_, _], _ => rfl, g_law_is := PySem.W.mg_of X G g_law_is, k_law_is := k_law_is, F_law_whole := fun_mk (st := s_law_whole) l_law_whole c_law_whole k_law_whole, b_law_whole := (fun_mk (st := s_law_whole) l_law_whole c_law_whole k_law_whole).binds (ps := ["_law_found"]) fun _ _ _ _ _ _ us hl => match us, hl with | [_], _ => rfl, g_law_whole := PySem.W.mg_of X G g_law_whole, k_law_whole := k_law_whole, F_BadText_init := fun_mk (st := s_BadText_init) l_BadText_init c_BadText_init k_BadText_init, b_BadText_init := (fun_mk (st := s_BadText_init) l_BadText_init c_BadText_init k_BadText_init).binds (ps := ["self", "row"]) fun _ _ _ _ _ _ us hl => match us, hl with | [_, _], _ => rfl, F_BadMap_init := fun_mk (st := s_BadMap_init) l_BadMap_init c_BadMap_init k_BadMap_init, b_BadMap_init := (fun_mk (st := s_BadMap_init) l_BadMap_init c_BadMap_init k_BadMap_init).binds (ps := ["self", "at", "why"]) fun _ _ _ _ _ _ us hl => match us, hl with | [_, _, _], _ => rfl, F_Map_init := fun_mk (st := s_Map_init) l_Map_init c_Map_init k_Map_init, b_Map_init := (fun_mk (st := s_Map_init) l_Map_init c_Map_init k_Map_init).binds (ps := ["self", "many", "root", "roads"]) fun _ _ _ _ _ _ us hl => match us, hl with | [_, _, _, _], _ => rfl, m_Map := ⟨mk_Map, at_Map_init, i_Map_init, kc_Map⟩, g_Map := PySem.W.mg_of X G g_Map, F_number_of := fun_mk (st := s_number_of) l_number_of c_number_of k_number_of, b_number_of := (fun_mk (st := s_number_of) l_number_of c_number_of k_number_of).binds (ps := ["word", "row"]) fun _ _ _ _ _ _ us hl => match us, hl with | [_, _], _ => rfl, g_number_of := PySem.W.mg_of X G g_number_of, k_number_of := k_number_of, F_read := fun_mk (st := s_read) l_read c_read k_read, b_read := (fun_mk (st := s_read) l_read c_read k_read).binds (ps := ["text"]) fun _ _ _ _ _ _ us hl => match us, hl with | [_], _ => rfl, g_read := PySem.W.mg_of X G g_read, k_read := k_read, F_law_refused := fun_mk (st := s_law_refused) l_law_refused c_law_refused k_law_refused, b_law_refused := (fun_mk (st := s_law_refused) l_law_refused c_law_refused k_law_refused).binds (ps := ["_law_rows", "_law_word", "_law_at", "_law_why"]) fun _ _ _ _ _ _ us hl => match us, hl with | [_, _, _, _], _ => rfl, g_law_refused := PySem.W.mg_of X G g_law_refused, k_law_refused := k_law_refused, F_law := fun_mk (st := s_law) l_law c_law k_law, b_law := (fun_mk (st := s_law) l_law c_law k_law).binds (ps := ["_law_script"]) fun _ _ _ _ _ _ us hl => match us, hl with | [_], _ => rfl, g_law := PySem.W.mg_of X G g_law, k_law := k_law }
  exact ⟨_, _, fun s v => .of_eq rfl, fun base _ _ => ok_law T⟩
end LL
namespace LL
open PySem L2 DW Ed
local macro_rules | `(tactic| get_elem_tactic_extensible) => `(tactic| simp -failIfUnchanged only [shut_eq, dSeq, dSet, dRet, dExpr, dIfS, dNil, dIf, dTst, dBin, dUn, dVar, dC, dAnd, dOr, dNot, dAndV, dOrV, dNotV, dChain, dANil, dACons, dLst, dTup, dFld, dAsg, dgN, dSetIx, dLM, hasL, atL, dSetF, dCall, dCallR, hasO, dMeth, dMake, run_eq, dEnd_nx, dEnd_rt, dEnd_ex, outS, dLc, dLcG, dLcR, dFor, dForG, dForR, wipeD, backD, dYes, fLt, fLe, fGt, fGe, fEq, fNe, fIn, fNotIn, eqv_int, at_0, at_1, at_2, at_3, ix_0, ix_1, ix_2, ix_3, List.getElem?_cons_zero, List.getElem?_cons_succ, List.set_cons_zero, List.set_cons_succ, List.cons_append, List.nil_append, List.replicate_succ, List.replicate_zero, List.map_cons, List.map_nil, List.take_succ_cons, List.take_zero, List.length_cons, List.length_nil, List.take, List.length_set, pk_d, pk_fr, pk_sl, stab_d, stab_fr, stab_sl, fz_d, fz_fr, fz_sl, toD_l, toD_i, toD_k, re_rf, re_ow, store_d, store_fr, store_sl, outV_d, outV_fr, outV_sl, items_l, items_t, items_s, rng_1, rng_2, dgT_t, setAll_0, setAll_s, putR_rf, madeQ_n, fAdd_i, fAdd_l, fSub_i, fMul_i, fDiv_i, fMod_i, fPow_i, fNeg_i, fAbs_i, fCmp_i, fIn_l, fNotIn_l, fIx_l, fIx_t, fIx_s, fLen_l, fLen_t, fLen_s, fInt_i, fInt_b, fList_l, fList_t, fIsN_n, fNotN_n, isN_i, gAppend_1, gPop_c, fFld_i, fRev_l, pl_i, fIsi_i, fIsi_b, fIsi_n, fIsi_l, fIsi_t, List.length_map, anyI, pl_ints, if_false_t, dVw, dToM, dSetFM, dLMM, dMethM, dCallM, dMakeM, atM, backM, backO, tkAt, dForT, dLcT, dSetKT, hasT, dDictT, dMem, dRaise, dRaise0, mk1, mk2, dTry, dTryAs, dExcF, noEx, dSl, dPart, dNoPart, pk_me, stab_me, fz_me, store_me, outV_me, mem_un, mem_d, mem_ow, mem_rf, mem_mm, toD_t, keyT_node, madeE, madeQ, keepD_d, keepD_un, keepD_ow, keepD_rf, keepD_mm, dDict0, dSetK, hasK, atK, dGet2, keyD_i, dOutM, dCallL, dMakeR, mkSl, rfAt, madeR, madeRE, List.cons_append, List.nil_append, dCallX, dIsX, dLcH, dLcE, vw1, vw2, bare, dListR, dListR2, dForK, dkAt, dPar2, dPar3, keyD_i, dMethR, dMethP, dCallP, lentQ, noS, dSettle, dSetKM, dPopK, dStrM, dForS, dSortK, dOutT, outL, dLcI, dForI, dEnum, dZip, dgTD, dgCons, dgNil, dgIx, dSlM, dLI, fDivW_i, fDictP, Nat.reduceAdd])
def arcO (A : Cs) (a : PA) : OO := .i A.Arc [("tail", nodeD a.t), ("goal", nodeD a.g), ("left", .int a.l), ("road", .int a.r)]
def foO (A : Cs) (root : List Int) (pp : Addr) : OO := .i A.Folder [("root", nodeD root), ("prices", .ptr pp)]
def priceD (q : List Int × Int) : D := .tup [nodeD q.1, .int q.2]
section
variable {A : Cs} {a : PA} {root : List Int} {pp : Addr} {kv : DV → Prop}
theorem fl_t : fFld A.Arc "tail" (arcO A a).toD kv = kv (.d (nodeD a.t)) := by
  show (A.Arc = A.Arc ∧ kv (.d (nodeD a.t))) = _
  simp
theorem fl_g : fFld A.Arc "goal" (arcO A a).toD kv = kv (.d (nodeD a.g)) := by
  show (A.Arc = A.Arc ∧ kv (.d (nodeD a.g))) = _
  simp
theorem fl_l : fFld A.Arc "left" (arcO A a).toD kv = kv (.d (.int a.l)) := by
  show (A.Arc = A.Arc ∧ kv (.d (.int a.l))) = _
  simp
theorem fl_r : fFld A.Arc "road" (arcO A a).toD kv = kv (.d (.int a.r)) := by
  show (A.Arc = A.Arc ∧ kv (.d (.int a.r))) = _
  simp
theorem fl_root : fFld A.Folder "root" (foO A root pp).toD kv = kv (.d (nodeD root)) := by
  show (A.Folder = A.Folder ∧ kv (.d (nodeD root))) = _
  simp
theorem fl_pr : fFld A.Folder "prices" (foO A root pp).toD kv = kv (.d (.ptr pp)) := by
  show (A.Folder = A.Folder ∧ kv (.d (.ptr pp))) = _
  simp
end
/-- the memory of the folding -/
structure Mem (A : Cs) (μ : List (Addr × OO)) (pF pp : Addr) (root : List Int) (pr : List (List Int × Int)) (as : List (Addr × PA)) : Prop where
  fo : μ.lookup pF = some (foO A root pp)
  pr : μ.lookup pp = some (.l (pr.map priceD))
  ar : ∀ x, x ∈ as → μ.lookup x.1 = some (arcO A x.2)
  nd : (as.map Prod.fst).Nodup
  np : ∀ x, x ∈ as → x.1 ≠ pp ∧ x.1 ≠ pF
  ne : pF ≠ pp
theorem setL (A : Cs) (a : PA) (v : Int) : (match (arcO A a) with | .i C fs => OO.i C (putFD "left" (.int v) fs) | o => o) = arcO A { a with l := v } := rfl
end LL
namespace LL
open PySem L2 DW
local macro_rules | `(tactic| get_elem_tactic_extensible) => `(tactic| simp -failIfUnchanged only [shut_eq, dSeq, dSet, dRet, dExpr, dIfS, dNil, dIf, dTst, dBin, dUn, dVar, dC, dAnd, dOr, dNot, dAndV, dOrV, dNotV, dChain, dANil, dACons, dLst, dTup, dFld, dAsg, dgN, dSetIx, dLM, hasL, atL, dSetF, dCall, dCallR, hasO, dMeth, dMake, run_eq, dEnd_nx, dEnd_rt, dEnd_ex, outS, dLc, dLcG, dLcR, dFor, dForG, dForR, wipeD, backD, dYes, fLt, fLe, fGt, fGe, fEq, fNe, fIn, fNotIn, eqv_int, at_0, at_1, at_2, at_3, ix_0, ix_1, ix_2, ix_3, List.getElem?_cons_zero, List.getElem?_cons_succ, List.set_cons_zero, List.set_cons_succ, List.cons_append, List.nil_append, List.replicate_succ, List.replicate_zero, List.map_cons, List.map_nil, List.take_succ_cons, List.take_zero, List.length_cons, List.length_nil, List.take, List.length_set, pk_d, pk_fr, pk_sl, stab_d, stab_fr, stab_sl, fz_d, fz_fr, fz_sl, toD_l, toD_i, toD_k, re_rf, re_ow, store_d, store_fr, store_sl, outV_d, outV_fr, outV_sl, items_l, items_t, items_s, rng_1, rng_2, dgT_t, setAll_0, setAll_s, putR_rf, madeQ_n, fAdd_i, fAdd_l, fSub_i, fMul_i, fDiv_i, fMod_i, fPow_i, fNeg_i, fAbs_i, fCmp_i, fIn_l, fNotIn_l, fIx_l, fIx_t, fIx_s, fLen_l, fLen_t, fLen_s, fInt_i, fInt_b, fList_l, fList_t, fIsN_n, fNotN_n, isN_i, gAppend_1, gPop_c, fFld_i, fRev_l, pl_i, fIsi_i, fIsi_b, fIsi_n, fIsi_l, fIsi_t, List.length_map, anyI, pl_ints, if_false_t, dVw, dToM, dSetFM, dLMM, dMethM, dCallM, dMakeM, atM, backM, backO, tkAt, dForT, dLcT, dSetKT, hasT, dDictT, dMem, dRaise, dRaise0, mk1, mk2, dTry, dTryAs, dExcF, noEx, dSl, dPart, dNoPart, pk_me, stab_me, fz_me, store_me, outV_me, mem_un, mem_d, mem_ow, mem_rf, mem_mm, toD_t, keyT_node, madeE, madeQ, keepD_d, keepD_un, keepD_ow, keepD_rf, keepD_mm, dDict0, dSetK, hasK, atK, dGet2, keyD_i, dOutM, dCallL, dMakeR, mkSl, rfAt, madeR, madeRE, List.cons_append, List.nil_append, dCallX, dIsX, dLcH, dLcE, vw1, vw2, bare, dListR, dListR2, dForK, dkAt, dPar2, dPar3, keyD_i, dMethR, dMethP, dCallP, lentQ, noS, dSettle, dSetKM, dPopK, dStrM, dForS, dSortK, dOutT, outL, dLcI, dForI, dEnum, dZip, dgTD, dgCons, dgNil, dgIx, dSlM, dLI, fDivW_i, fDictP, Nat.reduceAdd])
/-- the dice: script, how far, mixed, rest -/
abbrev diceL (ns : List Int) (i m r : Int) : List D := [.scr ns, .int i, .int m, .int r]
theorem fmod_lt {a b : Int} (h : 0 < b) : 0 ≤ a.fmod b ∧ a.fmod b < b := ⟨Int.fmod_nonneg_of_pos a h, Int.fmod_lt_of_pos a h⟩
theorem next_ok {A : Cs} {ns : List Int} {i m r many : Int} {Q : DV → List SV → Prop} {E : DExc → List SV → Prop} (hi : 0 ≤ i) (hm : 0 < many) (hb : many < 1073741824)
    (k : ∀ v i' m' r' : Int, 0 ≤ i' → 0 ≤ v → v < many → Q (.d (.int v)) [.rf (.l (diceL ns i' m' r')), .un]) : run_law_next A [.rf (.l (diceL ns i m r)), .d (.int many)] Q E := by
  unfold run_law_next b_law_next r_law_next_2 r_law_next_1
  simp only [shut_eq, dSeq, dSet, dRet, dExpr, dIfS, dNil, dIf, dTst, dBin, dUn, dVar, dC, dAnd, dOr, dNot, dAndV, dOrV, dNotV, dChain, dANil, dACons, dLst, dTup, dFld, dAsg, dgN, dSetIx, dLM, hasL, atL, dSetF, dCall, dCallR, hasO, dMeth, dMake, run_eq, dEnd_nx, dEnd_rt, dEnd_ex, outS, dLc, dLcG, dLcR, dFor, dForG, dForR, wipeD, backD, dYes, fLt, fLe, fGt, fGe, fEq, fNe, fIn, fNotIn, eqv_int, at_0, at_1, at_2, at_3, ix_0, ix_1, ix_2, ix_3, List.getElem?_cons_zero, List.getElem?_cons_succ, List.set_cons_zero, List.set_cons_succ, List.cons_append, List.nil_append, List.replicate_succ, List.replicate_zero, List.map_cons, List.map_nil, List.take_succ_cons, List.take_zero, List.length_cons, List.length_nil, List.take, List.length_set, pk_d, pk_fr, pk_sl, stab_d, stab_fr, stab_sl, fz_d, fz_fr, fz_sl, toD_l, toD_i, toD_k, re_rf, re_ow, store_d, store_fr, store_sl, outV_d, outV_fr, outV_sl, items_l, items_t, items_s, rng_1, rng_2, dgT_t, setAll_0, setAll_s, putR_rf, madeQ_n, fAdd_i, fAdd_l, fSub_i, fMul_i, fDiv_i, fMod_i, fPow_i, fNeg_i, fAbs_i, fCmp_i, fIn_l, fNotIn_l, fIx_l, fIx_t, fIx_s, fLen_l, fLen_t, fLen_s, fInt_i, fInt_b, fList_l, fList_t, fIsN_n, fNotN_n, isN_i, gAppend_1, gPop_c, fFld_i, fRev_l, pl_i, fIsi_i, fIsi_b, fIsi_n, fIsi_l, fIsi_t, List.length_map, anyI, pl_ints, if_false_t, dVw, dToM, dSetFM, dLMM, dMethM, dCallM, dMakeM, atM, backM, backO, tkAt, dForT, dLcT, dSetKT, hasT, dDictT, dMem, dRaise, dRaise0, mk1, mk2, dTry, dTryAs, dExcF, noEx, dSl, dPart, dNoPart, pk_me, stab_me, fz_me, store_me, outV_me, mem_un, mem_d, mem_ow, mem_rf, mem_mm, toD_t, keyT_node, madeE, madeQ, keepD_d, keepD_un, keepD_ow, keepD_rf, keepD_mm, dDict0, dSetK, hasK, atK, dGet2, keyD_i, dOutM, dCallL, dMakeR, mkSl, rfAt, madeR, madeRE, List.cons_append, List.nil_append, dCallX, dIsX, dLcH, dLcE, vw1, vw2, bare, dListR, dListR2, dForK, dkAt, dPar2, dPar3, keyD_i, dMethR, dMethP, dCallP, lentQ, noS, dSettle, dSetKM, dPopK, dStrM, dForS, dSortK, dOutT, outL, dLcI, dForI, dEnum, dZip, dgTD, dgCons, dgNil, dgIx, dSlM, dLI, fDivW_i, fDictP, Nat.reduceAdd]
  have hm0 : many ≠ 0 := by omega
  have hmb : many ≠ 0 ∧ many.natAbs < 1073741824 := ⟨hm0, by omega⟩
  by_cases h : 0 < r
  · rw [if_pos (decide_eq_true h)]
    exact ⟨hm0, by decide, .inl hmb, trivial, k _ _ _ _ hi (fmod_lt hm).1 (fmod_lt hm).2⟩
  · rw [if_neg (by simpa using h)]
    refine ⟨trivial, ?_⟩
    by_cases h2 : i + 1 ≤ (ns.length : Int)
    · rw [if_pos (decide_eq_true h2)]
      obtain ⟨n, rfl⟩ := Int.eq_ofNat_of_zero_le hi
      have hn : n < ns.length := by omega
      have e : L2.atI ns ((n : Int) + 1 - 1) = some ns[n] := by
        rw [Int.add_sub_cancel, at_nat, List.getElem?_eq_getElem hn]
      rw [e]
      refine ⟨by decide, by decide, by decide, by decide, ?_⟩
      by_cases h3 : (10 : Int) ^ Int.toNat 18 ≤ ns[n]
      · rw [if_pos (decide_eq_true h3)]
        exact ⟨.inl hmb, trivial, hm0, k _ _ _ _ (by omega) (fmod_lt hm).1 (fmod_lt hm).2⟩
      · rw [if_neg (by simpa using h3)]
        exact ⟨trivial, hm0, k _ _ _ _ (by omega) (fmod_lt hm).1 (fmod_lt hm).2⟩
    · rw [if_neg (by simpa using h2)]
      exact ⟨.inr (.inl (by decide)), by decide, trivial, .inl ⟨by decide, by decide⟩, hm0, k _ _ _ _ (by omega) (fmod_lt hm).1 (fmod_lt hm).2⟩
/-- any dice -/
def IsDice (ns : List Int) (o : OO) : Prop := ∃ i m r : Int, 0 ≤ i ∧ o = .l (diceL ns i m r)
theorem next_any {A : Cs} {ns : List Int} {o : OO} {many : Int} {Q : DV → List SV → Prop} {E : DExc → List SV → Prop} (ho : IsDice ns o) (hm : 0 < many) (hb : many < 1073741824)
    (k : ∀ (v : Int) (o' : OO), IsDice ns o' → 0 ≤ v → v < many → Q (.d (.int v)) [.rf o', .un]) : run_law_next A [.rf o, .d (.int many)] Q E := by
  obtain ⟨i, m, r, hi, rfl⟩ := ho
  exact next_ok hi hm hb fun v i' m' r' h1 h2 h3 => k v _ ⟨i', m', r', h1, rfl⟩ h2 h3
theorem cost_any {A : Cs} {ns : List Int} {o : OO} {Q : DV → List SV → Prop} {E : DExc → List SV → Prop} (ho : IsDice ns o)
    (k : ∀ (v : Int) (o' : OO), IsDice ns o' → 0 ≤ v → v ≤ 1000000000 → Q (.d (.int v)) [.rf o']) : run_law_cost A [.rf o] Q E := by
  unfold run_law_cost b_law_cost r_law_cost_1
  simp only [shut_eq, dSeq, dSet, dRet, dExpr, dIfS, dNil, dIf, dTst, dBin, dUn, dVar, dC, dAnd, dOr, dNot, dAndV, dOrV, dNotV, dChain, dANil, dACons, dLst, dTup, dFld, dAsg, dgN, dSetIx, dLM, hasL, atL, dSetF, dCall, dCallR, hasO, dMeth, dMake, run_eq, dEnd_nx, dEnd_rt, dEnd_ex, outS, dLc, dLcG, dLcR, dFor, dForG, dForR, wipeD, backD, dYes, fLt, fLe, fGt, fGe, fEq, fNe, fIn, fNotIn, eqv_int, at_0, at_1, at_2, at_3, ix_0, ix_1, ix_2, ix_3, List.getElem?_cons_zero, List.getElem?_cons_succ, List.set_cons_zero, List.set_cons_succ, List.cons_append, List.nil_append, List.replicate_succ, List.replicate_zero, List.map_cons, List.map_nil, List.take_succ_cons, List.take_zero, List.length_cons, List.length_nil, List.take, List.length_set, pk_d, pk_fr, pk_sl, stab_d, stab_fr, stab_sl, fz_d, fz_fr, fz_sl, toD_l, toD_i, toD_k, re_rf, re_ow, store_d, store_fr, store_sl, outV_d, outV_fr, outV_sl, items_l, items_t, items_s, rng_1, rng_2, dgT_t, setAll_0, setAll_s, putR_rf, madeQ_n, fAdd_i, fAdd_l, fSub_i, fMul_i, fDiv_i, fMod_i, fPow_i, fNeg_i, fAbs_i, fCmp_i, fIn_l, fNotIn_l, fIx_l, fIx_t, fIx_s, fLen_l, fLen_t, fLen_s, fInt_i, fInt_b, fList_l, fList_t, fIsN_n, fNotN_n, isN_i, gAppend_1, gPop_c, fFld_i, fRev_l, pl_i, fIsi_i, fIsi_b, fIsi_n, fIsi_l, fIsi_t, List.length_map, anyI, pl_ints, if_false_t, dVw, dToM, dSetFM, dLMM, dMethM, dCallM, dMakeM, atM, backM, backO, tkAt, dForT, dLcT, dSetKT, hasT, dDictT, dMem, dRaise, dRaise0, mk1, mk2, dTry, dTryAs, dExcF, noEx, dSl, dPart, dNoPart, pk_me, stab_me, fz_me, store_me, outV_me, mem_un, mem_d, mem_ow, mem_rf, mem_mm, toD_t, keyT_node, madeE, madeQ, keepD_d, keepD_un, keepD_ow, keepD_rf, keepD_mm, dDict0, dSetK, hasK, atK, dGet2, keyD_i, dOutM, dCallL, dMakeR, mkSl, rfAt, madeR, madeRE, List.cons_append, List.nil_append, dCallX, dIsX, dLcH, dLcE, vw1, vw2, bare, dListR, dListR2, dForK, dkAt, dPar2, dPar3, keyD_i, dMethR, dMethP, dCallP, lentQ, noS, dSettle, dSetKM, dPopK, dStrM, dForS, dSortK, dOutT, outL, dLcI, dForI, dEnum, dZip, dgTD, dgCons, dgNil, dgIx, dSlM, dLI, fDivW_i, fDictP, Nat.reduceAdd]
  refine ⟨trivial, trivial, next_any ho (by decide) (by decide) fun v o1 h1 h2 h3 => ?_⟩
  simp only [shut_eq, dSeq, dSet, dRet, dExpr, dIfS, dNil, dIf, dTst, dBin, dUn, dVar, dC, dAnd, dOr, dNot, dAndV, dOrV, dNotV, dChain, dANil, dACons, dLst, dTup, dFld, dAsg, dgN, dSetIx, dLM, hasL, atL, dSetF, dCall, dCallR, hasO, dMeth, dMake, run_eq, dEnd_nx, dEnd_rt, dEnd_ex, outS, dLc, dLcG, dLcR, dFor, dForG, dForR, wipeD, backD, dYes, fLt, fLe, fGt, fGe, fEq, fNe, fIn, fNotIn, eqv_int, at_0, at_1, at_2, at_3, ix_0, ix_1, ix_2, ix_3, List.getElem?_cons_zero, List.getElem?_cons_succ, List.set_cons_zero, List.set_cons_succ, List.cons_append, List.nil_append, List.replicate_succ, List.replicate_zero, List.map_cons, List.map_nil, List.take_succ_cons, List.take_zero, List.length_cons, List.length_nil, List.take, List.length_set, pk_d, pk_fr, pk_sl, stab_d, stab_fr, stab_sl, fz_d, fz_fr, fz_sl, toD_l, toD_i, toD_k, re_rf, re_ow, store_d, store_fr, store_sl, outV_d, outV_fr, outV_sl, items_l, items_t, items_s, rng_1, rng_2, dgT_t, setAll_0, setAll_s, putR_rf, madeQ_n, fAdd_i, fAdd_l, fSub_i, fMul_i, fDiv_i, fMod_i, fPow_i, fNeg_i, fAbs_i, fCmp_i, fIn_l, fNotIn_l, fIx_l, fIx_t, fIx_s, fLen_l, fLen_t, fLen_s, fInt_i, fInt_b, fList_l, fList_t, fIsN_n, fNotN_n, isN_i, gAppend_1, gPop_c, fFld_i, fRev_l, pl_i, fIsi_i, fIsi_b, fIsi_n, fIsi_l, fIsi_t, List.length_map, anyI, pl_ints, if_false_t, dVw, dToM, dSetFM, dLMM, dMethM, dCallM, dMakeM, atM, backM, backO, tkAt, dForT, dLcT, dSetKT, hasT, dDictT, dMem, dRaise, dRaise0, mk1, mk2, dTry, dTryAs, dExcF, noEx, dSl, dPart, dNoPart, pk_me, stab_me, fz_me, store_me, outV_me, mem_un, mem_d, mem_ow, mem_rf, mem_mm, toD_t, keyT_node, madeE, madeQ, keepD_d, keepD_un, keepD_ow, keepD_rf, keepD_mm, dDict0, dSetK, hasK, atK, dGet2, keyD_i, dOutM, dCallL, dMakeR, mkSl, rfAt, madeR, madeRE, List.cons_append, List.nil_append, dCallX, dIsX, dLcH, dLcE, vw1, vw2, bare, dListR, dListR2, dForK, dkAt, dPar2, dPar3, keyD_i, dMethR, dMethP, dCallP, lentQ, noS, dSettle, dSetKM, dPopK, dStrM, dForS, dSortK, dOutT, outL, dLcI, dForI, dEnum, dZip, dgTD, dgCons, dgNil, dgIx, dSlM, dLI, fDivW_i, fDictP, Nat.reduceAdd]
  refine ⟨by decide, ?_⟩
  by_cases h : v < 4
  · rw [if_pos (decide_eq_true h)]
    refine ⟨trivial, .inl (by decide), trivial, next_any h1 (by omega) (by omega) fun v o2 h4 h5 h6 => ?_⟩
    exact k _ _ h4 h5 (by omega)
  · rw [if_neg (by simpa using h)]
    refine ⟨trivial, by decide, by decide, by decide, by decide, ?_⟩
    have e : v = 4 ∨ v = 5 := by omega
    rcases e with rfl | rfl
    · exact ⟨trivial, next_any h1 (by decide) (by decide) fun v o2 h4 h5 h6 => k _ _ h4 h5 (by omega)⟩
    · exact ⟨trivial, next_any h1 (by decide) (by decide) fun v o2 h4 h5 h6 => k _ _ h4 h5 (Int.lt_add_one_iff.mp h6)⟩
/-! maps -/
def GoodRoad (many : Int) (r : Road) : Prop := 0 ≤ r.1 ∧ r.1 < many ∧ 0 ≤ r.2.1 ∧ r.2.1 < many ∧ r.1 ≠ r.2.1 ∧ 0 ≤ r.2.2 ∧ r.2.2 ≤ 1000000000
theorem dice_any {A : Cs} {ns : List Int} {Q : DV → List SV → Prop} {E : DExc → List SV → Prop} (k : ∀ o, IsDice ns o → Q (.fr o) [.un]) : run_law_dice A [.d (.scr ns)] Q E := by
  unfold run_law_dice b_law_dice
  simp only [shut_eq, dSeq, dSet, dRet, dExpr, dIfS, dNil, dIf, dTst, dBin, dUn, dVar, dC, dAnd, dOr, dNot, dAndV, dOrV, dNotV, dChain, dANil, dACons, dLst, dTup, dFld, dAsg, dgN, dSetIx, dLM, hasL, atL, dSetF, dCall, dCallR, hasO, dMeth, dMake, run_eq, dEnd_nx, dEnd_rt, dEnd_ex, outS, dLc, dLcG, dLcR, dFor, dForG, dForR, wipeD, backD, dYes, fLt, fLe, fGt, fGe, fEq, fNe, fIn, fNotIn, eqv_int, at_0, at_1, at_2, at_3, ix_0, ix_1, ix_2, ix_3, List.getElem?_cons_zero, List.getElem?_cons_succ, List.set_cons_zero, List.set_cons_succ, List.cons_append, List.nil_append, List.replicate_succ, List.replicate_zero, List.map_cons, List.map_nil, List.take_succ_cons, List.take_zero, List.length_cons, List.length_nil, List.take, List.length_set, pk_d, pk_fr, pk_sl, stab_d, stab_fr, stab_sl, fz_d, fz_fr, fz_sl, toD_l, toD_i, toD_k, re_rf, re_ow, store_d, store_fr, store_sl, outV_d, outV_fr, outV_sl, items_l, items_t, items_s, rng_1, rng_2, dgT_t, setAll_0, setAll_s, putR_rf, madeQ_n, fAdd_i, fAdd_l, fSub_i, fMul_i, fDiv_i, fMod_i, fPow_i, fNeg_i, fAbs_i, fCmp_i, fIn_l, fNotIn_l, fIx_l, fIx_t, fIx_s, fLen_l, fLen_t, fLen_s, fInt_i, fInt_b, fList_l, fList_t, fIsN_n, fNotN_n, isN_i, gAppend_1, gPop_c, fFld_i, fRev_l, pl_i, fIsi_i, fIsi_b, fIsi_n, fIsi_l, fIsi_t, List.length_map, anyI, pl_ints, if_false_t, dVw, dToM, dSetFM, dLMM, dMethM, dCallM, dMakeM, atM, backM, backO, tkAt, dForT, dLcT, dSetKT, hasT, dDictT, dMem, dRaise, dRaise0, mk1, mk2, dTry, dTryAs, dExcF, noEx, dSl, dPart, dNoPart, pk_me, stab_me, fz_me, store_me, outV_me, mem_un, mem_d, mem_ow, mem_rf, mem_mm, toD_t, keyT_node, madeE, madeQ, keepD_d, keepD_un, keepD_ow, keepD_rf, keepD_mm, dDict0, dSetK, hasK, atK, dGet2, keyD_i, dOutM, dCallL, dMakeR, mkSl, rfAt, madeR, madeRE, List.cons_append, List.nil_append, dCallX, dIsX, dLcH, dLcE, vw1, vw2, bare, dListR, dListR2, dForK, dkAt, dPar2, dPar3, keyD_i, dMethR, dMethP, dCallP, lentQ, noS, dSettle, dSetKM, dPopK, dStrM, dForS, dSortK, dOutT, outL, dLcI, dForI, dEnum, dZip, dgTD, dgCons, dgNil, dgIx, dSlM, dLI, fDivW_i, fDictP, Nat.reduceAdd]
  refine ⟨by decide, ?_⟩
  refine forN_ind D.int (fun as ρ => ∃ (m : Int) (x : SV), m.natAbs < 2 ^ 64 ∧ ρ = [.d (.scr ns), .d (.int m), x]) ?_ ?_ ns _ ⟨0, _, by decide, rfl⟩
  · rintro ρ ⟨m, x, hm, rfl⟩
    unfold r_law_dice_2
    simp only [shut_eq, dSeq, dSet, dRet, dExpr, dIfS, dNil, dIf, dTst, dBin, dUn, dVar, dC, dAnd, dOr, dNot, dAndV, dOrV, dNotV, dChain, dANil, dACons, dLst, dTup, dFld, dAsg, dgN, dSetIx, dLM, hasL, atL, dSetF, dCall, dCallR, hasO, dMeth, dMake, run_eq, dEnd_nx, dEnd_rt, dEnd_ex, outS, dLc, dLcG, dLcR, dFor, dForG, dForR, wipeD, backD, dYes, fLt, fLe, fGt, fGe, fEq, fNe, fIn, fNotIn, eqv_int, at_0, at_1, at_2, at_3, ix_0, ix_1, ix_2, ix_3, List.getElem?_cons_zero, List.getElem?_cons_succ, List.set_cons_zero, List.set_cons_succ, List.cons_append, List.nil_append, List.replicate_succ, List.replicate_zero, List.map_cons, List.map_nil, List.take_succ_cons, List.take_zero, List.length_cons, List.length_nil, List.take, List.length_set, pk_d, pk_fr, pk_sl, stab_d, stab_fr, stab_sl, fz_d, fz_fr, fz_sl, toD_l, toD_i, toD_k, re_rf, re_ow, store_d, store_fr, store_sl, outV_d, outV_fr, outV_sl, items_l, items_t, items_s, rng_1, rng_2, dgT_t, setAll_0, setAll_s, putR_rf, madeQ_n, fAdd_i, fAdd_l, fSub_i, fMul_i, fDiv_i, fMod_i, fPow_i, fNeg_i, fAbs_i, fCmp_i, fIn_l, fNotIn_l, fIx_l, fIx_t, fIx_s, fLen_l, fLen_t, fLen_s, fInt_i, fInt_b, fList_l, fList_t, fIsN_n, fNotN_n, isN_i, gAppend_1, gPop_c, fFld_i, fRev_l, pl_i, fIsi_i, fIsi_b, fIsi_n, fIsi_l, fIsi_t, List.length_map, anyI, pl_ints, if_false_t, dVw, dToM, dSetFM, dLMM, dMethM, dCallM, dMakeM, atM, backM, backO, tkAt, dForT, dLcT, dSetKT, hasT, dDictT, dMem, dRaise, dRaise0, mk1, mk2, dTry, dTryAs, dExcF, noEx, dSl, dPart, dNoPart, pk_me, stab_me, fz_me, store_me, outV_me, mem_un, mem_d, mem_ow, mem_rf, mem_mm, toD_t, keyT_node, madeE, madeQ, keepD_d, keepD_un, keepD_ow, keepD_rf, keepD_mm, dDict0, dSetK, hasK, atK, dGet2, keyD_i, dOutM, dCallL, dMakeR, mkSl, rfAt, madeR, madeRE, List.cons_append, List.nil_append, dCallX, dIsX, dLcH, dLcE, vw1, vw2, bare, dListR, dListR2, dForK, dkAt, dPar2, dPar3, keyD_i, dMethR, dMethP, dCallP, lentQ, noS, dSettle, dSetKM, dPopK, dStrM, dForS, dSortK, dOutT, outL, dLcI, dForI, dEnum, dZip, dgTD, dgCons, dgNil, dgIx, dSlM, dLI, fDivW_i, fDictP, Nat.reduceAdd]
    exact ⟨.inl hm, by decide, k _ ⟨0, _, 0, Int.le_refl 0, rfl⟩⟩
  · rintro a as ρ N ⟨m, x, hm, rfl⟩ hN
    unfold l_law_dice_1
    simp only [shut_eq, dSeq, dSet, dRet, dExpr, dIfS, dNil, dIf, dTst, dBin, dUn, dVar, dC, dAnd, dOr, dNot, dAndV, dOrV, dNotV, dChain, dANil, dACons, dLst, dTup, dFld, dAsg, dgN, dSetIx, dLM, hasL, atL, dSetF, dCall, dCallR, hasO, dMeth, dMake, run_eq, dEnd_nx, dEnd_rt, dEnd_ex, outS, dLc, dLcG, dLcR, dFor, dForG, dForR, wipeD, backD, dYes, fLt, fLe, fGt, fGe, fEq, fNe, fIn, fNotIn, eqv_int, at_0, at_1, at_2, at_3, ix_0, ix_1, ix_2, ix_3, List.getElem?_cons_zero, List.getElem?_cons_succ, List.set_cons_zero, List.set_cons_succ, List.cons_append, List.nil_append, List.replicate_succ, List.replicate_zero, List.map_cons, List.map_nil, List.take_succ_cons, List.take_zero, List.length_cons, List.length_nil, List.take, List.length_set, pk_d, pk_fr, pk_sl, stab_d, stab_fr, stab_sl, fz_d, fz_fr, fz_sl, toD_l, toD_i, toD_k, re_rf, re_ow, store_d, store_fr, store_sl, outV_d, outV_fr, outV_sl, items_l, items_t, items_s, rng_1, rng_2, dgT_t, setAll_0, setAll_s, putR_rf, madeQ_n, fAdd_i, fAdd_l, fSub_i, fMul_i, fDiv_i, fMod_i, fPow_i, fNeg_i, fAbs_i, fCmp_i, fIn_l, fNotIn_l, fIx_l, fIx_t, fIx_s, fLen_l, fLen_t, fLen_s, fInt_i, fInt_b, fList_l, fList_t, fIsN_n, fNotN_n, isN_i, gAppend_1, gPop_c, fFld_i, fRev_l, pl_i, fIsi_i, fIsi_b, fIsi_n, fIsi_l, fIsi_t, List.length_map, anyI, pl_ints, if_false_t, dVw, dToM, dSetFM, dLMM, dMethM, dCallM, dMakeM, atM, backM, backO, tkAt, dForT, dLcT, dSetKT, hasT, dDictT, dMem, dRaise, dRaise0, mk1, mk2, dTry, dTryAs, dExcF, noEx, dSl, dPart, dNoPart, pk_me, stab_me, fz_me, store_me, outV_me, mem_un, mem_d, mem_ow, mem_rf, mem_mm, toD_t, keyT_node, madeE, madeQ, keepD_d, keepD_un, keepD_ow, keepD_rf, keepD_mm, dDict0, dSetK, hasK, atK, dGet2, keyD_i, dOutM, dCallL, dMakeR, mkSl, rfAt, madeR, madeRE, List.cons_append, List.nil_append, dCallX, dIsX, dLcH, dLcE, vw1, vw2, bare, dListR, dListR2, dForK, dkAt, dPar2, dPar3, keyD_i, dMethR, dMethP, dCallP, lentQ, noS, dSettle, dSetKM, dPopK, dStrM, dForS, dSortK, dOutT, outL, dLcI, dForI, dEnum, dZip, dgTD, dgCons, dgNil, dgIx, dSlM, dLI, fDivW_i, fDictP, Nat.reduceAdd]
    have := fmod_lt (a := m * 48271 + a.fmod 2147483647 * 69621 + 11) (b := 2147483647) (by decide)
    exact ⟨by decide, .inl hm, by decide, .inr (.inl (by decide)), by decide, by decide, hN _ ⟨_, _, by omega, rfl⟩⟩
end LL
namespace LL
open PySem L2 DW
local macro_rules | `(tactic| get_elem_tactic_extensible) => `(tactic| simp -failIfUnchanged only [shut_eq, dSeq, dSet, dRet, dExpr, dIfS, dNil, dIf, dTst, dBin, dUn, dVar, dC, dAnd, dOr, dNot, dAndV, dOrV, dNotV, dChain, dANil, dACons, dLst, dTup, dFld, dAsg, dgN, dSetIx, dLM, hasL, atL, dSetF, dCall, dCallR, hasO, dMeth, dMake, run_eq, dEnd_nx, dEnd_rt, dEnd_ex, outS, dLc, dLcG, dLcR, dFor, dForG, dForR, wipeD, backD, dYes, fLt, fLe, fGt, fGe, fEq, fNe, fIn, fNotIn, eqv_int, at_0, at_1, at_2, at_3, ix_0, ix_1, ix_2, ix_3, List.getElem?_cons_zero, List.getElem?_cons_succ, List.set_cons_zero, List.set_cons_succ, List.cons_append, List.nil_append, List.replicate_succ, List.replicate_zero, List.map_cons, List.map_nil, List.take_succ_cons, List.take_zero, List.length_cons, List.length_nil, List.take, List.length_set, pk_d, pk_fr, pk_sl, stab_d, stab_fr, stab_sl, fz_d, fz_fr, fz_sl, toD_l, toD_i, toD_k, re_rf, re_ow, store_d, store_fr, store_sl, outV_d, outV_fr, outV_sl, items_l, items_t, items_s, rng_1, rng_2, dgT_t, setAll_0, setAll_s, putR_rf, madeQ_n, fAdd_i, fAdd_l, fSub_i, fMul_i, fDiv_i, fMod_i, fPow_i, fNeg_i, fAbs_i, fCmp_i, fIn_l, fNotIn_l, fIx_l, fIx_t, fIx_s, fLen_l, fLen_t, fLen_s, fInt_i, fInt_b, fList_l, fList_t, fIsN_n, fNotN_n, isN_i, gAppend_1, gPop_c, fFld_i, fRev_l, pl_i, fIsi_i, fIsi_b, fIsi_n, fIsi_l, fIsi_t, List.length_map, anyI, pl_ints, if_false_t, dVw, dToM, dSetFM, dLMM, dMethM, dCallM, dMakeM, atM, backM, backO, tkAt, dForT, dLcT, dSetKT, hasT, dDictT, dMem, dRaise, dRaise0, mk1, mk2, dTry, dTryAs, dExcF, noEx, dSl, dPart, dNoPart, pk_me, stab_me, fz_me, store_me, outV_me, mem_un, mem_d, mem_ow, mem_rf, mem_mm, toD_t, keyT_node, madeE, madeQ, keepD_d, keepD_un, keepD_ow, keepD_rf, keepD_mm, dDict0, dSetK, hasK, atK, dGet2, keyD_i, dOutM, dCallL, dMakeR, mkSl, rfAt, madeR, madeRE, List.cons_append, List.nil_append, dCallX, dIsX, dLcH, dLcE, vw1, vw2, bare, dListR, dListR2, dForK, dkAt, dPar2, dPar3, keyD_i, dMethR, dMethP, dCallP, lentQ, noS, dSettle, dSetKM, dPopK, dStrM, dForS, dSortK, dOutT, outL, dLcI, dForI, dEnum, dZip, dgTD, dgCons, dgNil, dgIx, dSlM, dLI, fDivW_i, fDictP, Nat.reduceAdd])
theorem map_any {A : Cs} {ns : List Int} {o : OO} {places roads : Int} {Q : DV → List SV → Prop} {E : DExc → List SV → Prop} (ho : IsDice ns o) (hp : 0 < places) (hp2 : places ≤ 20) (hr : 0 ≤ roads) (hr2 : roads ≤ 60)
    (k : ∀ (many root : Int) (rs : List Road) (o' : OO), IsDice ns o' → 0 ≤ root → root < many → many ≤ places → (rs.length : Int) ≤ roads → (∀ r, r ∈ rs → GoodRoad many r) → Q (.d (.tup [.int many, .int root, .lst (rowsD rs)])) [.rf o', .un, .un]) :
    run_law_map A [.rf o, .d (.int places), .d (.int roads)] Q E := by
  unfold run_law_map b_law_map
  simp only [shut_eq, dSeq, dSet, dRet, dExpr, dIfS, dNil, dIf, dTst, dBin, dUn, dVar, dC, dAnd, dOr, dNot, dAndV, dOrV, dNotV, dChain, dANil, dACons, dLst, dTup, dFld, dAsg, dgN, dSetIx, dLM, hasL, atL, dSetF, dCall, dCallR, hasO, dMeth, dMake, run_eq, dEnd_nx, dEnd_rt, dEnd_ex, outS, dLc, dLcG, dLcR, dFor, dForG, dForR, wipeD, backD, dYes, fLt, fLe, fGt, fGe, fEq, fNe, fIn, fNotIn, eqv_int, at_0, at_1, at_2, at_3, ix_0, ix_1, ix_2, ix_3, List.getElem?_cons_zero, List.getElem?_cons_succ, List.set_cons_zero, List.set_cons_succ, List.cons_append, List.nil_append, List.replicate_succ, List.replicate_zero, List.map_cons, List.map_nil, List.take_succ_cons, List.take_zero, List.length_cons, List.length_nil, List.take, List.length_set, pk_d, pk_fr, pk_sl, stab_d, stab_fr, stab_sl, fz_d, fz_fr, fz_sl, toD_l, toD_i, toD_k, re_rf, re_ow, store_d, store_fr, store_sl, outV_d, outV_fr, outV_sl, items_l, items_t, items_s, rng_1, rng_2, dgT_t, setAll_0, setAll_s, putR_rf, madeQ_n, fAdd_i, fAdd_l, fSub_i, fMul_i, fDiv_i, fMod_i, fPow_i, fNeg_i, fAbs_i, fCmp_i, fIn_l, fNotIn_l, fIx_l, fIx_t, fIx_s, fLen_l, fLen_t, fLen_s, fInt_i, fInt_b, fList_l, fList_t, fIsN_n, fNotN_n, isN_i, gAppend_1, gPop_c, fFld_i, fRev_l, pl_i, fIsi_i, fIsi_b, fIsi_n, fIsi_l, fIsi_t, List.length_map, anyI, pl_ints, if_false_t, dVw, dToM, dSetFM, dLMM, dMethM, dCallM, dMakeM, atM, backM, backO, tkAt, dForT, dLcT, dSetKT, hasT, dDictT, dMem, dRaise, dRaise0, mk1, mk2, dTry, dTryAs, dExcF, noEx, dSl, dPart, dNoPart, pk_me, stab_me, fz_me, store_me, outV_me, mem_un, mem_d, mem_ow, mem_rf, mem_mm, toD_t, keyT_node, madeE, madeQ, keepD_d, keepD_un, keepD_ow, keepD_rf, keepD_mm, dDict0, dSetK, hasK, atK, dGet2, keyD_i, dOutM, dCallL, dMakeR, mkSl, rfAt, madeR, madeRE, List.cons_append, List.nil_append, dCallX, dIsX, dLcH, dLcE, vw1, vw2, bare, dListR, dListR2, dForK, dkAt, dPar2, dPar3, keyD_i, dMethR, dMethP, dCallP, lentQ, noS, dSettle, dSetKM, dPopK, dStrM, dForS, dSortK, dOutT, outL, dLcI, dForI, dEnum, dZip, dgTD, dgCons, dgNil, dgIx, dSlM, dLI, fDivW_i, fDictP, Nat.reduceAdd]
  refine ⟨trivial, trivial, next_any ho hp (by omega) fun v o1 h1 h2 h3 => ?_⟩
  simp only [shut_eq, dSeq, dSet, dRet, dExpr, dIfS, dNil, dIf, dTst, dBin, dUn, dVar, dC, dAnd, dOr, dNot, dAndV, dOrV, dNotV, dChain, dANil, dACons, dLst, dTup, dFld, dAsg, dgN, dSetIx, dLM, hasL, atL, dSetF, dCall, dCallR, hasO, dMeth, dMake, run_eq, dEnd_nx, dEnd_rt, dEnd_ex, outS, dLc, dLcG, dLcR, dFor, dForG, dForR, wipeD, backD, dYes, fLt, fLe, fGt, fGe, fEq, fNe, fIn, fNotIn, eqv_int, at_0, at_1, at_2, at_3, ix_0, ix_1, ix_2, ix_3, List.getElem?_cons_zero, List.getElem?_cons_succ, List.set_cons_zero, List.set_cons_succ, List.cons_append, List.nil_append, List.replicate_succ, List.replicate_zero, List.map_cons, List.map_nil, List.take_succ_cons, List.take_zero, List.length_cons, List.length_nil, List.take, List.length_set, pk_d, pk_fr, pk_sl, stab_d, stab_fr, stab_sl, fz_d, fz_fr, fz_sl, toD_l, toD_i, toD_k, re_rf, re_ow, store_d, store_fr, store_sl, outV_d, outV_fr, outV_sl, items_l, items_t, items_s, rng_1, rng_2, dgT_t, setAll_0, setAll_s, putR_rf, madeQ_n, fAdd_i, fAdd_l, fSub_i, fMul_i, fDiv_i, fMod_i, fPow_i, fNeg_i, fAbs_i, fCmp_i, fIn_l, fNotIn_l, fIx_l, fIx_t, fIx_s, fLen_l, fLen_t, fLen_s, fInt_i, fInt_b, fList_l, fList_t, fIsN_n, fNotN_n, isN_i, gAppend_1, gPop_c, fFld_i, fRev_l, pl_i, fIsi_i, fIsi_b, fIsi_n, fIsi_l, fIsi_t, List.length_map, anyI, pl_ints, if_false_t, dVw, dToM, dSetFM, dLMM, dMethM, dCallM, dMakeM, atM, backM, backO, tkAt, dForT, dLcT, dSetKT, hasT, dDictT, dMem, dRaise, dRaise0, mk1, mk2, dTry, dTryAs, dExcF, noEx, dSl, dPart, dNoPart, pk_me, stab_me, fz_me, store_me, outV_me, mem_un, mem_d, mem_ow, mem_rf, mem_mm, toD_t, keyT_node, madeE, madeQ, keepD_d, keepD_un, keepD_ow, keepD_rf, keepD_mm, dDict0, dSetK, hasK, atK, dGet2, keyD_i, dOutM, dCallL, dMakeR, mkSl, rfAt, madeR, madeRE, List.cons_append, List.nil_append, dCallX, dIsX, dLcH, dLcE, vw1, vw2, bare, dListR, dListR2, dForK, dkAt, dPar2, dPar3, keyD_i, dMethR, dMethP, dCallP, lentQ, noS, dSettle, dSetKM, dPopK, dStrM, dForS, dSortK, dOutT, outL, dLcI, dForI, dEnum, dZip, dgTD, dgCons, dgNil, dgIx, dSlM, dLI, fDivW_i, fDictP, Nat.reduceAdd]
  refine ⟨by decide, trivial, trivial, next_any h1 (by omega) (by omega) fun w o2 h4 h5 h6 => ?_⟩
  simp only [shut_eq, dSeq, dSet, dRet, dExpr, dIfS, dNil, dIf, dTst, dBin, dUn, dVar, dC, dAnd, dOr, dNot, dAndV, dOrV, dNotV, dChain, dANil, dACons, dLst, dTup, dFld, dAsg, dgN, dSetIx, dLM, hasL, atL, dSetF, dCall, dCallR, hasO, dMeth, dMake, run_eq, dEnd_nx, dEnd_rt, dEnd_ex, outS, dLc, dLcG, dLcR, dFor, dForG, dForR, wipeD, backD, dYes, fLt, fLe, fGt, fGe, fEq, fNe, fIn, fNotIn, eqv_int, at_0, at_1, at_2, at_3, ix_0, ix_1, ix_2, ix_3, List.getElem?_cons_zero, List.getElem?_cons_succ, List.set_cons_zero, List.set_cons_succ, List.cons_append, List.nil_append, List.replicate_succ, List.replicate_zero, List.map_cons, List.map_nil, List.take_succ_cons, List.take_zero, List.length_cons, List.length_nil, List.take, List.length_set, pk_d, pk_fr, pk_sl, stab_d, stab_fr, stab_sl, fz_d, fz_fr, fz_sl, toD_l, toD_i, toD_k, re_rf, re_ow, store_d, store_fr, store_sl, outV_d, outV_fr, outV_sl, items_l, items_t, items_s, rng_1, rng_2, dgT_t, setAll_0, setAll_s, putR_rf, madeQ_n, fAdd_i, fAdd_l, fSub_i, fMul_i, fDiv_i, fMod_i, fPow_i, fNeg_i, fAbs_i, fCmp_i, fIn_l, fNotIn_l, fIx_l, fIx_t, fIx_s, fLen_l, fLen_t, fLen_s, fInt_i, fInt_b, fList_l, fList_t, fIsN_n, fNotN_n, isN_i, gAppend_1, gPop_c, fFld_i, fRev_l, pl_i, fIsi_i, fIsi_b, fIsi_n, fIsi_l, fIsi_t, List.length_map, anyI, pl_ints, if_false_t, dVw, dToM, dSetFM, dLMM, dMethM, dCallM, dMakeM, atM, backM, backO, tkAt, dForT, dLcT, dSetKT, hasT, dDictT, dMem, dRaise, dRaise0, mk1, mk2, dTry, dTryAs, dExcF, noEx, dSl, dPart, dNoPart, pk_me, stab_me, fz_me, store_me, outV_me, mem_un, mem_d, mem_ow, mem_rf, mem_mm, toD_t, keyT_node, madeE, madeQ, keepD_d, keepD_un, keepD_ow, keepD_rf, keepD_mm, dDict0, dSetK, hasK, atK, dGet2, keyD_i, dOutM, dCallL, dMakeR, mkSl, rfAt, madeR, madeRE, List.cons_append, List.nil_append, dCallX, dIsX, dLcH, dLcE, vw1, vw2, bare, dListR, dListR2, dForK, dkAt, dPar2, dPar3, keyD_i, dMethR, dMethP, dCallP, lentQ, noS, dSettle, dSetKM, dPopK, dStrM, dForS, dSortK, dOutT, outL, dLcI, dForI, dEnum, dZip, dgTD, dgCons, dgNil, dgIx, dSlM, dLI, fDivW_i, fDictP, Nat.reduceAdd]
  refine ⟨by decide, by decide, by decide, ?_⟩
  have fin : ∀ (o' : OO) (rs : List Road) (x6 x7 x8 : SV), IsDice ns o' → (rs.length : Int) ≤ roads → (∀ r, r ∈ rs → GoodRoad (1 + v) r) →
      r_law_map_3 A (dEnd 3 Q E) [.rf o', .d (.int places), .d (.int roads), .d (.int (1 + v)), .d (.int w), .ow (.l (rowsD rs)), x6, x7, x8] := fun o' rs x6 x7 x8 ho' hl hg => by
    unfold r_law_map_3
    simp only [shut_eq, dSeq, dSet, dRet, dExpr, dIfS, dNil, dIf, dTst, dBin, dUn, dVar, dC, dAnd, dOr, dNot, dAndV, dOrV, dNotV, dChain, dANil, dACons, dLst, dTup, dFld, dAsg, dgN, dSetIx, dLM, hasL, atL, dSetF, dCall, dCallR, hasO, dMeth, dMake, run_eq, dEnd_nx, dEnd_rt, dEnd_ex, outS, dLc, dLcG, dLcR, dFor, dForG, dForR, wipeD, backD, dYes, fLt, fLe, fGt, fGe, fEq, fNe, fIn, fNotIn, eqv_int, at_0, at_1, at_2, at_3, ix_0, ix_1, ix_2, ix_3, List.getElem?_cons_zero, List.getElem?_cons_succ, List.set_cons_zero, List.set_cons_succ, List.cons_append, List.nil_append, List.replicate_succ, List.replicate_zero, List.map_cons, List.map_nil, List.take_succ_cons, List.take_zero, List.length_cons, List.length_nil, List.take, List.length_set, pk_d, pk_fr, pk_sl, stab_d, stab_fr, stab_sl, fz_d, fz_fr, fz_sl, toD_l, toD_i, toD_k, re_rf, re_ow, store_d, store_fr, store_sl, outV_d, outV_fr, outV_sl, items_l, items_t, items_s, rng_1, rng_2, dgT_t, setAll_0, setAll_s, putR_rf, madeQ_n, fAdd_i, fAdd_l, fSub_i, fMul_i, fDiv_i, fMod_i, fPow_i, fNeg_i, fAbs_i, fCmp_i, fIn_l, fNotIn_l, fIx_l, fIx_t, fIx_s, fLen_l, fLen_t, fLen_s, fInt_i, fInt_b, fList_l, fList_t, fIsN_n, fNotN_n, isN_i, gAppend_1, gPop_c, fFld_i, fRev_l, pl_i, fIsi_i, fIsi_b, fIsi_n, fIsi_l, fIsi_t, List.length_map, anyI, pl_ints, if_false_t, dVw, dToM, dSetFM, dLMM, dMethM, dCallM, dMakeM, atM, backM, backO, tkAt, dForT, dLcT, dSetKT, hasT, dDictT, dMem, dRaise, dRaise0, mk1, mk2, dTry, dTryAs, dExcF, noEx, dSl, dPart, dNoPart, pk_me, stab_me, fz_me, store_me, outV_me, mem_un, mem_d, mem_ow, mem_rf, mem_mm, toD_t, keyT_node, madeE, madeQ, keepD_d, keepD_un, keepD_ow, keepD_rf, keepD_mm, dDict0, dSetK, hasK, atK, dGet2, keyD_i, dOutM, dCallL, dMakeR, mkSl, rfAt, madeR, madeRE, List.cons_append, List.nil_append, dCallX, dIsX, dLcH, dLcE, vw1, vw2, bare, dListR, dListR2, dForK, dkAt, dPar2, dPar3, keyD_i, dMethR, dMethP, dCallP, lentQ, noS, dSettle, dSetKM, dPopK, dStrM, dForS, dSortK, dOutT, outL, dLcI, dForI, dEnum, dZip, dgTD, dgCons, dgNil, dgIx, dSlM, dLI, fDivW_i, fDictP, Nat.reduceAdd]
    exact ⟨by decide, k _ _ _ _ ho' h5 h6 (by omega) hl hg⟩
  by_cases h : 1 < 1 + v
  · rw [if_pos (decide_eq_true h)]
    refine ⟨trivial, trivial, next_any h4 (by omega) (by omega) fun u o3 h7 h8 h9 => ?_⟩
    simp only [shut_eq, dSeq, dSet, dRet, dExpr, dIfS, dNil, dIf, dTst, dBin, dUn, dVar, dC, dAnd, dOr, dNot, dAndV, dOrV, dNotV, dChain, dANil, dACons, dLst, dTup, dFld, dAsg, dgN, dSetIx, dLM, hasL, atL, dSetF, dCall, dCallR, hasO, dMeth, dMake, run_eq, dEnd_nx, dEnd_rt, dEnd_ex, outS, dLc, dLcG, dLcR, dFor, dForG, dForR, wipeD, backD, dYes, fLt, fLe, fGt, fGe, fEq, fNe, fIn, fNotIn, eqv_int, at_0, at_1, at_2, at_3, ix_0, ix_1, ix_2, ix_3, List.getElem?_cons_zero, List.getElem?_cons_succ, List.set_cons_zero, List.set_cons_succ, List.cons_append, List.nil_append, List.replicate_succ, List.replicate_zero, List.map_cons, List.map_nil, List.take_succ_cons, List.take_zero, List.length_cons, List.length_nil, List.take, List.length_set, pk_d, pk_fr, pk_sl, stab_d, stab_fr, stab_sl, fz_d, fz_fr, fz_sl, toD_l, toD_i, toD_k, re_rf, re_ow, store_d, store_fr, store_sl, outV_d, outV_fr, outV_sl, items_l, items_t, items_s, rng_1, rng_2, dgT_t, setAll_0, setAll_s, putR_rf, madeQ_n, fAdd_i, fAdd_l, fSub_i, fMul_i, fDiv_i, fMod_i, fPow_i, fNeg_i, fAbs_i, fCmp_i, fIn_l, fNotIn_l, fIx_l, fIx_t, fIx_s, fLen_l, fLen_t, fLen_s, fInt_i, fInt_b, fList_l, fList_t, fIsN_n, fNotN_n, isN_i, gAppend_1, gPop_c, fFld_i, fRev_l, pl_i, fIsi_i, fIsi_b, fIsi_n, fIsi_l, fIsi_t, List.length_map, anyI, pl_ints, if_false_t, dVw, dToM, dSetFM, dLMM, dMethM, dCallM, dMakeM, atM, backM, backO, tkAt, dForT, dLcT, dSetKT, hasT, dDictT, dMem, dRaise, dRaise0, mk1, mk2, dTry, dTryAs, dExcF, noEx, dSl, dPart, dNoPart, pk_me, stab_me, fz_me, store_me, outV_me, mem_un, mem_d, mem_ow, mem_rf, mem_mm, toD_t, keyT_node, madeE, madeQ, keepD_d, keepD_un, keepD_ow, keepD_rf, keepD_mm, dDict0, dSetK, hasK, atK, dGet2, keyD_i, dOutM, dCallL, dMakeR, mkSl, rfAt, madeR, madeRE, List.cons_append, List.nil_append, dCallX, dIsX, dLcH, dLcE, vw1, vw2, bare, dListR, dListR2, dForK, dkAt, dPar2, dPar3, keyD_i, dMethR, dMethP, dCallP, lentQ, noS, dSettle, dSetKM, dPopK, dStrM, dForS, dSortK, dOutT, outL, dLcI, dForI, dEnum, dZip, dgTD, dgCons, dgNil, dgIx, dSlM, dLI, fDivW_i, fDictP, Nat.reduceAdd]
    refine ⟨trivial, by omega, by omega, ?_⟩
    refine forN_ind (fun i : Nat => D.int (0 + (i : Int))) (fun as ρ => ∃ (o' : OO) (rs : List Road) (x6 x7 x8 : SV), IsDice ns o' ∧ (∀ j, j ∈ as → j < 60) ∧ (rs.length : Int) + as.length ≤ roads ∧ (∀ r, r ∈ rs → GoodRoad (1 + v) r) ∧ ρ = [.rf o', .d (.int places), .d (.int roads), .d (.int (1 + v)), .d (.int w), .ow (.l (rowsD rs)), x6, x7, x8]) ?_ ?_ _ _ ⟨o3, [], _, _, _, h7, fun j hj => ?_, ?_, fun r hr => (nomatch hr), rfl⟩
    · rintro ρ ⟨o', rs, x6, x7, x8, hd, _, hl, hg, rfl⟩
      exact fin o' rs _ _ _ hd (by simpa using hl) hg
    · rintro a as ρ N ⟨o', rs, x6, x7, x8, hd, ha, hl, hg, rfl⟩ hN
      have ha60 := ha a List.mem_cons_self
      have ha' : ∀ j, j ∈ as → j < 60 := fun j hj => ha j (List.mem_cons_of_mem _ hj)
      have hl' : (rs.length : Int) + (as.length + 1) ≤ roads := by simpa using hl
      unfold l_law_map_2
      simp only [shut_eq, dSeq, dSet, dRet, dExpr, dIfS, dNil, dIf, dTst, dBin, dUn, dVar, dC, dAnd, dOr, dNot, dAndV, dOrV, dNotV, dChain, dANil, dACons, dLst, dTup, dFld, dAsg, dgN, dSetIx, dLM, hasL, atL, dSetF, dCall, dCallR, hasO, dMeth, dMake, run_eq, dEnd_nx, dEnd_rt, dEnd_ex, outS, dLc, dLcG, dLcR, dFor, dForG, dForR, wipeD, backD, dYes, fLt, fLe, fGt, fGe, fEq, fNe, fIn, fNotIn, eqv_int, at_0, at_1, at_2, at_3, ix_0, ix_1, ix_2, ix_3, List.getElem?_cons_zero, List.getElem?_cons_succ, List.set_cons_zero, List.set_cons_succ, List.cons_append, List.nil_append, List.replicate_succ, List.replicate_zero, List.map_cons, List.map_nil, List.take_succ_cons, List.take_zero, List.length_cons, List.length_nil, List.take, List.length_set, pk_d, pk_fr, pk_sl, stab_d, stab_fr, stab_sl, fz_d, fz_fr, fz_sl, toD_l, toD_i, toD_k, re_rf, re_ow, store_d, store_fr, store_sl, outV_d, outV_fr, outV_sl, items_l, items_t, items_s, rng_1, rng_2, dgT_t, setAll_0, setAll_s, putR_rf, madeQ_n, fAdd_i, fAdd_l, fSub_i, fMul_i, fDiv_i, fMod_i, fPow_i, fNeg_i, fAbs_i, fCmp_i, fIn_l, fNotIn_l, fIx_l, fIx_t, fIx_s, fLen_l, fLen_t, fLen_s, fInt_i, fInt_b, fList_l, fList_t, fIsN_n, fNotN_n, isN_i, gAppend_1, gPop_c, fFld_i, fRev_l, pl_i, fIsi_i, fIsi_b, fIsi_n, fIsi_l, fIsi_t, List.length_map, anyI, pl_ints, if_false_t, dVw, dToM, dSetFM, dLMM, dMethM, dCallM, dMakeM, atM, backM, backO, tkAt, dForT, dLcT, dSetKT, hasT, dDictT, dMem, dRaise, dRaise0, mk1, mk2, dTry, dTryAs, dExcF, noEx, dSl, dPart, dNoPart, pk_me, stab_me, fz_me, store_me, outV_me, mem_un, mem_d, mem_ow, mem_rf, mem_mm, toD_t, keyT_node, madeE, madeQ, keepD_d, keepD_un, keepD_ow, keepD_rf, keepD_mm, dDict0, dSetK, hasK, atK, dGet2, keyD_i, dOutM, dCallL, dMakeR, mkSl, rfAt, madeR, madeRE, List.cons_append, List.nil_append, dCallX, dIsX, dLcH, dLcE, vw1, vw2, bare, dListR, dListR2, dForK, dkAt, dPar2, dPar3, keyD_i, dMethR, dMethP, dCallP, lentQ, noS, dSettle, dSetKM, dPopK, dStrM, dForS, dSortK, dOutT, outL, dLcI, dForI, dEnum, dZip, dgTD, dgCons, dgNil, dgIx, dSlM, dLI, fDivW_i, fDictP, Nat.reduceAdd]
      refine ⟨by decide, trivial, trivial, next_any hd (by omega) (by omega) fun b o4 d4 b1 b2 => ?_⟩
      simp only [shut_eq, dSeq, dSet, dRet, dExpr, dIfS, dNil, dIf, dTst, dBin, dUn, dVar, dC, dAnd, dOr, dNot, dAndV, dOrV, dNotV, dChain, dANil, dACons, dLst, dTup, dFld, dAsg, dgN, dSetIx, dLM, hasL, atL, dSetF, dCall, dCallR, hasO, dMeth, dMake, run_eq, dEnd_nx, dEnd_rt, dEnd_ex, outS, dLc, dLcG, dLcR, dFor, dForG, dForR, wipeD, backD, dYes, fLt, fLe, fGt, fGe, fEq, fNe, fIn, fNotIn, eqv_int, at_0, at_1, at_2, at_3, ix_0, ix_1, ix_2, ix_3, List.getElem?_cons_zero, List.getElem?_cons_succ, List.set_cons_zero, List.set_cons_succ, List.cons_append, List.nil_append, List.replicate_succ, List.replicate_zero, List.map_cons, List.map_nil, List.take_succ_cons, List.take_zero, List.length_cons, List.length_nil, List.take, List.length_set, pk_d, pk_fr, pk_sl, stab_d, stab_fr, stab_sl, fz_d, fz_fr, fz_sl, toD_l, toD_i, toD_k, re_rf, re_ow, store_d, store_fr, store_sl, outV_d, outV_fr, outV_sl, items_l, items_t, items_s, rng_1, rng_2, dgT_t, setAll_0, setAll_s, putR_rf, madeQ_n, fAdd_i, fAdd_l, fSub_i, fMul_i, fDiv_i, fMod_i, fPow_i, fNeg_i, fAbs_i, fCmp_i, fIn_l, fNotIn_l, fIx_l, fIx_t, fIx_s, fLen_l, fLen_t, fLen_s, fInt_i, fInt_b, fList_l, fList_t, fIsN_n, fNotN_n, isN_i, gAppend_1, gPop_c, fFld_i, fRev_l, pl_i, fIsi_i, fIsi_b, fIsi_n, fIsi_l, fIsi_t, List.length_map, anyI, pl_ints, if_false_t, dVw, dToM, dSetFM, dLMM, dMethM, dCallM, dMakeM, atM, backM, backO, tkAt, dForT, dLcT, dSetKT, hasT, dDictT, dMem, dRaise, dRaise0, mk1, mk2, dTry, dTryAs, dExcF, noEx, dSl, dPart, dNoPart, pk_me, stab_me, fz_me, store_me, outV_me, mem_un, mem_d, mem_ow, mem_rf, mem_mm, toD_t, keyT_node, madeE, madeQ, keepD_d, keepD_un, keepD_ow, keepD_rf, keepD_mm, dDict0, dSetK, hasK, atK, dGet2, keyD_i, dOutM, dCallL, dMakeR, mkSl, rfAt, madeR, madeRE, List.cons_append, List.nil_append, dCallX, dIsX, dLcH, dLcE, vw1, vw2, bare, dListR, dListR2, dForK, dkAt, dPar2, dPar3, keyD_i, dMethR, dMethP, dCallP, lentQ, noS, dSettle, dSetKM, dPopK, dStrM, dForS, dSortK, dOutT, outL, dLcI, dForI, dEnum, dZip, dgTD, dgCons, dgNil, dgIx, dSlM, dLI, fDivW_i, fDictP, Nat.reduceAdd]
      refine ⟨by decide, trivial, trivial, next_any d4 (by omega) (by omega) fun c o5 d5 c1 c2 => ?_⟩
      simp only [shut_eq, dSeq, dSet, dRet, dExpr, dIfS, dNil, dIf, dTst, dBin, dUn, dVar, dC, dAnd, dOr, dNot, dAndV, dOrV, dNotV, dChain, dANil, dACons, dLst, dTup, dFld, dAsg, dgN, dSetIx, dLM, hasL, atL, dSetF, dCall, dCallR, hasO, dMeth, dMake, run_eq, dEnd_nx, dEnd_rt, dEnd_ex, outS, dLc, dLcG, dLcR, dFor, dForG, dForR, wipeD, backD, dYes, fLt, fLe, fGt, fGe, fEq, fNe, fIn, fNotIn, eqv_int, at_0, at_1, at_2, at_3, ix_0, ix_1, ix_2, ix_3, List.getElem?_cons_zero, List.getElem?_cons_succ, List.set_cons_zero, List.set_cons_succ, List.cons_append, List.nil_append, List.replicate_succ, List.replicate_zero, List.map_cons, List.map_nil, List.take_succ_cons, List.take_zero, List.length_cons, List.length_nil, List.take, List.length_set, pk_d, pk_fr, pk_sl, stab_d, stab_fr, stab_sl, fz_d, fz_fr, fz_sl, toD_l, toD_i, toD_k, re_rf, re_ow, store_d, store_fr, store_sl, outV_d, outV_fr, outV_sl, items_l, items_t, items_s, rng_1, rng_2, dgT_t, setAll_0, setAll_s, putR_rf, madeQ_n, fAdd_i, fAdd_l, fSub_i, fMul_i, fDiv_i, fMod_i, fPow_i, fNeg_i, fAbs_i, fCmp_i, fIn_l, fNotIn_l, fIx_l, fIx_t, fIx_s, fLen_l, fLen_t, fLen_s, fInt_i, fInt_b, fList_l, fList_t, fIsN_n, fNotN_n, isN_i, gAppend_1, gPop_c, fFld_i, fRev_l, pl_i, fIsi_i, fIsi_b, fIsi_n, fIsi_l, fIsi_t, List.length_map, anyI, pl_ints, if_false_t, dVw, dToM, dSetFM, dLMM, dMethM, dCallM, dMakeM, atM, backM, backO, tkAt, dForT, dLcT, dSetKT, hasT, dDictT, dMem, dRaise, dRaise0, mk1, mk2, dTry, dTryAs, dExcF, noEx, dSl, dPart, dNoPart, pk_me, stab_me, fz_me, store_me, outV_me, mem_un, mem_d, mem_ow, mem_rf, mem_mm, toD_t, keyT_node, madeE, madeQ, keepD_d, keepD_un, keepD_ow, keepD_rf, keepD_mm, dDict0, dSetK, hasK, atK, dGet2, keyD_i, dOutM, dCallL, dMakeR, mkSl, rfAt, madeR, madeRE, List.cons_append, List.nil_append, dCallX, dIsX, dLcH, dLcE, vw1, vw2, bare, dListR, dListR2, dForK, dkAt, dPar2, dPar3, keyD_i, dMethR, dMethP, dCallP, lentQ, noS, dSettle, dSetKM, dPopK, dStrM, dForS, dSortK, dOutT, outL, dLcI, dForI, dEnum, dZip, dgTD, dgCons, dgNil, dgIx, dSlM, dLI, fDivW_i, fDictP, Nat.reduceAdd]
      have g1 := fmod_lt (a := b + 1 + c) (b := 1 + v) (by omega)
      refine ⟨by omega, by decide, trivial, trivial, next_any d5 (by omega) (by omega) fun e o6 d6 e1 e2 => ?_⟩
      simp only [shut_eq, dSeq, dSet, dRet, dExpr, dIfS, dNil, dIf, dTst, dBin, dUn, dVar, dC, dAnd, dOr, dNot, dAndV, dOrV, dNotV, dChain, dANil, dACons, dLst, dTup, dFld, dAsg, dgN, dSetIx, dLM, hasL, atL, dSetF, dCall, dCallR, hasO, dMeth, dMake, run_eq, dEnd_nx, dEnd_rt, dEnd_ex, outS, dLc, dLcG, dLcR, dFor, dForG, dForR, wipeD, backD, dYes, fLt, fLe, fGt, fGe, fEq, fNe, fIn, fNotIn, eqv_int, at_0, at_1, at_2, at_3, ix_0, ix_1, ix_2, ix_3, List.getElem?_cons_zero, List.getElem?_cons_succ, List.set_cons_zero, List.set_cons_succ, List.cons_append, List.nil_append, List.replicate_succ, List.replicate_zero, List.map_cons, List.map_nil, List.take_succ_cons, List.take_zero, List.length_cons, List.length_nil, List.take, List.length_set, pk_d, pk_fr, pk_sl, stab_d, stab_fr, stab_sl, fz_d, fz_fr, fz_sl, toD_l, toD_i, toD_k, re_rf, re_ow, store_d, store_fr, store_sl, outV_d, outV_fr, outV_sl, items_l, items_t, items_s, rng_1, rng_2, dgT_t, setAll_0, setAll_s, putR_rf, madeQ_n, fAdd_i, fAdd_l, fSub_i, fMul_i, fDiv_i, fMod_i, fPow_i, fNeg_i, fAbs_i, fCmp_i, fIn_l, fNotIn_l, fIx_l, fIx_t, fIx_s, fLen_l, fLen_t, fLen_s, fInt_i, fInt_b, fList_l, fList_t, fIsN_n, fNotN_n, isN_i, gAppend_1, gPop_c, fFld_i, fRev_l, pl_i, fIsi_i, fIsi_b, fIsi_n, fIsi_l, fIsi_t, List.length_map, anyI, pl_ints, if_false_t, dVw, dToM, dSetFM, dLMM, dMethM, dCallM, dMakeM, atM, backM, backO, tkAt, dForT, dLcT, dSetKT, hasT, dDictT, dMem, dRaise, dRaise0, mk1, mk2, dTry, dTryAs, dExcF, noEx, dSl, dPart, dNoPart, pk_me, stab_me, fz_me, store_me, outV_me, mem_un, mem_d, mem_ow, mem_rf, mem_mm, toD_t, keyT_node, madeE, madeQ, keepD_d, keepD_un, keepD_ow, keepD_rf, keepD_mm, dDict0, dSetK, hasK, atK, dGet2, keyD_i, dOutM, dCallL, dMakeR, mkSl, rfAt, madeR, madeRE, List.cons_append, List.nil_append, dCallX, dIsX, dLcH, dLcE, vw1, vw2, bare, dListR, dListR2, dForK, dkAt, dPar2, dPar3, keyD_i, dMethR, dMethP, dCallP, lentQ, noS, dSettle, dSetKM, dPopK, dStrM, dForS, dSortK, dOutT, outL, dLcI, dForI, dEnum, dZip, dgTD, dgCons, dgNil, dgIx, dSlM, dLI, fDivW_i, fDictP, Nat.reduceAdd]
      have tail : ∀ (o' : OO) (p q : Int), IsDice ns o' → 0 ≤ p → p < 1 + v → 0 ≤ q → q < 1 + v → r_law_map_1 A { nx := N, rt := (dEnd 3 Q E).rt, ex := (dEnd 3 Q E).ex, bk := fun ρ1 => r_law_map_3 A (dEnd 3 Q E) ρ1, ct := N }
          [.rf o', .d (.int places), .d (.int roads), .d (.int (1 + v)), .d (.int w), .ow (.l (rowsD rs)), .d (.int (0 + a)), .d (.int p), .d (.int q)] := fun o' p q hd' p1 p2 q1 q2 => by
        unfold r_law_map_1
        simp only [shut_eq, dSeq, dSet, dRet, dExpr, dIfS, dNil, dIf, dTst, dBin, dUn, dVar, dC, dAnd, dOr, dNot, dAndV, dOrV, dNotV, dChain, dANil, dACons, dLst, dTup, dFld, dAsg, dgN, dSetIx, dLM, hasL, atL, dSetF, dCall, dCallR, hasO, dMeth, dMake, run_eq, dEnd_nx, dEnd_rt, dEnd_ex, outS, dLc, dLcG, dLcR, dFor, dForG, dForR, wipeD, backD, dYes, fLt, fLe, fGt, fGe, fEq, fNe, fIn, fNotIn, eqv_int, at_0, at_1, at_2, at_3, ix_0, ix_1, ix_2, ix_3, List.getElem?_cons_zero, List.getElem?_cons_succ, List.set_cons_zero, List.set_cons_succ, List.cons_append, List.nil_append, List.replicate_succ, List.replicate_zero, List.map_cons, List.map_nil, List.take_succ_cons, List.take_zero, List.length_cons, List.length_nil, List.take, List.length_set, pk_d, pk_fr, pk_sl, stab_d, stab_fr, stab_sl, fz_d, fz_fr, fz_sl, toD_l, toD_i, toD_k, re_rf, re_ow, store_d, store_fr, store_sl, outV_d, outV_fr, outV_sl, items_l, items_t, items_s, rng_1, rng_2, dgT_t, setAll_0, setAll_s, putR_rf, madeQ_n, fAdd_i, fAdd_l, fSub_i, fMul_i, fDiv_i, fMod_i, fPow_i, fNeg_i, fAbs_i, fCmp_i, fIn_l, fNotIn_l, fIx_l, fIx_t, fIx_s, fLen_l, fLen_t, fLen_s, fInt_i, fInt_b, fList_l, fList_t, fIsN_n, fNotN_n, isN_i, gAppend_1, gPop_c, fFld_i, fRev_l, pl_i, fIsi_i, fIsi_b, fIsi_n, fIsi_l, fIsi_t, List.length_map, anyI, pl_ints, if_false_t, dVw, dToM, dSetFM, dLMM, dMethM, dCallM, dMakeM, atM, backM, backO, tkAt, dForT, dLcT, dSetKT, hasT, dDictT, dMem, dRaise, dRaise0, mk1, mk2, dTry, dTryAs, dExcF, noEx, dSl, dPart, dNoPart, pk_me, stab_me, fz_me, store_me, outV_me, mem_un, mem_d, mem_ow, mem_rf, mem_mm, toD_t, keyT_node, madeE, madeQ, keepD_d, keepD_un, keepD_ow, keepD_rf, keepD_mm, dDict0, dSetK, hasK, atK, dGet2, keyD_i, dOutM, dCallL, dMakeR, mkSl, rfAt, madeR, madeRE, List.cons_append, List.nil_append, dCallX, dIsX, dLcH, dLcE, vw1, vw2, bare, dListR, dListR2, dForK, dkAt, dPar2, dPar3, keyD_i, dMethR, dMethP, dCallP, lentQ, noS, dSettle, dSetKM, dPopK, dStrM, dForS, dSortK, dOutT, outL, dLcI, dForI, dEnum, dZip, dgTD, dgCons, dgNil, dgIx, dSlM, dLI, fDivW_i, fDictP, Nat.reduceAdd]
        refine ⟨trivial, trivial, ?_⟩
        by_cases e : p = q
        · rw [if_neg (by simpa using e)]
          exact hN _ ⟨o', rs, _, _, _, hd', ha', by omega, hg, rfl⟩
        · rw [if_pos (by simpa using e)]
          refine ⟨trivial, trivial, trivial, cost_any hd' fun z o7 d7 z1 z2 => ?_⟩
          simp only [shut_eq, dSeq, dSet, dRet, dExpr, dIfS, dNil, dIf, dTst, dBin, dUn, dVar, dC, dAnd, dOr, dNot, dAndV, dOrV, dNotV, dChain, dANil, dACons, dLst, dTup, dFld, dAsg, dgN, dSetIx, dLM, hasL, atL, dSetF, dCall, dCallR, hasO, dMeth, dMake, run_eq, dEnd_nx, dEnd_rt, dEnd_ex, outS, dLc, dLcG, dLcR, dFor, dForG, dForR, wipeD, backD, dYes, fLt, fLe, fGt, fGe, fEq, fNe, fIn, fNotIn, eqv_int, at_0, at_1, at_2, at_3, ix_0, ix_1, ix_2, ix_3, List.getElem?_cons_zero, List.getElem?_cons_succ, List.set_cons_zero, List.set_cons_succ, List.cons_append, List.nil_append, List.replicate_succ, List.replicate_zero, List.map_cons, List.map_nil, List.take_succ_cons, List.take_zero, List.length_cons, List.length_nil, List.take, List.length_set, pk_d, pk_fr, pk_sl, stab_d, stab_fr, stab_sl, fz_d, fz_fr, fz_sl, toD_l, toD_i, toD_k, re_rf, re_ow, store_d, store_fr, store_sl, outV_d, outV_fr, outV_sl, items_l, items_t, items_s, rng_1, rng_2, dgT_t, setAll_0, setAll_s, putR_rf, madeQ_n, fAdd_i, fAdd_l, fSub_i, fMul_i, fDiv_i, fMod_i, fPow_i, fNeg_i, fAbs_i, fCmp_i, fIn_l, fNotIn_l, fIx_l, fIx_t, fIx_s, fLen_l, fLen_t, fLen_s, fInt_i, fInt_b, fList_l, fList_t, fIsN_n, fNotN_n, isN_i, gAppend_1, gPop_c, fFld_i, fRev_l, pl_i, fIsi_i, fIsi_b, fIsi_n, fIsi_l, fIsi_t, List.length_map, anyI, pl_ints, if_false_t, dVw, dToM, dSetFM, dLMM, dMethM, dCallM, dMakeM, atM, backM, backO, tkAt, dForT, dLcT, dSetKT, hasT, dDictT, dMem, dRaise, dRaise0, mk1, mk2, dTry, dTryAs, dExcF, noEx, dSl, dPart, dNoPart, pk_me, stab_me, fz_me, store_me, outV_me, mem_un, mem_d, mem_ow, mem_rf, mem_mm, toD_t, keyT_node, madeE, madeQ, keepD_d, keepD_un, keepD_ow, keepD_rf, keepD_mm, dDict0, dSetK, hasK, atK, dGet2, keyD_i, dOutM, dCallL, dMakeR, mkSl, rfAt, madeR, madeRE, List.cons_append, List.nil_append, dCallX, dIsX, dLcH, dLcE, vw1, vw2, bare, dListR, dListR2, dForK, dkAt, dPar2, dPar3, keyD_i, dMethR, dMethP, dCallP, lentQ, noS, dSettle, dSetKM, dPopK, dStrM, dForS, dSortK, dOutT, outL, dLcI, dForI, dEnum, dZip, dgTD, dgCons, dgNil, dgIx, dSlM, dLI, fDivW_i, fDictP, Nat.reduceAdd]
          refine ⟨by decide, ?_, hN _ ⟨o7, rs ++ [(p, q, z)], .d (.int (0 + a)), .d (.int p), .d (.int q), d7, ha', ?_, ?_, ?_⟩⟩
          · have : (rowsD rs).length = rs.length := List.length_map ..
            rw [this]
            have : (60 : Nat) < sizeLine := by decide
            omega
          · simp
            omega
          · intro r hr
            rcases List.mem_append.mp hr with hr | hr
            · exact hg r hr
            · have e2 := List.mem_singleton.mp hr
              subst e2
              exact ⟨p1, p2, q1, q2, e, z1, z2⟩
          · unfold rowsD
            rw [List.map_append]
            rfl
      have g2 := fmod_lt (a := w + 1 + (0 + a)) (b := 1 + v) (by omega)
      by_cases c3 : 0 < e
      · rw [if_pos (decide_eq_true c3)]
        by_cases c4 : 0 + (a : Int) < 1 + v
        · rw [if_pos (decide_eq_true c4)]
          refine ⟨by omega, by decide, trivial, trivial, next_any d6 (by omega) (by omega) fun f o7 d7 f1 f2 => ?_⟩
          simp only [shut_eq, dSeq, dSet, dRet, dExpr, dIfS, dNil, dIf, dTst, dBin, dUn, dVar, dC, dAnd, dOr, dNot, dAndV, dOrV, dNotV, dChain, dANil, dACons, dLst, dTup, dFld, dAsg, dgN, dSetIx, dLM, hasL, atL, dSetF, dCall, dCallR, hasO, dMeth, dMake, run_eq, dEnd_nx, dEnd_rt, dEnd_ex, outS, dLc, dLcG, dLcR, dFor, dForG, dForR, wipeD, backD, dYes, fLt, fLe, fGt, fGe, fEq, fNe, fIn, fNotIn, eqv_int, at_0, at_1, at_2, at_3, ix_0, ix_1, ix_2, ix_3, List.getElem?_cons_zero, List.getElem?_cons_succ, List.set_cons_zero, List.set_cons_succ, List.cons_append, List.nil_append, List.replicate_succ, List.replicate_zero, List.map_cons, List.map_nil, List.take_succ_cons, List.take_zero, List.length_cons, List.length_nil, List.take, List.length_set, pk_d, pk_fr, pk_sl, stab_d, stab_fr, stab_sl, fz_d, fz_fr, fz_sl, toD_l, toD_i, toD_k, re_rf, re_ow, store_d, store_fr, store_sl, outV_d, outV_fr, outV_sl, items_l, items_t, items_s, rng_1, rng_2, dgT_t, setAll_0, setAll_s, putR_rf, madeQ_n, fAdd_i, fAdd_l, fSub_i, fMul_i, fDiv_i, fMod_i, fPow_i, fNeg_i, fAbs_i, fCmp_i, fIn_l, fNotIn_l, fIx_l, fIx_t, fIx_s, fLen_l, fLen_t, fLen_s, fInt_i, fInt_b, fList_l, fList_t, fIsN_n, fNotN_n, isN_i, gAppend_1, gPop_c, fFld_i, fRev_l, pl_i, fIsi_i, fIsi_b, fIsi_n, fIsi_l, fIsi_t, List.length_map, anyI, pl_ints, if_false_t, dVw, dToM, dSetFM, dLMM, dMethM, dCallM, dMakeM, atM, backM, backO, tkAt, dForT, dLcT, dSetKT, hasT, dDictT, dMem, dRaise, dRaise0, mk1, mk2, dTry, dTryAs, dExcF, noEx, dSl, dPart, dNoPart, pk_me, stab_me, fz_me, store_me, outV_me, mem_un, mem_d, mem_ow, mem_rf, mem_mm, toD_t, keyT_node, madeE, madeQ, keepD_d, keepD_un, keepD_ow, keepD_rf, keepD_mm, dDict0, dSetK, hasK, atK, dGet2, keyD_i, dOutM, dCallL, dMakeR, mkSl, rfAt, madeR, madeRE, List.cons_append, List.nil_append, dCallX, dIsX, dLcH, dLcE, vw1, vw2, bare, dListR, dListR2, dForK, dkAt, dPar2, dPar3, keyD_i, dMethR, dMethP, dCallP, lentQ, noS, dSettle, dSetKM, dPopK, dStrM, dForS, dSortK, dOutT, outL, dLcI, dForI, dEnum, dZip, dgTD, dgCons, dgNil, dgIx, dSlM, dLI, fDivW_i, fDictP, Nat.reduceAdd]
          have g3 := fmod_lt (a := w + f) (b := 1 + v) (by omega)
          exact ⟨by omega, by decide, tail _ _ _ d7 g3.1 g3.2 g2.1 g2.2⟩
        · rw [if_neg (by simpa using c4)]
          exact tail _ _ _ d6 b1 b2 g1.1 g1.2
      · rw [if_neg (by simpa using c3)]
        exact tail _ _ _ d6 b1 b2 g1.1 g1.2
    · have := List.mem_range.mp hj
      omega
    · simp
      omega
  · rw [if_neg (by simpa using h)]
    exact fin o2 [] _ _ _ h4 (by simpa using hr) fun r hr => nomatch hr
end LL
namespace LL
open PySem L2 DW
local macro_rules | `(tactic| get_elem_tactic_extensible) => `(tactic| simp -failIfUnchanged only [shut_eq, dSeq, dSet, dRet, dExpr, dIfS, dNil, dIf, dTst, dBin, dUn, dVar, dC, dAnd, dOr, dNot, dAndV, dOrV, dNotV, dChain, dANil, dACons, dLst, dTup, dFld, dAsg, dgN, dSetIx, dLM, hasL, atL, dSetF, dCall, dCallR, hasO, dMeth, dMake, run_eq, dEnd_nx, dEnd_rt, dEnd_ex, outS, dLc, dLcG, dLcR, dFor, dForG, dForR, wipeD, backD, dYes, fLt, fLe, fGt, fGe, fEq, fNe, fIn, fNotIn, eqv_int, at_0, at_1, at_2, at_3, ix_0, ix_1, ix_2, ix_3, List.getElem?_cons_zero, List.getElem?_cons_succ, List.set_cons_zero, List.set_cons_succ, List.cons_append, List.nil_append, List.replicate_succ, List.replicate_zero, List.map_cons, List.map_nil, List.take_succ_cons, List.take_zero, List.length_cons, List.length_nil, List.take, List.length_set, pk_d, pk_fr, pk_sl, stab_d, stab_fr, stab_sl, fz_d, fz_fr, fz_sl, toD_l, toD_i, toD_k, re_rf, re_ow, store_d, store_fr, store_sl, outV_d, outV_fr, outV_sl, items_l, items_t, items_s, rng_1, rng_2, dgT_t, setAll_0, setAll_s, putR_rf, madeQ_n, fAdd_i, fAdd_l, fSub_i, fMul_i, fDiv_i, fMod_i, fPow_i, fNeg_i, fAbs_i, fCmp_i, fIn_l, fNotIn_l, fIx_l, fIx_t, fIx_s, fLen_l, fLen_t, fLen_s, fInt_i, fInt_b, fList_l, fList_t, fIsN_n, fNotN_n, isN_i, gAppend_1, gPop_c, fFld_i, fRev_l, pl_i, fIsi_i, fIsi_b, fIsi_n, fIsi_l, fIsi_t, List.length_map, anyI, pl_ints, if_false_t, dVw, dToM, dSetFM, dLMM, dMethM, dCallM, dMakeM, atM, backM, backO, tkAt, dForT, dLcT, dSetKT, hasT, dDictT, dMem, dRaise, dRaise0, mk1, mk2, dTry, dTryAs, dExcF, noEx, dSl, dPart, dNoPart, pk_me, stab_me, fz_me, store_me, outV_me, mem_un, mem_d, mem_ow, mem_rf, mem_mm, toD_t, keyT_node, madeE, madeQ, keepD_d, keepD_un, keepD_ow, keepD_rf, keepD_mm, dDict0, dSetK, hasK, atK, dGet2, keyD_i, dOutM, dCallL, dMakeR, mkSl, rfAt, madeR, madeRE, List.cons_append, List.nil_append, dCallX, dIsX, dLcH, dLcE, vw1, vw2, bare, dListR, dListR2, dForK, dkAt, dPar2, dPar3, keyD_i, dMethR, dMethP, dCallP, lentQ, noS, dSettle, dSetKM, dPopK, dStrM, dForS, dSortK, dOutT, outL, dLcI, dForI, dEnum, dZip, dgTD, dgCons, dgNil, dgIx, dSlM, dLI, fDivW_i, fDictP, Nat.reduceAdd])
/-- a map's fields -/
def mapF (many root : Int) (rs : List Road) : List (Str × D) := putFD "rows" (.lst (rowsD rs)) (putFD "root" (.int root) (putFD "many" (.int many) []))
theorem sne1 : ¬ (("many" : Str) = "root") := by decide +kernel
theorem sne2 : ¬ (("many" : Str) = "rows") := by decide +kernel
theorem sne3 : ¬ (("root" : Str) = "rows") := by decide +kernel
theorem map_eq {many root : Int} {rs : List Road} : mapF many root rs = [(("many" : Str), D.int many), (("root" : Str), D.int root), (("rows" : Str), D.lst (rowsD rs))] := by
  unfold mapF
  simp only [putFD, sne1, sne2, sne3, if_false]
theorem map_rows {many root : Int} {rs : List Road} : (mapF many root rs).lookup ("rows" : Str) = some (.lst (rowsD rs)) := by
  rw [map_eq]
  rfl
theorem map_root {many root : Int} {rs : List Road} : (mapF many root rs).lookup ("root" : Str) = some (.int root) := by
  rw [map_eq]
  rfl
theorem map_many {many root : Int} {rs : List Road} : (mapF many root rs).lookup ("many" : Str) = some (.int many) := by
  rw [map_eq]
  rfl
theorem map_size {many root : Int} {rs : List Road} : (mapF many root rs).lookup ("size" : Str) = none := by
  rw [map_eq]
  rfl
theorem map_begin {many root : Int} {rs : List Road} : (mapF many root rs).lookup ("begin" : Str) = none := by
  rw [map_eq]
  rfl
theorem init_any {A : Cs} {many root : Int} {rs : List Road} {Q : DV → List SV → Prop} {E : DExc → List SV → Prop} (hl : rs.length ≤ 60) (h0 : 0 ≤ root) (h1 : root < many) (h2 : many ≤ 20) (hg : ∀ r, r ∈ rs → GoodRoad many r)
    (k : Q (.d .non) [.rf (.i A.Map (mapF many root rs)), .un, .un, .un]) : run_Map_init A [.rf (.i A.Map []), .d (.int many), .d (.int root), .d (.lst (rowsD rs))] Q E := by
  unfold run_Map_init b_Map_init r_Map_init_6 r_Map_init_5 r_Map_init_4
  have e1 : decide (1 ≤ many) = true := decide_eq_true (by omega)
  have e2 : decide (many ≤ 20) = true := decide_eq_true h2
  have e3 : decide (0 ≤ root) = true := decide_eq_true h0
  have e4 : decide (root < many) = true := decide_eq_true h1
  have e5 : decide (60 < ((rowsD rs).length : Int)) = false := decide_eq_false (by rw [show (rowsD rs).length = rs.length from List.length_map ..]; omega)
  simp only [shut_eq, dSeq, dSet, dRet, dExpr, dIfS, dNil, dIf, dTst, dBin, dUn, dVar, dC, dAnd, dOr, dNot, dAndV, dOrV, dNotV, dChain, dANil, dACons, dLst, dTup, dFld, dAsg, dgN, dSetIx, dLM, hasL, atL, dSetF, dCall, dCallR, hasO, dMeth, dMake, run_eq, dEnd_nx, dEnd_rt, dEnd_ex, outS, dLc, dLcG, dLcR, dFor, dForG, dForR, wipeD, backD, dYes, fLt, fLe, fGt, fGe, fEq, fNe, fIn, fNotIn, eqv_int, at_0, at_1, at_2, at_3, ix_0, ix_1, ix_2, ix_3, List.getElem?_cons_zero, List.getElem?_cons_succ, List.set_cons_zero, List.set_cons_succ, List.cons_append, List.nil_append, List.replicate_succ, List.replicate_zero, List.map_cons, List.map_nil, List.take_succ_cons, List.take_zero, List.length_cons, List.length_nil, List.take, List.length_set, pk_d, pk_fr, pk_sl, stab_d, stab_fr, stab_sl, fz_d, fz_fr, fz_sl, toD_l, toD_i, toD_k, re_rf, re_ow, store_d, store_fr, store_sl, outV_d, outV_fr, outV_sl, items_l, items_t, items_s, rng_1, rng_2, dgT_t, setAll_0, setAll_s, putR_rf, madeQ_n, fAdd_i, fAdd_l, fSub_i, fMul_i, fDiv_i, fMod_i, fPow_i, fNeg_i, fAbs_i, fCmp_i, fIn_l, fNotIn_l, fIx_l, fIx_t, fIx_s, fLen_l, fLen_t, fLen_s, fInt_i, fInt_b, fList_l, fList_t, fIsN_n, fNotN_n, isN_i, gAppend_1, gPop_c, fFld_i, fRev_l, pl_i, fIsi_i, fIsi_b, fIsi_n, fIsi_l, fIsi_t, List.length_map, anyI, pl_ints, if_false_t, dVw, dToM, dSetFM, dLMM, dMethM, dCallM, dMakeM, atM, backM, backO, tkAt, dForT, dLcT, dSetKT, hasT, dDictT, dMem, dRaise, dRaise0, mk1, mk2, dTry, dTryAs, dExcF, noEx, dSl, dPart, dNoPart, pk_me, stab_me, fz_me, store_me, outV_me, mem_un, mem_d, mem_ow, mem_rf, mem_mm, toD_t, keyT_node, madeE, madeQ, keepD_d, keepD_un, keepD_ow, keepD_rf, keepD_mm, dDict0, dSetK, hasK, atK, dGet2, keyD_i, dOutM, dCallL, dMakeR, mkSl, rfAt, madeR, madeRE, List.cons_append, List.nil_append, dCallX, dIsX, dLcH, dLcE, vw1, vw2, bare, dListR, dListR2, dForK, dkAt, dPar2, dPar3, keyD_i, dMethR, dMethP, dCallP, lentQ, noS, dSettle, dSetKM, dPopK, dStrM, dForS, dSortK, dOutT, outL, dLcI, dForI, dEnum, dZip, dgTD, dgCons, dgNil, dgIx, dSlM, dLI, fDivW_i, fDictP, Nat.reduceAdd, e1, e2, e3, e4, e5, if_true, Bool.not_true]
  have er : (rowsD rs).length = rs.length := List.length_map ..
  refine ⟨trivial, by omega, by omega, ?_⟩
  refine forN_ind (fun i : Nat => D.int (0 + (i : Int))) (fun as ρ => (∀ j, j ∈ as → j < rs.length) ∧ ∃ x4 x5 x6 x7 : SV, ρ = [.rf (.i A.Map []), .d (.int many), .d (.int root), .d (.lst (rowsD rs)), x4, x5, x6, x7]) ?_ ?_ _ _ ⟨fun j hj => ?_, _, _, _, _, rfl⟩
  · rintro ρ ⟨_, x4, x5, x6, x7, rfl⟩
    unfold r_Map_init_3
    simp only [dSetF, DW.atI, shut_eq, dSeq, dSet, dRet, dExpr, dIfS, dNil, dIf, dTst, dBin, dUn, dVar, dC, dAnd, dOr, dNot, dAndV, dOrV, dNotV, dChain, dANil, dACons, dLst, dTup, dFld, dAsg, dgN, dSetIx, dLM, hasL, atL, dSetF, dCall, dCallR, hasO, dMeth, dMake, run_eq, dEnd_nx, dEnd_rt, dEnd_ex, outS, dLc, dLcG, dLcR, dFor, dForG, dForR, wipeD, backD, dYes, fLt, fLe, fGt, fGe, fEq, fNe, fIn, fNotIn, eqv_int, at_0, at_1, at_2, at_3, ix_0, ix_1, ix_2, ix_3, List.getElem?_cons_zero, List.getElem?_cons_succ, List.set_cons_zero, List.set_cons_succ, List.cons_append, List.nil_append, List.replicate_succ, List.replicate_zero, List.map_cons, List.map_nil, List.take_succ_cons, List.take_zero, List.length_cons, List.length_nil, List.take, List.length_set, pk_d, pk_fr, pk_sl, stab_d, stab_fr, stab_sl, fz_d, fz_fr, fz_sl, toD_l, toD_i, toD_k, re_rf, re_ow, store_d, store_fr, store_sl, outV_d, outV_fr, outV_sl, items_l, items_t, items_s, rng_1, rng_2, dgT_t, setAll_0, setAll_s, putR_rf, madeQ_n, fAdd_i, fAdd_l, fSub_i, fMul_i, fDiv_i, fMod_i, fPow_i, fNeg_i, fAbs_i, fCmp_i, fIn_l, fNotIn_l, fIx_l, fIx_t, fIx_s, fLen_l, fLen_t, fLen_s, fInt_i, fInt_b, fList_l, fList_t, fIsN_n, fNotN_n, isN_i, gAppend_1, gPop_c, fFld_i, fRev_l, pl_i, fIsi_i, fIsi_b, fIsi_n, fIsi_l, fIsi_t, List.length_map, anyI, pl_ints, if_false_t, dVw, dToM, dSetFM, dLMM, dMethM, dCallM, dMakeM, atM, backM, backO, tkAt, dForT, dLcT, dSetKT, hasT, dDictT, dMem, dRaise, dRaise0, mk1, mk2, dTry, dTryAs, dExcF, noEx, dSl, dPart, dNoPart, pk_me, stab_me, fz_me, store_me, outV_me, mem_un, mem_d, mem_ow, mem_rf, mem_mm, toD_t, keyT_node, madeE, madeQ, keepD_d, keepD_un, keepD_ow, keepD_rf, keepD_mm, dDict0, dSetK, hasK, atK, dGet2, keyD_i, dOutM, dCallL, dMakeR, mkSl, rfAt, madeR, madeRE, List.cons_append, List.nil_append, dCallX, dIsX, dLcH, dLcE, vw1, vw2, bare, dListR, dListR2, dForK, dkAt, dPar2, dPar3, keyD_i, dMethR, dMethP, dCallP, lentQ, noS, dSettle, dSetKM, dPopK, dStrM, dForS, dSortK, dOutT, outL, dLcI, dForI, dEnum, dZip, dgTD, dgCons, dgNil, dgIx, dSlM, dLI, fDivW_i, fDictP, Nat.reduceAdd]
    exact ⟨trivial, by decide, trivial, by show 1 < 1000; decide, trivial, by simp only [putFD, sne1, if_false]; show 2 < 1000; decide, k⟩
  · rintro a as ρ N ⟨ha, x4, x5, x6, x7, rfl⟩ hN
    have hlt := ha a List.mem_cons_self
    have hr := hg rs[a] (List.getElem_mem hlt)
    have hq : L2.atI (rowsD rs) (0 + (a : Int)) = some (roadD rs[a]) := by
      unfold rowsD
      rw [Int.zero_add, at_nat, List.getElem?_map, List.getElem?_eq_getElem hlt]
      rfl
    obtain ⟨g1, g2, g3, g4, g5, g6, g7⟩ := hr
    have e1 : decide (0 ≤ rs[a].1) = true := decide_eq_true g1
    have e2 : decide (rs[a].1 < many) = true := decide_eq_true g2
    have e3 : decide (0 ≤ rs[a].2.1) = true := decide_eq_true g3
    have e4 : decide (rs[a].2.1 < many) = true := decide_eq_true g4
    have e5 : decide (rs[a].1 = rs[a].2.1) = false := decide_eq_false g5
    have e6 : decide (0 ≤ rs[a].2.2) = true := decide_eq_true g6
    have e7 : decide (rs[a].2.2 ≤ 1000000000) = true := decide_eq_true g7
    unfold l_Map_init_2 r_Map_init_1
    simp only [roadD, shut_eq, dSeq, dSet, dRet, dExpr, dIfS, dNil, dIf, dTst, dBin, dUn, dVar, dC, dAnd, dOr, dNot, dAndV, dOrV, dNotV, dChain, dANil, dACons, dLst, dTup, dFld, dAsg, dgN, dSetIx, dLM, hasL, atL, dSetF, dCall, dCallR, hasO, dMeth, dMake, run_eq, dEnd_nx, dEnd_rt, dEnd_ex, outS, dLc, dLcG, dLcR, dFor, dForG, dForR, wipeD, backD, dYes, fLt, fLe, fGt, fGe, fEq, fNe, fIn, fNotIn, eqv_int, at_0, at_1, at_2, at_3, ix_0, ix_1, ix_2, ix_3, List.getElem?_cons_zero, List.getElem?_cons_succ, List.set_cons_zero, List.set_cons_succ, List.cons_append, List.nil_append, List.replicate_succ, List.replicate_zero, List.map_cons, List.map_nil, List.take_succ_cons, List.take_zero, List.length_cons, List.length_nil, List.take, List.length_set, pk_d, pk_fr, pk_sl, stab_d, stab_fr, stab_sl, fz_d, fz_fr, fz_sl, toD_l, toD_i, toD_k, re_rf, re_ow, store_d, store_fr, store_sl, outV_d, outV_fr, outV_sl, items_l, items_t, items_s, rng_1, rng_2, dgT_t, setAll_0, setAll_s, putR_rf, madeQ_n, fAdd_i, fAdd_l, fSub_i, fMul_i, fDiv_i, fMod_i, fPow_i, fNeg_i, fAbs_i, fCmp_i, fIn_l, fNotIn_l, fIx_l, fIx_t, fIx_s, fLen_l, fLen_t, fLen_s, fInt_i, fInt_b, fList_l, fList_t, fIsN_n, fNotN_n, isN_i, gAppend_1, gPop_c, fFld_i, fRev_l, pl_i, fIsi_i, fIsi_b, fIsi_n, fIsi_l, fIsi_t, List.length_map, anyI, pl_ints, if_false_t, dVw, dToM, dSetFM, dLMM, dMethM, dCallM, dMakeM, atM, backM, backO, tkAt, dForT, dLcT, dSetKT, hasT, dDictT, dMem, dRaise, dRaise0, mk1, mk2, dTry, dTryAs, dExcF, noEx, dSl, dPart, dNoPart, pk_me, stab_me, fz_me, store_me, outV_me, mem_un, mem_d, mem_ow, mem_rf, mem_mm, toD_t, keyT_node, madeE, madeQ, keepD_d, keepD_un, keepD_ow, keepD_rf, keepD_mm, dDict0, dSetK, hasK, atK, dGet2, keyD_i, dOutM, dCallL, dMakeR, mkSl, rfAt, madeR, madeRE, List.cons_append, List.nil_append, dCallX, dIsX, dLcH, dLcE, vw1, vw2, bare, dListR, dListR2, dForK, dkAt, dPar2, dPar3, keyD_i, dMethR, dMethP, dCallP, lentQ, noS, dSettle, dSetKM, dPopK, dStrM, dForS, dSortK, dOutT, outL, dLcI, dForI, dEnum, dZip, dgTD, dgCons, dgNil, dgIx, dSlM, dLI, fDivW_i, fDictP, Nat.reduceAdd, hq, e1, e2, e3, e4, e5, e6, e7, if_true, Bool.not_true]
    exact ⟨by decide, by decide, by decide, by decide, trivial, trivial, hN _ ⟨fun j hj => ha j (List.mem_cons_of_mem _ hj), _, _, _, _, rfl⟩⟩
  · have := List.mem_range.mp hj
    omega
/-- the roads of numbers -/
def pick (rs : List Road) (ns : List Int) : List Road := ns.map fun i => rs[i.toNat]?.getD (0, 0, 0)
theorem pick_at {rs : List Road} {i : Int} (h : 0 ≤ i ∧ i < rs.length) : L2.atI (rowsD rs) i = some (roadD (rs[i.toNat]?.getD (0, 0, 0))) := by
  obtain ⟨n, rfl⟩ := Int.eq_ofNat_of_zero_le h.1
  have hn : n < rs.length := by omega
  unfold rowsD
  rw [at_nat, List.getElem?_map, Int.toNat_natCast, List.getElem?_eq_getElem hn]
  rfl
/-- whether numbers are a tree of a map -/
def IsTree (many root : Int) (rs : List Road) (ns : List Int) : Prop := ns.Nodup ∧ (ns.length : Int) = many - 1 ∧ (∀ i, i ∈ ns → 0 ≤ i ∧ i < rs.length) ∧ ∃ fs : List Int, fs.Nodup ∧ (∀ x, x ∈ fs ↔ Rch (pick rs ns) root x) ∧ (fs.length : Int) = many
end LL
namespace LL
open PySem L2 DW
local macro_rules | `(tactic| get_elem_tactic_extensible) => `(tactic| simp -failIfUnchanged only [shut_eq, dSeq, dSet, dRet, dExpr, dIfS, dNil, dIf, dTst, dBin, dUn, dVar, dC, dAnd, dOr, dNot, dAndV, dOrV, dNotV, dChain, dANil, dACons, dLst, dTup, dFld, dAsg, dgN, dSetIx, dLM, hasL, atL, dSetF, dCall, dCallR, hasO, dMeth, dMake, run_eq, dEnd_nx, dEnd_rt, dEnd_ex, outS, dLc, dLcG, dLcR, dFor, dForG, dForR, wipeD, backD, dYes, fLt, fLe, fGt, fGe, fEq, fNe, fIn, fNotIn, eqv_int, at_0, at_1, at_2, at_3, ix_0, ix_1, ix_2, ix_3, List.getElem?_cons_zero, List.getElem?_cons_succ, List.set_cons_zero, List.set_cons_succ, List.cons_append, List.nil_append, List.replicate_succ, List.replicate_zero, List.map_cons, List.map_nil, List.take_succ_cons, List.take_zero, List.length_cons, List.length_nil, List.take, List.length_set, pk_d, pk_fr, pk_sl, stab_d, stab_fr, stab_sl, fz_d, fz_fr, fz_sl, toD_l, toD_i, toD_k, re_rf, re_ow, store_d, store_fr, store_sl, outV_d, outV_fr, outV_sl, items_l, items_t, items_s, rng_1, rng_2, dgT_t, setAll_0, setAll_s, putR_rf, madeQ_n, fAdd_i, fAdd_l, fSub_i, fMul_i, fDiv_i, fMod_i, fPow_i, fNeg_i, fAbs_i, fCmp_i, fIn_l, fNotIn_l, fIx_l, fIx_t, fIx_s, fLen_l, fLen_t, fLen_s, fInt_i, fInt_b, fList_l, fList_t, fIsN_n, fNotN_n, isN_i, gAppend_1, gPop_c, fFld_i, fRev_l, pl_i, fIsi_i, fIsi_b, fIsi_n, fIsi_l, fIsi_t, List.length_map, anyI, pl_ints, if_false_t, dVw, dToM, dSetFM, dLMM, dMethM, dCallM, dMakeM, atM, backM, backO, tkAt, dForT, dLcT, dSetKT, hasT, dDictT, dMem, dRaise, dRaise0, mk1, mk2, dTry, dTryAs, dExcF, noEx, dSl, dPart, dNoPart, pk_me, stab_me, fz_me, store_me, outV_me, mem_un, mem_d, mem_ow, mem_rf, mem_mm, toD_t, keyT_node, madeE, madeQ, keepD_d, keepD_un, keepD_ow, keepD_rf, keepD_mm, dDict0, dSetK, hasK, atK, dGet2, keyD_i, dOutM, dCallL, dMakeR, mkSl, rfAt, madeR, madeRE, List.cons_append, List.nil_append, dCallX, dIsX, dLcH, dLcE, vw1, vw2, bare, dListR, dListR2, dForK, dkAt, dPar2, dPar3, keyD_i, dMethR, dMethP, dCallP, lentQ, noS, dSettle, dSetKM, dPopK, dStrM, dForS, dSortK, dOutT, outL, dLcI, dForI, dEnum, dZip, dgTD, dgCons, dgNil, dgIx, dSlM, dLI, fDivW_i, fDictP, Nat.reduceAdd])
def badE (A : Cs) (at_ : Int) (why : Str) : DExc := ⟨.ref A.BadMap, some [("why", .str why), ("at", .int at_)]⟩
theorem bad_many {A : Cs} {m r : Int} {rows : List D} {Q : DV → List SV → Prop} {E : DExc → List SV → Prop} (h : ¬ (1 ≤ m ∧ m ≤ 20)) (k : E (badE A 0 "many") [.rf (.i A.Map []), .un, .un, .un]) : run_Map_init A [.rf (.i A.Map []), .d (.int m), .d (.int r), .d (.lst rows)] Q E := by
  unfold run_Map_init b_Map_init
  get_elem_tactic_extensible
  by_cases c : 1 ≤ m
  · rw [if_pos (decide_eq_true c), if_pos (by rw [decide_eq_false fun z => h ⟨c, z⟩]; rfl)]
    exact k
  · rw [if_neg (by simpa using c), if_pos (by decide)]
    exact k
theorem bad_root {A : Cs} {m r : Int} {rows : List D} {Q : DV → List SV → Prop} {E : DExc → List SV → Prop} (h1 : 1 ≤ m ∧ m ≤ 20) (h : ¬ (0 ≤ r ∧ r < m)) (k : E (badE A 0 "root") [.rf (.i A.Map []), .un, .un, .un]) : run_Map_init A [.rf (.i A.Map []), .d (.int m), .d (.int r), .d (.lst rows)] Q E := by
  unfold run_Map_init b_Map_init
  get_elem_tactic_extensible
  rw [if_pos (decide_eq_true h1.1), if_neg (by rw [decide_eq_true h1.2]; decide)]
  unfold r_Map_init_6
  get_elem_tactic_extensible
  by_cases c : 0 ≤ r
  · rw [if_pos (decide_eq_true c), if_pos (by rw [decide_eq_false fun z => h ⟨c, z⟩]; rfl)]
    exact k
  · rw [if_neg (by simpa using c), if_pos (by decide)]
    exact k
theorem bad_roads {A : Cs} {m r : Int} {rows : List D} {Q : DV → List SV → Prop} {E : DExc → List SV → Prop} (h1 : 1 ≤ m ∧ m ≤ 20) (h2 : 0 ≤ r ∧ r < m) (h : 60 < rows.length) (k : E (badE A 0 "roads") [.rf (.i A.Map []), .un, .un, .un]) : run_Map_init A [.rf (.i A.Map []), .d (.int m), .d (.int r), .d (.lst rows)] Q E := by
  unfold run_Map_init b_Map_init
  get_elem_tactic_extensible
  rw [if_pos (decide_eq_true h1.1), if_neg (by rw [decide_eq_true h1.2]; decide)]
  unfold r_Map_init_6
  get_elem_tactic_extensible
  rw [if_pos (decide_eq_true h2.1), if_neg (by rw [decide_eq_true h2.2]; decide)]
  unfold r_Map_init_5
  get_elem_tactic_extensible
  rw [if_pos (decide_eq_true (by omega))]
  exact k
def BadRow (m : Int) (w : Road) (why : Str) : Prop := (why = "place" ∧ ¬ (0 ≤ w.1 ∧ w.1 < m ∧ 0 ≤ w.2.1 ∧ w.2.1 < m ∧ w.1 ≠ w.2.1)) ∨ (why = "cost" ∧ (0 ≤ w.1 ∧ w.1 < m ∧ 0 ≤ w.2.1 ∧ w.2.1 < m ∧ w.1 ≠ w.2.1) ∧ ¬ (0 ≤ w.2.2 ∧ w.2.2 ≤ 1000000000))
theorem bad_row {A : Cs} {m r : Int} {rs : List Road} {w : Road} {more : List D} {why : Str} {Q : DV → List SV → Prop} {E : DExc → List SV → Prop} (h1 : 1 ≤ m ∧ m ≤ 20) (h2 : 0 ≤ r ∧ r < m) (hl : rs.length + 1 + more.length ≤ 60) (hg : ∀ r, r ∈ rs → GoodRoad m r) (hw : BadRow m w why)
    (k : E (badE A rs.length why) [.rf (.i A.Map []), .un, .un, .un]) : run_Map_init A [.rf (.i A.Map []), .d (.int m), .d (.int r), .d (.lst (rowsD rs ++ roadD w :: more))] Q E := by
  have er : (rowsD rs ++ roadD w :: more).length = rs.length + 1 + more.length := by
    unfold rowsD
    rw [List.length_append, List.length_map, List.length_cons]
    omega
  have hq1 : ∀ (i : Nat) (c : i < rs.length), L2.atI (rowsD rs ++ roadD w :: more) (0 + (i : Int)) = some (roadD rs[i]) := fun i c => by
    unfold rowsD
    rw [Int.zero_add, at_nat, List.getElem?_append_left (by simpa using c), List.getElem?_map, List.getElem?_eq_getElem c]
    rfl
  have hq2 : L2.atI (rowsD rs ++ roadD w :: more) (0 + (rs.length : Int)) = some (roadD w) := by
    unfold rowsD
    rw [Int.zero_add, at_nat, List.getElem?_append_right (by simp)]
    simp
  generalize rowsD rs ++ roadD w :: more = rows at er hq1 hq2 ⊢
  unfold run_Map_init b_Map_init
  get_elem_tactic_extensible
  rw [if_pos (decide_eq_true h1.1), if_neg (by rw [decide_eq_true h1.2]; decide)]
  unfold r_Map_init_6
  get_elem_tactic_extensible
  rw [if_pos (decide_eq_true h2.1), if_neg (by rw [decide_eq_true h2.2]; decide)]
  unfold r_Map_init_5
  get_elem_tactic_extensible
  rw [if_neg (by rw [er]; simp; omega)]
  unfold r_Map_init_4
  get_elem_tactic_extensible
  rw [er]
  refine ⟨trivial, by omega, by omega, ?_⟩
  unfold rangeD
  refine forN_ind (fun i : Nat => D.int (0 + (i : Int))) (fun todo ρ => ∃ (done : List Nat) (x4 x5 x6 x7 : SV), List.range (rs.length + 1 + more.length) = done ++ todo ∧ done.length ≤ rs.length ∧ ρ = [.rf (.i A.Map []), .d (.int m), .d (.int r), .d (.lst rows), x4, x5, x6, x7]) ?_ ?_ (List.range (rs.length + 1 + more.length)) _ ⟨[], _, _, _, _, rfl, Nat.zero_le _, rfl⟩
  · rintro ρ ⟨done, x4, x5, x6, x7, e, hd, rfl⟩
    have := congrArg List.length e
    rw [List.length_range, List.append_nil] at this
    omega
  · rintro i todo ρ N ⟨done, x4, x5, x6, x7, e, hd, rfl⟩ hN
    have hi : i = done.length := by
      have := congrArg (fun l => l[done.length]?) e
      simp only [List.getElem?_append_right (Nat.le_refl _), Nat.sub_self, List.getElem?_cons_zero] at this
      have h3 := List.getElem?_eq_some_iff.mp this
      obtain ⟨h4, h5⟩ := h3
      rw [List.getElem_range] at h5
      omega
    by_cases c : i < rs.length
    · have hq := hq1 i c
      obtain ⟨g1, g2, g3, g4, g5, g6, g7⟩ := hg rs[i] (List.getElem_mem c)
      have e1 : decide (0 ≤ rs[i].1) = true := decide_eq_true g1
      have e2 : decide (rs[i].1 < m) = true := decide_eq_true g2
      have e3 : decide (0 ≤ rs[i].2.1) = true := decide_eq_true g3
      have e4 : decide (rs[i].2.1 < m) = true := decide_eq_true g4
      have e5 : decide (rs[i].1 = rs[i].2.1) = false := decide_eq_false g5
      have e6 : decide (0 ≤ rs[i].2.2) = true := decide_eq_true g6
      have e7 : decide (rs[i].2.2 ≤ 1000000000) = true := decide_eq_true g7
      unfold l_Map_init_2 r_Map_init_1
      simp only [roadD, shut_eq, dSeq, dSet, dRet, dExpr, dIfS, dNil, dIf, dTst, dBin, dUn, dVar, dC, dAnd, dOr, dNot, dAndV, dOrV, dNotV, dChain, dANil, dACons, dLst, dTup, dFld, dAsg, dgN, dSetIx, dLM, hasL, atL, dSetF, dCall, dCallR, hasO, dMeth, dMake, run_eq, dEnd_nx, dEnd_rt, dEnd_ex, outS, dLc, dLcG, dLcR, dFor, dForG, dForR, wipeD, backD, dYes, fLt, fLe, fGt, fGe, fEq, fNe, fIn, fNotIn, eqv_int, at_0, at_1, at_2, at_3, ix_0, ix_1, ix_2, ix_3, List.getElem?_cons_zero, List.getElem?_cons_succ, List.set_cons_zero, List.set_cons_succ, List.cons_append, List.nil_append, List.replicate_succ, List.replicate_zero, List.map_cons, List.map_nil, List.take_succ_cons, List.take_zero, List.length_cons, List.length_nil, List.take, List.length_set, pk_d, pk_fr, pk_sl, stab_d, stab_fr, stab_sl, fz_d, fz_fr, fz_sl, toD_l, toD_i, toD_k, re_rf, re_ow, store_d, store_fr, store_sl, outV_d, outV_fr, outV_sl, items_l, items_t, items_s, rng_1, rng_2, dgT_t, setAll_0, setAll_s, putR_rf, madeQ_n, fAdd_i, fAdd_l, fSub_i, fMul_i, fDiv_i, fMod_i, fPow_i, fNeg_i, fAbs_i, fCmp_i, fIn_l, fNotIn_l, fIx_l, fIx_t, fIx_s, fLen_l, fLen_t, fLen_s, fInt_i, fInt_b, fList_l, fList_t, fIsN_n, fNotN_n, isN_i, gAppend_1, gPop_c, fFld_i, fRev_l, pl_i, fIsi_i, fIsi_b, fIsi_n, fIsi_l, fIsi_t, List.length_map, anyI, pl_ints, if_false_t, dVw, dToM, dSetFM, dLMM, dMethM, dCallM, dMakeM, atM, backM, backO, tkAt, dForT, dLcT, dSetKT, hasT, dDictT, dMem, dRaise, dRaise0, mk1, mk2, dTry, dTryAs, dExcF, noEx, dSl, dPart, dNoPart, pk_me, stab_me, fz_me, store_me, outV_me, mem_un, mem_d, mem_ow, mem_rf, mem_mm, toD_t, keyT_node, madeE, madeQ, keepD_d, keepD_un, keepD_ow, keepD_rf, keepD_mm, dDict0, dSetK, hasK, atK, dGet2, keyD_i, dOutM, dCallL, dMakeR, mkSl, rfAt, madeR, madeRE, List.cons_append, List.nil_append, dCallX, dIsX, dLcH, dLcE, vw1, vw2, bare, dListR, dListR2, dForK, dkAt, dPar2, dPar3, keyD_i, dMethR, dMethP, dCallP, lentQ, noS, dSettle, dSetKM, dPopK, dStrM, dForS, dSortK, dOutT, outL, dLcI, dForI, dEnum, dZip, dgTD, dgCons, dgNil, dgIx, dSlM, dLI, fDivW_i, fDictP, Nat.reduceAdd, hq, e1, e2, e3, e4, e5, e6, e7, if_true, Bool.not_true]
      exact ⟨by decide, by decide, by decide, by decide, trivial, trivial, hN _ ⟨done ++ [i], _, _, _, _, by rw [e]; simp, by rw [List.length_append, List.length_singleton]; omega, rfl⟩⟩
    · have hi2 : i = rs.length := by omega
      rw [← hi2] at hq2
      rw [← hi2] at k
      unfold l_Map_init_2
      get_elem_tactic_extensible
      simp only [hq2, roadD]
      get_elem_tactic_extensible
      refine ⟨by decide, by decide, by decide, by decide, ?_⟩
      rw [Int.zero_add]
      unfold badE at k
      rcases hw with ⟨rfl, hp⟩ | ⟨rfl, ⟨b1, b2, b3, b4, b5⟩, hc⟩
      · by_cases a1 : 0 ≤ w.1
        · rw [if_pos (decide_eq_true a1)]
          by_cases a2 : w.1 < m
          · rw [if_neg (by rw [decide_eq_true a2]; decide)]
            by_cases a3 : 0 ≤ w.2.1
            · rw [if_pos (decide_eq_true a3)]
              by_cases a4 : w.2.1 < m
              · rw [if_neg (by rw [decide_eq_true a4]; decide)]
                have a5 : w.1 = w.2.1 := Decidable.byContradiction fun z => hp ⟨a1, a2, a3, a4, z⟩
                refine ⟨trivial, trivial, ?_⟩
                rw [if_pos (decide_eq_true a5)]
                exact k
              · rw [if_pos (by rw [decide_eq_false a4]; rfl), if_pos trivial]
                exact k
            · rw [if_neg (by simpa using a3), if_pos (by decide), if_pos trivial]
              exact k
          · rw [if_pos (by rw [decide_eq_false a2]; rfl), if_pos trivial]
            exact k
        · rw [if_neg (by simpa using a1), if_pos (by decide), if_pos trivial]
          exact k
      · rw [if_pos (decide_eq_true b1), if_neg (by rw [decide_eq_true b2]; decide), if_pos (decide_eq_true b3), if_neg (by rw [decide_eq_true b4]; decide)]
        refine ⟨trivial, trivial, ?_⟩
        rw [if_neg (by simpa using b5)]
        unfold r_Map_init_1
        get_elem_tactic_extensible
        by_cases a1 : 0 ≤ w.2.2
        · rw [if_pos (decide_eq_true a1), if_pos (by rw [decide_eq_false fun z => hc ⟨a1, z⟩]; rfl)]
          exact k
        · rw [if_neg (by simpa using a1), if_pos (by decide)]
          exact k
end LL
namespace LL
open PySem L2 DW
/-! expressions whose value is told at once (get_elem_tactic_extensible takes long over long lists of tuples) -/
def Vl (ρ : List SV) (de : DTE) (d : D) : Prop := ∀ (Q : DV → List SV → Prop) (E : DExc → List SV → Prop), Q (.d d) ρ → de ρ Q E
def Vls (ρ : List SV) (dl : DTA) (ds : List D) : Prop := ∀ (Q : List D → List SV → Prop) (E : DExc → List SV → Prop), Q ds ρ → dl ρ Q E
theorem v_c {ρ : List SV} {a : D} : Vl ρ (dC a) a := fun _ _ h => h
theorem vs_nil {ρ : List SV} : Vls ρ dANil [] := fun _ _ h => h
theorem vs_cons {ρ : List SV} {de : DTE} {dl : DTA} {a : D} {as : List D} (h : Vl ρ de a) (g : Vls ρ dl as) : Vls ρ (dACons de dl) (a :: as) := fun Q E q => h _ _ (g _ _ q)
theorem v_tup {ρ : List SV} {dl : DTA} {as : List D} (h : Vls ρ dl as) (n : as.length ≤ 1000 := by exact Nat.le_of_ble_eq_true rfl) : Vl ρ (dTup dl) (.tup as) := fun Q E q => h _ _ ⟨Nat.le_trans n (by decide), q⟩
theorem v_lst {ρ : List SV} {dl : DTA} {as : List D} {Q : DV → List SV → Prop} {E : DExc → List SV → Prop} (h : Vls ρ dl as) (q : Q (.fr (.l as)) ρ) (n : as.length ≤ 1000 := by exact Nat.le_of_ble_eq_true rfl) : dLst dl ρ Q E := h _ _ ⟨Nat.le_trans n (by decide), q⟩
theorem v_lstO {ρ : List SV} {dl : DTA} {as : List D} {Q : DV → List SV → Prop} {E : DExc → List SV → Prop} (h : Vls ρ dl as) (q : ∀ O, O = as → Q (.fr (.l O)) ρ) (n : as.length ≤ 1000 := by exact Nat.le_of_ble_eq_true rfl) : dLst dl ρ Q E := v_lst h (q as rfl) n
theorem v_var {ρ : List SV} {i : Nat} {a : D} (h : ρ[i]? = some (.d a)) : Vl ρ (dVar i) a := fun Q E q => by
  unfold dVar
  rw [h]
  exact q
theorem v_add {ρ : List SV} {da db : DTE} {i j : Int} (h : Vl ρ da (.int i)) (g : Vl ρ db (.int j)) : Vl ρ (dBin fAdd da db) (.int (i + j)) := fun Q E q => h _ _ (g _ _ q)
theorem v_sub {ρ : List SV} {da db : DTE} {i j : Int} (h : Vl ρ da (.int i)) (g : Vl ρ db (.int j)) : Vl ρ (dBin fSub da db) (.int (i - j)) := fun Q E q => h _ _ (g _ _ q)
theorem v_neg {ρ : List SV} {da : DTE} {i : Int} (h : Vl ρ da (.int i)) : Vl ρ (dUn fNeg da) (.int (-i)) := fun Q E q => h _ _ q
theorem v_pow {ρ : List SV} {da db : DTE} {i j : Int} (h : Vl ρ da (.int i)) (g : Vl ρ db (.int j)) (c : 0 ≤ j ∧ j ≤ 1000000 ∧ i.natAbs < 2 ^ 64) : Vl ρ (dBin fPow da db) (.int (i ^ j.toNat)) := fun Q E q => h _ _ (g _ _ ⟨c.1, c.2.1, c.2.2, q⟩)
def Vt (ρ : List SV) (dt : DTT) (b : Bool) : Prop := ∀ (Q : Bool → List SV → Prop) (E : DExc → List SV → Prop), Q b ρ → dt ρ Q E
theorem v_tst {ρ : List SV} {de : DTE} {b : Bool} (h : Vl ρ de (.bl b)) : Vt ρ (dTst de) b := fun Q E q => h _ _ q
theorem v_and {ρ : List SV} {da db : DTT} {b : Bool} (h : Vt ρ da true) (g : Vt ρ db b) : Vt ρ (dAnd da db) b := fun Q E q => h _ _ (by rw [if_pos rfl]; exact g _ _ q)
theorem v_andF {ρ : List SV} {da db : DTT} (h : Vt ρ da false) : Vt ρ (dAnd da db) false := fun Q E q => h _ _ (by rw [if_neg (by decide)]; exact q)
theorem v_not {ρ : List SV} {da : DTT} {b : Bool} (h : Vt ρ da b) : Vt ρ (dNot da) (!b) := fun Q E q => h _ _ q
theorem v_ifT {ρ : List SV} {dt : DTT} {a b : DTE} {d : D} (h : Vt ρ dt true) (g : Vl ρ a d) : Vl ρ (dIf dt a b) d := fun Q E q => h _ _ (by rw [if_pos rfl]; exact g _ _ q)
theorem v_ifF {ρ : List SV} {dt : DTT} {a b : DTE} {d : D} (h : Vt ρ dt false) (g : Vl ρ b d) : Vl ρ (dIf dt a b) d := fun Q E q => h _ _ (by rw [if_neg (by decide)]; exact g _ _ q)
theorem v_bin {ρ : List SV} {f : D → D → (DV → Prop) → Prop} {da db : DTE} {x y z : D} (h : Vl ρ da x) (g : Vl ρ db y) (e : ∀ k : DV → Prop, k (.d z) → f x y k) : Vl ρ (dBin f da db) z := fun Q E q => h _ _ (g _ _ (e _ q))
theorem v_eq {ρ : List SV} {da db : DTE} {x y : D} {b : Bool} (h : Vl ρ da x) (g : Vl ρ db y) (p1 : x.pl 8 = true) (p2 : y.pl 8 = true) (e : D.eqv x y = b) : Vl ρ (dBin fEq da db) (.bl b) := v_bin h g fun k q => ⟨p1, p2, by rw [e]; exact q⟩
theorem v_chain {ρ : List SV} {da db dc : DTE} {i j l : Int} (h : Vl ρ da (.int i)) (g : Vl ρ db (.int j)) (c : Vl ρ dc (.int l)) : Vl ρ (dChain fLe fLe da db dc) (.bl (decide (i ≤ j) && decide (j ≤ l))) := fun Q E q => h _ _ (g _ _ (by
  show (if decide (i ≤ j) = true then _ else _)
  by_cases d : i ≤ j
  · rw [if_pos (decide_eq_true d)]
    refine c _ _ ?_
    rw [decide_eq_true d, Bool.true_and] at q
    exact q
  · rw [if_neg (by simpa using d)]
    rw [decide_eq_false d, Bool.false_and] at q
    exact q))
theorem v_slT {ρ : List SV} {de : DTE} {xs : List D} {i : Int} (h : Vl ρ de (.tup xs)) (c : HT.sIx xs.length 0 none = 0 ∧ HT.sIx xs.length xs.length (some i) = xs.length → False) : Vl ρ (dSl de dNoPart (dPart (dC (.int i)))) (.tup (cutD xs none (some i))) := fun Q E q => h _ _ ⟨c, q⟩
theorem sq_set {i : Nat} {de : DTE} {b : DTS} {De : DEnds} {ρ : List SV} (h : de ρ (fun x ρ1 => storeS i x ρ1 fun ρ2 => b De ρ2) De.ex) : dSeq (dSet i de) b De ρ := h
theorem sq_asg {de : DTE} {dg : DTG} {b : DTS} {De : DEnds} {ρ : List SV} (h : de ρ (fun x ρ1 => stab x ρ1 fun a ρ2 => dg a ρ2 fun ρ3 => b De ρ3) De.ex) : dSeq (dAsg de dg) b De ρ := h
theorem if_of {dt : DTT} {da db : DTE} {ρ : List SV} {Q : DV → List SV → Prop} {E : DExc → List SV → Prop} (h : Vt ρ dt true) (g : da ρ Q E) : dIf dt da db ρ Q E := h _ _ (by rw [if_pos rfl]; exact g)
theorem if_ofF {dt : DTT} {da db : DTE} {ρ : List SV} {Q : DV → List SV → Prop} {E : DExc → List SV → Prop} (h : Vt ρ dt false) (g : db ρ Q E) : dIf dt da db ρ Q E := h _ _ (by rw [if_neg (by decide)]; exact g)
theorem bin_of {f : D → D → (DV → Prop) → Prop} {da db : DTE} {ρ : List SV} {Q : DV → List SV → Prop} {E : DExc → List SV → Prop} (h : da ρ (fun x ρ1 => db ρ1 (fun y ρ2 => pk ρ2 x.fz fun a => pk ρ2 y fun b => f a b fun z => Q z ρ2) E) E) : dBin f da db ρ Q E := h
end LL
namespace LL
open PySem L2 DW
local macro_rules | `(tactic| get_elem_tactic_extensible) => `(tactic| simp -failIfUnchanged only [shut_eq, dSeq, dSet, dRet, dExpr, dIfS, dNil, dIf, dTst, dBin, dUn, dVar, dC, dAnd, dOr, dNot, dAndV, dOrV, dNotV, dChain, dANil, dACons, dLst, dTup, dFld, dAsg, dgN, dSetIx, dLM, hasL, atL, dSetF, dCall, dCallR, hasO, dMeth, dMake, run_eq, dEnd_nx, dEnd_rt, dEnd_ex, outS, dLc, dLcG, dLcR, dFor, dForG, dForR, wipeD, backD, dYes, fLt, fLe, fGt, fGe, fEq, fNe, fIn, fNotIn, eqv_int, at_0, at_1, at_2, at_3, ix_0, ix_1, ix_2, ix_3, List.getElem?_cons_zero, List.getElem?_cons_succ, List.set_cons_zero, List.set_cons_succ, List.cons_append, List.nil_append, List.replicate_succ, List.replicate_zero, List.map_cons, List.map_nil, List.take_succ_cons, List.take_zero, List.length_cons, List.length_nil, List.take, List.length_set, pk_d, pk_fr, pk_sl, stab_d, stab_fr, stab_sl, fz_d, fz_fr, fz_sl, toD_l, toD_i, toD_k, re_rf, re_ow, store_d, store_fr, store_sl, outV_d, outV_fr, outV_sl, items_l, items_t, items_s, rng_1, rng_2, dgT_t, setAll_0, setAll_s, putR_rf, madeQ_n, fAdd_i, fAdd_l, fSub_i, fMul_i, fDiv_i, fMod_i, fPow_i, fNeg_i, fAbs_i, fCmp_i, fIn_l, fNotIn_l, fIx_l, fIx_t, fIx_s, fLen_l, fLen_t, fLen_s, fInt_i, fInt_b, fList_l, fList_t, fIsN_n, fNotN_n, isN_i, gAppend_1, gPop_c, fFld_i, fRev_l, pl_i, fIsi_i, fIsi_b, fIsi_n, fIsi_l, fIsi_t, List.length_map, anyI, pl_ints, if_false_t, dVw, dToM, dSetFM, dLMM, dMethM, dCallM, dMakeM, atM, backM, backO, tkAt, dForT, dLcT, dSetKT, hasT, dDictT, dMem, dRaise, dRaise0, mk1, mk2, dTry, dTryAs, dExcF, noEx, dSl, dPart, dNoPart, pk_me, stab_me, fz_me, store_me, outV_me, mem_un, mem_d, mem_ow, mem_rf, mem_mm, toD_t, keyT_node, madeE, madeQ, keepD_d, keepD_un, keepD_ow, keepD_rf, keepD_mm, dDict0, dSetK, hasK, atK, dGet2, keyD_i, dOutM, dCallL, dMakeR, mkSl, rfAt, madeR, madeRE, List.cons_append, List.nil_append, dCallX, dIsX, dLcH, dLcE, vw1, vw2, bare, dListR, dListR2, dForK, dkAt, dPar2, dPar3, keyD_i, dMethR, dMethP, dCallP, lentQ, noS, dSettle, dSetKM, dPopK, dStrM, dForS, dSortK, dOutT, outL, dLcI, dForI, dEnum, dZip, dgTD, dgCons, dgNil, dgIx, dSlM, dLI, fDivW_i, fDictP, Nat.reduceAdd])
/-! the text of a map -/
abbrev sI (i : Int) : Str := toString i
def tlS (x : Str) : List Nat := x.cps.toList
theorem tlS_ext {x y : Str} (h : tlS x = tlS y) : x = y := TL.ext_tl h
theorem tlS_app (x y : Str) : tlS (x ++ y) = tlS x ++ tlS y := TL.tl_append x y
theorem tlS_num (n : Nat) : tlS (sI (n : Int)) = TL.numL n := TL.tl_num n
theorem num_digit : ∀ {n : Nat} {c : Nat}, c ∈ TL.numL n → 48 ≤ c ∧ c ≤ 57 := fun {n} => by
  induction n using Nat.strongRecOn with
  | _ n ih =>
    intro c hc
    by_cases h : n < 10
    · rw [TL.numL_lt h] at hc
      have := List.mem_singleton.mp hc
      omega
    · rw [TL.numL_step (by omega)] at hc
      rcases List.mem_append.mp hc with hc | hc
      · exact ih (n / 10) (by omega) hc
      · have := List.mem_singleton.mp hc
        omega
theorem num_head : ∀ {n : Nat}, 0 < n → ∃ c cs, TL.numL n = c :: cs ∧ c ≠ 48 := fun {n} => by
  induction n using Nat.strongRecOn with
  | _ n ih =>
    intro h0
    by_cases h : n < 10
    · exact ⟨48 + n, [], TL.numL_lt h, by omega⟩
    · obtain ⟨c, cs, e, hc⟩ := ih (n / 10) (by omega) (by omega)
      exact ⟨c, cs ++ [48 + n % 10], by rw [TL.numL_step (by omega), e]; rfl, hc⟩
theorem sI_sign {i : Int} (h : 0 ≤ i) {c : Nat} (hc : c ∈ tlS (sI i)) : 48 ≤ c ∧ c ≤ 57 := by
  obtain ⟨n, rfl⟩ := Int.eq_ofNat_of_zero_le h
  rw [tlS_num] at hc
  exact num_digit hc
theorem sI_len {i : Int} (h0 : 0 ≤ i) (h1 : i < 10 ^ 10) : (sI i).length ≤ 10 := PySem.W.KT.len_num h0 h1
end LL
namespace LL
open PySem L2 DW
local macro_rules | `(tactic| get_elem_tactic_extensible) => `(tactic| simp -failIfUnchanged only [shut_eq, dSeq, dSet, dRet, dExpr, dIfS, dNil, dIf, dTst, dBin, dUn, dVar, dC, dAnd, dOr, dNot, dAndV, dOrV, dNotV, dChain, dANil, dACons, dLst, dTup, dFld, dAsg, dgN, dSetIx, dLM, hasL, atL, dSetF, dCall, dCallR, hasO, dMeth, dMake, run_eq, dEnd_nx, dEnd_rt, dEnd_ex, outS, dLc, dLcG, dLcR, dFor, dForG, dForR, wipeD, backD, dYes, fLt, fLe, fGt, fGe, fEq, fNe, fIn, fNotIn, eqv_int, at_0, at_1, at_2, at_3, ix_0, ix_1, ix_2, ix_3, List.getElem?_cons_zero, List.getElem?_cons_succ, List.set_cons_zero, List.set_cons_succ, List.cons_append, List.nil_append, List.replicate_succ, List.replicate_zero, List.map_cons, List.map_nil, List.take_succ_cons, List.take_zero, List.length_cons, List.length_nil, List.take, List.length_set, pk_d, pk_fr, pk_sl, stab_d, stab_fr, stab_sl, fz_d, fz_fr, fz_sl, toD_l, toD_i, toD_k, re_rf, re_ow, store_d, store_fr, store_sl, outV_d, outV_fr, outV_sl, items_l, items_t, items_s, rng_1, rng_2, dgT_t, setAll_0, setAll_s, putR_rf, madeQ_n, fAdd_i, fAdd_l, fSub_i, fMul_i, fDiv_i, fMod_i, fPow_i, fNeg_i, fAbs_i, fCmp_i, fIn_l, fNotIn_l, fIx_l, fIx_t, fIx_s, fLen_l, fLen_t, fLen_s, fInt_i, fInt_b, fList_l, fList_t, fIsN_n, fNotN_n, isN_i, gAppend_1, gPop_c, fFld_i, fRev_l, pl_i, fIsi_i, fIsi_b, fIsi_n, fIsi_l, fIsi_t, List.length_map, anyI, pl_ints, if_false_t, dVw, dToM, dSetFM, dLMM, dMethM, dCallM, dMakeM, atM, backM, backO, tkAt, dForT, dLcT, dSetKT, hasT, dDictT, dMem, dRaise, dRaise0, mk1, mk2, dTry, dTryAs, dExcF, noEx, dSl, dPart, dNoPart, pk_me, stab_me, fz_me, store_me, outV_me, mem_un, mem_d, mem_ow, mem_rf, mem_mm, toD_t, keyT_node, madeE, madeQ, keepD_d, keepD_un, keepD_ow, keepD_rf, keepD_mm, dDict0, dSetK, hasK, atK, dGet2, keyD_i, dOutM, dCallL, dMakeR, mkSl, rfAt, madeR, madeRE, List.cons_append, List.nil_append, dCallX, dIsX, dLcH, dLcE, vw1, vw2, bare, dListR, dListR2, dForK, dkAt, dPar2, dPar3, keyD_i, dMethR, dMethP, dCallP, lentQ, noS, dSettle, dSetKM, dPopK, dStrM, dForS, dSortK, dOutT, outL, dLcI, dForI, dEnum, dZip, dgTD, dgCons, dgNil, dgIx, dSlM, dLI, fDivW_i, fDictP, Nat.reduceAdd])
theorem eqv_str (a b : Str) : D.eqv (.str a) (.str b) = decide (a = b) := by
  show (a == b) = decide (a = b)
  by_cases c : a = b
  · rw [c, decide_eq_true rfl]; simp
  · rw [decide_eq_false c]; simp [c]
theorem pl_strs {x : Str} {n : Nat} (h : ∀ c, c ∈ tlS x → c < 1114112) : (D.str x).pl n = true := by
  have e : (D.str x).pl n = PyData.strOk x := by simp [D.pl]
  rw [e]
  unfold PyData.strOk
  rw [← Array.all_toList, List.all_eq_true]
  exact fun c hc => decide_eq_true (h c hc)
theorem figs : ∀ c : Nat, 48 ≤ c → c ≤ 57 → c ∈ tlS ("0123456789" : Str) := fun c h0 h1 => by
  have e : tlS ("0123456789" : Str) = [48, 49, 50, 51, 52, 53, 54, 55, 56, 57] := by decide +kernel
  rw [e]
  simp only [List.mem_cons, List.not_mem_nil, or_false]
  omega
theorem number_of_any {A : Cs} {n row : Int} {Q : DV → List SV → Prop} {E : DExc → List SV → Prop} (h0 : 0 ≤ n) (h1 : n < 10 ^ 10) (k : Q (.d (.int n)) [.un, .un]) : run_number_of A [.d (.str (sI n)), .d (.int row)] Q E := by
  have hl := sI_len h0 h1
  obtain ⟨m, rfl⟩ := Int.eq_ofNat_of_zero_le h0
  have sg : ∀ c, c ∈ tlS (sI (m : Int)) → 48 ≤ c ∧ c ≤ 57 := fun c hc => sI_sign h0 hc
  have hz : sizeLine = 16777216 := by decide
  obtain ⟨c, cs, ec, hc0⟩ : ∃ c cs, tlS (sI (m : Int)) = c :: cs ∧ (c = 48 → sI (m : Int) = "0") := by
    by_cases c : m = 0
    · subst c
      exact ⟨48, [], by decide +kernel, fun _ => by decide +kernel⟩
    · obtain ⟨c, cs, e, h⟩ := num_head (n := m) (by omega)
      exact ⟨c, cs, by rw [tlS_num, e], fun z => (h z).elim⟩
  have hr : intText? (sI (m : Int)) = some (m : Int) := PySem.W.KIN.num_reads h0 h1
  generalize sI (m : Int) = w at hl sg ec hc0 hr
  unfold run_number_of b_number_of
  (get_elem_tactic_extensible; repeat refine And.intro (by first | exact trivial | decide | omega) ?_)
  have ne : w ≠ ("" : Str) := fun z => by
    have := congrArg tlS z
    rw [ec, show tlS ("" : Str) = [] by decide +kernel] at this
    cases this
  have plw : (D.str w).pl 8 = true := pl_strs fun c hc => by have := sg c hc; omega
  have rest : r_number_of_3 A (dEnd 2 Q E) [.d (.str w), .d (.int row), .un] := by
    unfold r_number_of_3
    (get_elem_tactic_extensible; repeat refine And.intro (by first | exact trivial | decide | omega) ?_)
    refine forN_ind (fun c : Nat => D.str ⟨#[c]⟩) (fun todo ρ => ∃ x2, (∀ c, c ∈ todo → c ∈ tlS w) ∧ ρ = [.d (.str w), .d (.int row), x2]) ?_ ?_ w.cps.toList _ ⟨.un, fun c hc => hc, rfl⟩
    · rintro ρ ⟨x2, _, rfl⟩
      unfold r_number_of_2
      (get_elem_tactic_extensible; repeat refine And.intro (by first | exact trivial | decide | omega) ?_)
      exact ⟨(m : Int), hr, by omega, k⟩
    · rintro c todo ρ N ⟨x2, hm, rfl⟩ hN
      have hc := sg c (hm c List.mem_cons_self)
      unfold l_number_of_1
      (get_elem_tactic_extensible; repeat refine And.intro (by first | exact trivial | decide | omega) ?_)
      refine ⟨c, rfl, ?_⟩
      have : c ∈ (("0123456789" : Str)).cps.toList := figs c hc.1 hc.2
      rw [decide_eq_true this]
      (get_elem_tactic_extensible; repeat refine And.intro (by first | exact trivial | decide | omega) ?_)
      exact hN _ ⟨_, fun c hc => hm c (List.mem_cons_of_mem _ hc), rfl⟩
  refine ⟨plw, by decide +kernel, ?_⟩
  rw [eqv_str, if_neg (by simpa using ne)]
  simp only [shut_eq, dSeq, dSet, dRet, dExpr, dIfS, dNil, dIf, dTst, dBin, dUn, dVar, dC, dAnd, dOr, dNot, dAndV, dOrV, dNotV, dChain, dANil, dACons, dLst, dTup, dFld, dAsg, dgN, dSetIx, dLM, hasL, atL, dSetF, dCall, dCallR, hasO, dMeth, dMake, run_eq, dEnd_nx, dEnd_rt, dEnd_ex, outS, dLc, dLcG, dLcR, dFor, dForG, dForR, wipeD, backD, dYes, fLt, fLe, fGt, fGe, fEq, fNe, fIn, fNotIn, eqv_int, at_0, at_1, at_2, at_3, ix_0, ix_1, ix_2, ix_3, List.getElem?_cons_zero, List.getElem?_cons_succ, List.set_cons_zero, List.set_cons_succ, List.cons_append, List.nil_append, List.replicate_succ, List.replicate_zero, List.map_cons, List.map_nil, List.take_succ_cons, List.take_zero, List.length_cons, List.length_nil, List.take, List.length_set, pk_d, pk_fr, pk_sl, stab_d, stab_fr, stab_sl, fz_d, fz_fr, fz_sl, toD_l, toD_i, toD_k, re_rf, re_ow, store_d, store_fr, store_sl, outV_d, outV_fr, outV_sl, items_l, items_t, items_s, rng_1, rng_2, dgT_t, setAll_0, setAll_s, putR_rf, madeQ_n, fAdd_i, fAdd_l, fSub_i, fMul_i, fDiv_i, fMod_i, fPow_i, fNeg_i, fAbs_i, fCmp_i, fIn_l, fNotIn_l, fIx_l, fIx_t, fIx_s, fLen_l, fLen_t, fLen_s, fInt_i, fInt_b, fList_l, fList_t, fIsN_n, fNotN_n, isN_i, gAppend_1, gPop_c, fFld_i, fRev_l, pl_i, fIsi_i, fIsi_b, fIsi_n, fIsi_l, fIsi_t, List.length_map, anyI, pl_ints, if_false_t, dVw, dToM, dSetFM, dLMM, dMethM, dCallM, dMakeM, atM, backM, backO, tkAt, dForT, dLcT, dSetKT, hasT, dDictT, dMem, dRaise, dRaise0, mk1, mk2, dTry, dTryAs, dExcF, noEx, dSl, dPart, dNoPart, pk_me, stab_me, fz_me, store_me, outV_me, mem_un, mem_d, mem_ow, mem_rf, mem_mm, toD_t, keyT_node, madeE, madeQ, keepD_d, keepD_un, keepD_ow, keepD_rf, keepD_mm, dDict0, dSetK, hasK, atK, dGet2, keyD_i, dOutM, dCallL, dMakeR, mkSl, rfAt, madeR, madeRE, List.cons_append, List.nil_append, dCallX, dIsX, dLcH, dLcE, vw1, vw2, bare, dListR, dListR2, dForK, dkAt, dPar2, dPar3, keyD_i, dMethR, dMethP, dCallP, lentQ, noS, dSettle, dSetKM, dPopK, dStrM, dForS, dSortK, dOutT, outL, dLcI, dForI, dEnum, dZip, dgTD, dgCons, dgNil, dgIx, dSlM, dLI, fDivW_i, fDictP, Nat.reduceAdd, DW.fLen, DW.fCmp, DW.fIx]
  rw [if_neg (by simp; omega)]
  have e0 : w.cps.toList[0]? = some c := by rw [show w.cps.toList = c :: cs from ec]; rfl
  rw [e0]
  have plc : (D.str ⟨#[c]⟩).pl 8 = true := pl_strs fun d hd => by
    have hd : d = c := List.mem_singleton.mp hd
    have := sg c (by rw [ec]; exact List.mem_cons_self)
    omega
  refine ⟨by omega, by omega, plc, by decide +kernel, ?_⟩
  rw [eqv_str, eqv_str]
  by_cases c0 : c = 48
  · rw [if_pos (by subst c0; decide +kernel)]
    refine ⟨plw, by decide +kernel, ?_⟩
    rw [if_neg (by simp [hc0 c0])]
    exact rest
  · rw [if_neg (fun z => c0 ?_)]
    · exact rest
    · have e := of_decide_eq_true z
      have := congrArg tlS e
      rw [show tlS ("0" : Str) = [48] by decide +kernel] at this
      have : [c] = [48] := this
      exact (List.cons.inj this).1
end LL
namespace LL
open PySem L2 DW
local macro_rules | `(tactic| get_elem_tactic_extensible) => `(tactic| simp -failIfUnchanged only [shut_eq, dSeq, dSet, dRet, dExpr, dIfS, dNil, dIf, dTst, dBin, dUn, dVar, dC, dAnd, dOr, dNot, dAndV, dOrV, dNotV, dChain, dANil, dACons, dLst, dTup, dFld, dAsg, dgN, dSetIx, dLM, hasL, atL, dSetF, dCall, dCallR, hasO, dMeth, dMake, run_eq, dEnd_nx, dEnd_rt, dEnd_ex, outS, dLc, dLcG, dLcR, dFor, dForG, dForR, wipeD, backD, dYes, fLt, fLe, fGt, fGe, fEq, fNe, fIn, fNotIn, eqv_int, at_0, at_1, at_2, at_3, ix_0, ix_1, ix_2, ix_3, List.getElem?_cons_zero, List.getElem?_cons_succ, List.set_cons_zero, List.set_cons_succ, List.cons_append, List.nil_append, List.replicate_succ, List.replicate_zero, List.map_cons, List.map_nil, List.take_succ_cons, List.take_zero, List.length_cons, List.length_nil, List.take, List.length_set, pk_d, pk_fr, pk_sl, stab_d, stab_fr, stab_sl, fz_d, fz_fr, fz_sl, toD_l, toD_i, toD_k, re_rf, re_ow, store_d, store_fr, store_sl, outV_d, outV_fr, outV_sl, items_l, items_t, items_s, rng_1, rng_2, dgT_t, setAll_0, setAll_s, putR_rf, madeQ_n, fAdd_i, fAdd_l, fSub_i, fMul_i, fDiv_i, fMod_i, fPow_i, fNeg_i, fAbs_i, fCmp_i, fIn_l, fNotIn_l, fIx_l, fIx_t, fIx_s, fLen_l, fLen_t, fLen_s, fInt_i, fInt_b, fList_l, fList_t, fIsN_n, fNotN_n, isN_i, gAppend_1, gPop_c, fFld_i, fRev_l, pl_i, fIsi_i, fIsi_b, fIsi_n, fIsi_l, fIsi_t, List.length_map, anyI, pl_ints, if_false_t, dVw, dToM, dSetFM, dLMM, dMethM, dCallM, dMakeM, atM, backM, backO, tkAt, dForT, dLcT, dSetKT, hasT, dDictT, dMem, dRaise, dRaise0, mk1, mk2, dTry, dTryAs, dExcF, noEx, dSl, dPart, dNoPart, pk_me, stab_me, fz_me, store_me, outV_me, mem_un, mem_d, mem_ow, mem_rf, mem_mm, toD_t, keyT_node, madeE, madeQ, keepD_d, keepD_un, keepD_ow, keepD_rf, keepD_mm, dDict0, dSetK, hasK, atK, dGet2, keyD_i, dOutM, dCallL, dMakeR, mkSl, rfAt, madeR, madeRE, List.cons_append, List.nil_append, dCallX, dIsX, dLcH, dLcE, vw1, vw2, bare, dListR, dListR2, dForK, dkAt, dPar2, dPar3, keyD_i, dMethR, dMethP, dCallP, lentQ, noS, dSettle, dSetKM, dPopK, dStrM, dForS, dSortK, dOutT, outL, dLcI, dForI, dEnum, dZip, dgTD, dgCons, dgNil, dgIx, dSlM, dLI, fDivW_i, fDictP, Nat.reduceAdd])
abbrev spS : Str := " "
abbrev nlS : Str := "\n"
def lineM (many root : Int) : Str := ("map " : Str) ++ sI many ++ " " ++ sI root
def lineR (r : Road) : Str := ("road " : Str) ++ Txt.join " " [sI r.1, sI r.2.1, sI r.2.2]
def linesL (many root : Int) (rs : List Road) : List Str := lineM many root :: rs.map lineR
def textM (many root : Int) (rs : List Road) : Str := Txt.join nlS (linesL many root rs)
theorem tlS_join (y : Str) (ps : List Str) : tlS (Txt.join y ps) = TL.joinL (tlS y) (ps.map tlS) := by
  rw [TL.join_eq]
  exact TL.tl_join y ps
theorem lineM_join (many root : Int) : lineM many root = Txt.join spS [("map" : Str), sI many, sI root] := by
  refine tlS_ext ?_
  rw [tlS_join]
  unfold lineM
  rw [tlS_app, tlS_app, tlS_app]
  show ((tlS ("map " : Str) ++ tlS (sI many)) ++ tlS spS) ++ tlS (sI root) = tlS ("map" : Str) ++ (tlS spS ++ (tlS (sI many) ++ (tlS spS ++ tlS (sI root))))
  rw [show tlS ("map " : Str) = tlS ("map" : Str) ++ tlS spS by decide +kernel]
  simp only [List.append_assoc]
theorem lineR_join (r : Road) : lineR r = Txt.join spS [("road" : Str), sI r.1, sI r.2.1, sI r.2.2] := by
  refine tlS_ext ?_
  rw [tlS_join]
  unfold lineR
  rw [tlS_app, tlS_join]
  show tlS ("road " : Str) ++ (tlS (sI r.1) ++ (tlS spS ++ (tlS (sI r.2.1) ++ (tlS spS ++ tlS (sI r.2.2))))) = tlS ("road" : Str) ++ (tlS spS ++ (tlS (sI r.1) ++ (tlS spS ++ (tlS (sI r.2.1) ++ (tlS spS ++ tlS (sI r.2.2))))))
  rw [show tlS ("road " : Str) = tlS ("road" : Str) ++ tlS spS by decide +kernel]
  simp only [List.append_assoc]
theorem sp_not {i : Int} (h : 0 ≤ i) : 32 ∉ tlS (sI i) := fun z => by
  have := sI_sign h z
  omega
theorem lineM_split {many root : Int} (h0 : 0 ≤ many) (h1 : 0 ≤ root) : Txt.split (lineM many root) spS = [("map" : Str), sI many, sI root] := by
  rw [lineM_join]
  refine TL.split_join (s := 32) (S := []) (by decide +kernel) (by decide +kernel) (by simp) fun p hp => ?_
  simp only [List.mem_cons, List.not_mem_nil, or_false] at hp
  rcases hp with rfl | rfl | rfl
  · decide +kernel
  · exact sp_not h0
  · exact sp_not h1
theorem lineR_split {r : Road} (h0 : 0 ≤ r.1) (h1 : 0 ≤ r.2.1) (h2 : 0 ≤ r.2.2) : Txt.split (lineR r) spS = [("road" : Str), sI r.1, sI r.2.1, sI r.2.2] := by
  rw [lineR_join]
  refine TL.split_join (s := 32) (S := []) (by decide +kernel) (by decide +kernel) (by simp) fun p hp => ?_
  simp only [List.mem_cons, List.not_mem_nil, or_false] at hp
  rcases hp with rfl | rfl | rfl | rfl
  · decide +kernel
  · exact sp_not h0
  · exact sp_not h1
  · exact sp_not h2
/-- what may stand in a line -/
theorem lineM_sign {many root : Int} (h0 : 0 ≤ many) (h1 : 0 ≤ root) {c : Nat} (hc : c ∈ tlS (lineM many root)) : c = 32 ∨ (48 ≤ c ∧ c ≤ 57) ∨ (97 ≤ c ∧ c ≤ 122) := by
  unfold lineM at hc
  rw [tlS_app, tlS_app, tlS_app] at hc
  simp only [List.mem_append] at hc
  have e : tlS ("map " : Str) = [109, 97, 112, 32] := by decide +kernel
  have e2 : tlS (" " : Str) = [32] := by decide +kernel
  rw [e, e2] at hc
  simp only [List.mem_cons, List.not_mem_nil, or_false] at hc
  rcases hc with ((h | h) | h) | h
  · omega
  · exact .inr (.inl (sI_sign h0 h))
  · omega
  · exact .inr (.inl (sI_sign h1 h))
theorem lineR_sign {r : Road} (h0 : 0 ≤ r.1) (h1 : 0 ≤ r.2.1) (h2 : 0 ≤ r.2.2) {c : Nat} (hc : c ∈ tlS (lineR r)) : c = 32 ∨ (48 ≤ c ∧ c ≤ 57) ∨ (97 ≤ c ∧ c ≤ 122) := by
  unfold lineR at hc
  rw [tlS_app, tlS_join] at hc
  have hc : c ∈ tlS ("road " : Str) ++ (tlS (sI r.1) ++ (tlS (" " : Str) ++ (tlS (sI r.2.1) ++ (tlS (" " : Str) ++ tlS (sI r.2.2))))) := hc
  simp only [List.mem_append] at hc
  have e : tlS ("road " : Str) = [114, 111, 97, 100, 32] := by decide +kernel
  have e2 : tlS (" " : Str) = [32] := by decide +kernel
  rw [e, e2] at hc
  simp only [List.mem_cons, List.not_mem_nil, or_false] at hc
  rcases hc with h | h | h | h | h | h
  · omega
  · exact .inr (.inl (sI_sign h0 h))
  · omega
  · exact .inr (.inl (sI_sign h1 h))
  · omega
  · exact .inr (.inl (sI_sign h2 h))
theorem textM_split {many root : Int} {rs : List Road} (h0 : 0 ≤ many) (h1 : 0 ≤ root) (h2 : ∀ r, r ∈ rs → 0 ≤ r.1 ∧ 0 ≤ r.2.1 ∧ 0 ≤ r.2.2) : Txt.split (textM many root rs) nlS = linesL many root rs := by
  refine TL.split_join (s := 10) (S := []) (by decide +kernel) (by decide +kernel) (by unfold linesL; simp) fun p hp => ?_
  unfold linesL at hp
  rcases List.mem_cons.mp hp with rfl | hp
  · intro z
    have := lineM_sign h0 h1 z
    omega
  · obtain ⟨r, hr, rfl⟩ := List.mem_map.mp hp
    obtain ⟨g0, g1, g2⟩ := h2 r hr
    intro z
    have := lineR_sign g0 g1 g2 z
    omega
/-! how long -/
theorem len_tlS (x : Str) : x.length = (tlS x).length := TL.len_tl x
theorem len_app (x y : Str) : (x ++ y).length = x.length + y.length := by
  rw [len_tlS, tlS_app, List.length_append, ← len_tlS, ← len_tlS]
theorem joinL_len (S : List Nat) : ∀ ps : List (List Nat), (TL.joinL S ps).length ≤ (ps.map List.length).sum + ps.length * S.length
  | [] => by simp [TL.joinL]
  | [p] => by simp [TL.joinL]
  | p :: q :: r => by
    have ih := joinL_len S (q :: r)
    show (p ++ (S ++ TL.joinL S (q :: r))).length ≤ _
    rw [List.length_append, List.length_append, List.map_cons, List.sum_cons, List.length_cons, Nat.add_mul]
    omega
theorem lineM_len {many root : Int} (h0 : 0 ≤ many) (h1 : 0 ≤ root) (g0 : many < 10 ^ 10) (g1 : root < 10 ^ 10) : (lineM many root).length ≤ 60 := by
  unfold lineM
  rw [len_app, len_app, len_app]
  have a := sI_len h0 g0
  have b := sI_len h1 g1
  have e : ("map " : Str).length = 4 := by decide +kernel
  have e2 : (" " : Str).length = 1 := by decide +kernel
  omega
theorem lineR_len {r : Road} (h0 : 0 ≤ r.1) (h1 : 0 ≤ r.2.1) (h2 : 0 ≤ r.2.2) (g0 : r.1 < 10 ^ 10) (g1 : r.2.1 < 10 ^ 10) (g2 : r.2.2 < 10 ^ 10) : (lineR r).length ≤ 60 := by
  rw [lineR_join, len_tlS, tlS_join]
  have a := sI_len h0 g0
  have b := sI_len h1 g1
  have c := sI_len h2 g2
  rw [len_tlS] at a b c
  have l := joinL_len (tlS spS) ([("road" : Str), sI r.1, sI r.2.1, sI r.2.2].map tlS)
  have e : (tlS ("road" : Str)).length = 4 := by decide +kernel
  have e2 : (tlS spS).length = 1 := by decide +kernel
  simp only [List.map_cons, List.map_nil, List.sum_cons, List.sum_nil, List.length_cons, List.length_nil, e, e2] at l ⊢
  omega
theorem textM_len {many root : Int} {rs : List Road} (hn : rs.length ≤ 61) (h : ∀ x, x ∈ linesL many root rs → x.length ≤ 60) : (textM many root rs).length ≤ 4000 := by
  unfold textM
  rw [len_tlS, tlS_join]
  have l := joinL_len (tlS nlS) ((linesL many root rs).map tlS)
  have e2 : (tlS nlS).length = 1 := by decide +kernel
  have key : ∀ xs : List Str, (∀ x, x ∈ xs → x.length ≤ 60) → ((xs.map tlS).map List.length).sum ≤ 60 * xs.length := fun xs => by
    induction xs with
    | nil => intro _; simp
    | cons a xs ih =>
      intro h
      have := ih fun x hx => h x (List.mem_cons_of_mem _ hx)
      have := h a List.mem_cons_self
      rw [len_tlS] at this
      rw [List.map_cons, List.map_cons, List.sum_cons, List.length_cons]
      omega
  have := key _ h
  have hl : (linesL many root rs).length = rs.length + 1 := by unfold linesL; rw [List.length_cons, List.length_map]
  rw [e2, List.length_map] at l
  omega
/-- a line's bound for a map -/
theorem lines_len {many : Nat} {root : Int} {rs : List Road} (hm : many ≤ 20) (h0 : 0 ≤ root) (h1 : root < many) (hg : ∀ r, r ∈ rs → GoodRoad (many : Int) r) : ∀ x, x ∈ linesL (many : Int) root rs → x.length ≤ 60 := fun x hx => by
  unfold linesL at hx
  rcases List.mem_cons.mp hx with rfl | hx
  · exact lineM_len (by omega) h0 (by omega) (by omega)
  · obtain ⟨r, hr, rfl⟩ := List.mem_map.mp hx
    obtain ⟨a, b, c, d, e, f, g⟩ := hg r hr
    exact lineR_len a c f (by omega) (by omega) (by omega)
theorem good_nn {many : Nat} {rs : List Road} (hg : ∀ r, r ∈ rs → GoodRoad (many : Int) r) : ∀ r, r ∈ rs → 0 ≤ r.1 ∧ 0 ≤ r.2.1 ∧ 0 ≤ r.2.2 := fun r hr => by
  obtain ⟨a, b, c, d, e, f, g⟩ := hg r hr
  exact ⟨a, c, f⟩
end LL
namespace LL
open PySem L2 DW
local macro_rules | `(tactic| get_elem_tactic_extensible) => `(tactic| simp -failIfUnchanged only [shut_eq, dSeq, dSet, dRet, dExpr, dIfS, dNil, dIf, dTst, dBin, dUn, dVar, dC, dAnd, dOr, dNot, dAndV, dOrV, dNotV, dChain, dANil, dACons, dLst, dTup, dFld, dAsg, dgN, dSetIx, dLM, hasL, atL, dSetF, dCall, dCallR, hasO, dMeth, dMake, run_eq, dEnd_nx, dEnd_rt, dEnd_ex, outS, dLc, dLcG, dLcR, dFor, dForG, dForR, wipeD, backD, dYes, fLt, fLe, fGt, fGe, fEq, fNe, fIn, fNotIn, eqv_int, at_0, at_1, at_2, at_3, ix_0, ix_1, ix_2, ix_3, List.getElem?_cons_zero, List.getElem?_cons_succ, List.set_cons_zero, List.set_cons_succ, List.cons_append, List.nil_append, List.replicate_succ, List.replicate_zero, List.map_cons, List.map_nil, List.take_succ_cons, List.take_zero, List.length_cons, List.length_nil, List.take, List.length_set, pk_d, pk_fr, pk_sl, stab_d, stab_fr, stab_sl, fz_d, fz_fr, fz_sl, toD_l, toD_i, toD_k, re_rf, re_ow, store_d, store_fr, store_sl, outV_d, outV_fr, outV_sl, items_l, items_t, items_s, rng_1, rng_2, dgT_t, setAll_0, setAll_s, putR_rf, madeQ_n, fAdd_i, fAdd_l, fSub_i, fMul_i, fDiv_i, fMod_i, fPow_i, fNeg_i, fAbs_i, fCmp_i, fIn_l, fNotIn_l, fIx_l, fIx_t, fIx_s, fLen_l, fLen_t, fLen_s, fInt_i, fInt_b, fList_l, fList_t, fIsN_n, fNotN_n, isN_i, gAppend_1, gPop_c, fFld_i, fRev_l, pl_i, fIsi_i, fIsi_b, fIsi_n, fIsi_l, fIsi_t, List.length_map, anyI, pl_ints, if_false_t, dVw, dToM, dSetFM, dLMM, dMethM, dCallM, dMakeM, atM, backM, backO, tkAt, dForT, dLcT, dSetKT, hasT, dDictT, dMem, dRaise, dRaise0, mk1, mk2, dTry, dTryAs, dExcF, noEx, dSl, dPart, dNoPart, pk_me, stab_me, fz_me, store_me, outV_me, mem_un, mem_d, mem_ow, mem_rf, mem_mm, toD_t, keyT_node, madeE, madeQ, keepD_d, keepD_un, keepD_ow, keepD_rf, keepD_mm, dDict0, dSetK, hasK, atK, dGet2, keyD_i, dOutM, dCallL, dMakeR, mkSl, rfAt, madeR, madeRE, List.cons_append, List.nil_append, dCallX, dIsX, dLcH, dLcE, vw1, vw2, bare, dListR, dListR2, dForK, dkAt, dPar2, dPar3, keyD_i, dMethR, dMethP, dCallP, lentQ, noS, dSettle, dSetKM, dPopK, dStrM, dForS, dSortK, dOutT, outL, dLcI, dForI, dEnum, dZip, dgTD, dgCons, dgNil, dgIx, dSlM, dLI, fDivW_i, fDictP, Nat.reduceAdd])
theorem log_small {i : Int} (h0 : 0 ≤ i) (h1 : i < 10 ^ 10) : i.natAbs.log2 < 1920 := by
  by_cases c : i.natAbs = 0
  · rw [c]; decide
  · rw [Nat.log2_lt c]
    have : i.natAbs < 2 ^ 40 := by
      have : (2 : Nat) ^ 40 = 1099511627776 := by decide
      omega
    exact Nat.lt_of_lt_of_le this (Nat.pow_le_pow_right (by decide) (by decide))
theorem fStr_i {i : Int} {kv : DV → Prop} (h0 : 0 ≤ i) (h1 : i < 10 ^ 10) (k : kv (.d (.str (sI i)))) : fStr (.int i) kv := ⟨log_small h0 h1, k⟩
theorem three_len {a b c : Int} (h0 : 0 ≤ a) (h1 : 0 ≤ b) (h2 : 0 ≤ c) (g0 : a < 10 ^ 10) (g1 : b < 10 ^ 10) (g2 : c < 10 ^ 10) : (([sI a, sI b, sI c] : List Str).map (·.length)).sum + 3 * spS.length ≤ 60 := by
  have x := sI_len h0 g0
  have y := sI_len h1 g1
  have z := sI_len h2 g2
  have e2 : spS.length = 1 := by decide +kernel
  simp only [List.map_cons, List.map_nil, List.sum_cons, List.sum_nil, e2]
  omega
end LL
namespace LL
open PySem L2 DW
local macro_rules | `(tactic| get_elem_tactic_extensible) => `(tactic| simp -failIfUnchanged only [shut_eq, dSeq, dSet, dRet, dExpr, dIfS, dNil, dIf, dTst, dBin, dUn, dVar, dC, dAnd, dOr, dNot, dAndV, dOrV, dNotV, dChain, dANil, dACons, dLst, dTup, dFld, dAsg, dgN, dSetIx, dLM, hasL, atL, dSetF, dCall, dCallR, hasO, dMeth, dMake, run_eq, dEnd_nx, dEnd_rt, dEnd_ex, outS, dLc, dLcG, dLcR, dFor, dForG, dForR, wipeD, backD, dYes, fLt, fLe, fGt, fGe, fEq, fNe, fIn, fNotIn, eqv_int, at_0, at_1, at_2, at_3, ix_0, ix_1, ix_2, ix_3, List.getElem?_cons_zero, List.getElem?_cons_succ, List.set_cons_zero, List.set_cons_succ, List.cons_append, List.nil_append, List.replicate_succ, List.replicate_zero, List.map_cons, List.map_nil, List.take_succ_cons, List.take_zero, List.length_cons, List.length_nil, List.take, List.length_set, pk_d, pk_fr, pk_sl, stab_d, stab_fr, stab_sl, fz_d, fz_fr, fz_sl, toD_l, toD_i, toD_k, re_rf, re_ow, store_d, store_fr, store_sl, outV_d, outV_fr, outV_sl, items_l, items_t, items_s, rng_1, rng_2, dgT_t, setAll_0, setAll_s, putR_rf, madeQ_n, fAdd_i, fAdd_l, fSub_i, fMul_i, fDiv_i, fMod_i, fPow_i, fNeg_i, fAbs_i, fCmp_i, fIn_l, fNotIn_l, fIx_l, fIx_t, fIx_s, fLen_l, fLen_t, fLen_s, fInt_i, fInt_b, fList_l, fList_t, fIsN_n, fNotN_n, isN_i, gAppend_1, gPop_c, fFld_i, fRev_l, pl_i, fIsi_i, fIsi_b, fIsi_n, fIsi_l, fIsi_t, List.length_map, anyI, pl_ints, if_false_t, dVw, dToM, dSetFM, dLMM, dMethM, dCallM, dMakeM, atM, backM, backO, tkAt, dForT, dLcT, dSetKT, hasT, dDictT, dMem, dRaise, dRaise0, mk1, mk2, dTry, dTryAs, dExcF, noEx, dSl, dPart, dNoPart, pk_me, stab_me, fz_me, store_me, outV_me, mem_un, mem_d, mem_ow, mem_rf, mem_mm, toD_t, keyT_node, madeE, madeQ, keepD_d, keepD_un, keepD_ow, keepD_rf, keepD_mm, dDict0, dSetK, hasK, atK, dGet2, keyD_i, dOutM, dCallL, dMakeR, mkSl, rfAt, madeR, madeRE, List.cons_append, List.nil_append, dCallX, dIsX, dLcH, dLcE, vw1, vw2, bare, dListR, dListR2, dForK, dkAt, dPar2, dPar3, keyD_i, dMethR, dMethP, dCallP, lentQ, noS, dSettle, dSetKM, dPopK, dStrM, dForS, dSortK, dOutT, outL, dLcI, dForI, dEnum, dZip, dgTD, dgCons, dgNil, dgIx, dSlM, dLI, fDivW_i, fDictP, Nat.reduceAdd])
theorem sl_tail {x : D} {xs : List D} {k : DV → Prop} (h : k (.fr (.l xs))) : fSl (.lst (x :: xs)) (some 1) none k := by
  have e : cutD (x :: xs) (some 1) none = xs := by
    unfold cutD
    show List.take ((x :: xs).length - min 1 (xs.length + 1)) ((x :: xs).drop (min 1 (xs.length + 1))) = xs
    have : min 1 (xs.length + 1) = 1 := by omega
    rw [this, List.drop_succ_cons, List.drop_zero, List.length_cons, Nat.add_sub_cancel, List.take_length]
  show k (.fr (.l (cutD (x :: xs) (some 1) none)))
  rw [e]
  exact h
/-! words that are no numbers, rows that are none -/
def textE (A : Cs) (row : Int) : DExc := ⟨.ref A.BadText, some [("row", .int row)]⟩
def badL (l : List Nat) : Bool := l.isEmpty || (decide (10 < l.length) || ((l.head? == some 48 && !(l == [48])) || l.any fun c => !(decide (48 ≤ c) && decide (c ≤ 57))))
def badW (w : Str) : Bool := badL (tlS w)
theorem digits_num : ∀ (k : Nat) (l : List Nat), l.length = k → (∀ c, c ∈ l → 48 ≤ c ∧ c ≤ 57) → l ≠ [] → (l.head? = some 48 → l = [48]) → ∃ n, l = TL.numL n := fun k => by
  induction k using Nat.strongRecOn with
  | _ k ih =>
    intro l hl hd hne hz
    obtain ⟨l', c, rfl⟩ : ∃ l' c, l = l' ++ [c] := ⟨l.dropLast, l.getLast hne, (List.dropLast_concat_getLast hne).symm⟩
    have hc := hd c (by simp)
    rw [List.length_append, List.length_singleton] at hl
    cases l' with
    | nil => exact ⟨c - 48, by rw [TL.numL_lt (by omega), List.nil_append]; congr 1; omega⟩
    | cons a l' =>
      have no48 : a ≠ 48 := fun z => by
        have := congrArg List.length (hz (by simp [z]))
        simp at this
      obtain ⟨m, hm⟩ := ih (a :: l').length (by omega) (a :: l') rfl (fun c hc => hd c (List.mem_append_left _ hc)) (by simp) (fun z => absurd (by simpa using z) no48)
      have m0 : m ≠ 0 := fun z => by
        rw [z, TL.numL_lt (by omega)] at hm
        exact no48 (List.cons.inj hm).1
      refine ⟨10 * m + (c - 48), ?_⟩
      rw [TL.numL_step (by omega), hm]
      have a1 : (10 * m + (c - 48)) / 10 = m := by omega
      have a2 : 48 + (10 * m + (c - 48)) % 10 = c := by omega
      rw [a1, a2]
theorem numL_ge : ∀ (k m : Nat), 10 ^ k ≤ m → k < (TL.numL m).length
  | 0, m, _ => List.length_pos_iff.mpr (TL.numL_ne m)
  | k + 1, m, h => by
    have h10 : 10 ≤ m := by
      have : (1 : Nat) ≤ 10 ^ k := Nat.pow_pos (n := k) (show 0 < 10 by decide)
      rw [Nat.pow_succ] at h
      omega
    rw [TL.numL_step h10, List.length_append, List.length_singleton]
    have := numL_ge k (m / 10) (by rw [Nat.pow_succ] at h; omega)
    omega
theorem word_num {w : Str} (h : badW w = false) : ∃ n : Int, 0 ≤ n ∧ n < 10 ^ 10 ∧ w = sI n := by
  unfold badW badL at h
  simp only [Bool.or_eq_false_iff, Bool.and_eq_false_iff, decide_eq_false_iff_not, List.isEmpty_eq_false_iff, List.any_eq_false] at h
  obtain ⟨h1, h2, h3, h4⟩ := h
  obtain ⟨n, hn⟩ := digits_num _ (tlS w) rfl (fun c hc => by
    have := h4 c hc
    simp at this
    omega) h1 fun z => by
    rcases h3 with h3 | h3
    · rw [z] at h3; simp at h3
    · simpa using h3
  refine ⟨n, by omega, ?_, tlS_ext (by rw [tlS_num, hn])⟩
  refine Decidable.byContradiction fun z => ?_
  have := numL_ge 10 n (by omega)
  rw [← hn] at this
  omega
theorem strOk_lt {w : Str} (h : PyData.strOk w = true) : ∀ c, c ∈ tlS w → c < 1114112 := by
  unfold PyData.strOk at h
  rw [← Array.all_toList, List.all_eq_true] at h
  exact fun c hc => of_decide_eq_true (h c hc)
theorem figs_only {c : Nat} (h : c ∈ tlS ("0123456789" : Str)) : 48 ≤ c ∧ c ≤ 57 := by
  have e : tlS ("0123456789" : Str) = [48, 49, 50, 51, 52, 53, 54, 55, 56, 57] := by decide +kernel
  rw [e] at h
  simp only [List.mem_cons, List.not_mem_nil, or_false] at h
  omega
theorem number_of_bad {A : Cs} {w : Str} {row : Int} {Q : DV → List SV → Prop} {E : DExc → List SV → Prop} (hs : PyData.strOk w = true) (hlw : w.length ≤ 1000) (hb : badW w = true) (k : E (textE A row) [.un, .un]) : run_number_of A [.d (.str w), .d (.int row)] Q E := by
  have hlt := strOk_lt hs
  have hz : sizeLine = 16777216 := by decide
  have plw : (D.str w).pl 8 = true := pl_strs hlt
  unfold textE at k
  unfold run_number_of b_number_of
  get_elem_tactic_extensible
  refine ⟨plw, by decide +kernel, ?_⟩
  rw [eqv_str]
  by_cases ne : w = ("" : Str)
  · rw [if_pos (decide_eq_true ne)]
    exact k
  rw [if_neg (by simpa using ne)]
  simp only [shut_eq, dSeq, dSet, dRet, dExpr, dIfS, dNil, dIf, dTst, dBin, dUn, dVar, dC, dAnd, dOr, dNot, dAndV, dOrV, dNotV, dChain, dANil, dACons, dLst, dTup, dFld, dAsg, dgN, dSetIx, dLM, hasL, atL, dSetF, dCall, dCallR, hasO, dMeth, dMake, run_eq, dEnd_nx, dEnd_rt, dEnd_ex, outS, dLc, dLcG, dLcR, dFor, dForG, dForR, wipeD, backD, dYes, fLt, fLe, fGt, fGe, fEq, fNe, fIn, fNotIn, eqv_int, at_0, at_1, at_2, at_3, ix_0, ix_1, ix_2, ix_3, List.getElem?_cons_zero, List.getElem?_cons_succ, List.set_cons_zero, List.set_cons_succ, List.cons_append, List.nil_append, List.replicate_succ, List.replicate_zero, List.map_cons, List.map_nil, List.take_succ_cons, List.take_zero, List.length_cons, List.length_nil, List.take, List.length_set, pk_d, pk_fr, pk_sl, stab_d, stab_fr, stab_sl, fz_d, fz_fr, fz_sl, toD_l, toD_i, toD_k, re_rf, re_ow, store_d, store_fr, store_sl, outV_d, outV_fr, outV_sl, items_l, items_t, items_s, rng_1, rng_2, dgT_t, setAll_0, setAll_s, putR_rf, madeQ_n, fAdd_i, fAdd_l, fSub_i, fMul_i, fDiv_i, fMod_i, fPow_i, fNeg_i, fAbs_i, fCmp_i, fIn_l, fNotIn_l, fIx_l, fIx_t, fIx_s, fLen_l, fLen_t, fLen_s, fInt_i, fInt_b, fList_l, fList_t, fIsN_n, fNotN_n, isN_i, gAppend_1, gPop_c, fFld_i, fRev_l, pl_i, fIsi_i, fIsi_b, fIsi_n, fIsi_l, fIsi_t, List.length_map, anyI, pl_ints, if_false_t, dVw, dToM, dSetFM, dLMM, dMethM, dCallM, dMakeM, atM, backM, backO, tkAt, dForT, dLcT, dSetKT, hasT, dDictT, dMem, dRaise, dRaise0, mk1, mk2, dTry, dTryAs, dExcF, noEx, dSl, dPart, dNoPart, pk_me, stab_me, fz_me, store_me, outV_me, mem_un, mem_d, mem_ow, mem_rf, mem_mm, toD_t, keyT_node, madeE, madeQ, keepD_d, keepD_un, keepD_ow, keepD_rf, keepD_mm, dDict0, dSetK, hasK, atK, dGet2, keyD_i, dOutM, dCallL, dMakeR, mkSl, rfAt, madeR, madeRE, List.cons_append, List.nil_append, dCallX, dIsX, dLcH, dLcE, vw1, vw2, bare, dListR, dListR2, dForK, dkAt, dPar2, dPar3, keyD_i, dMethR, dMethP, dCallP, lentQ, noS, dSettle, dSetKM, dPopK, dStrM, dForS, dSortK, dOutT, outL, dLcI, dForI, dEnum, dZip, dgTD, dgCons, dgNil, dgIx, dSlM, dLI, fDivW_i, fDictP, Nat.reduceAdd, DW.fLen, DW.fCmp, DW.fIx]
  have hll : w.length = (tlS w).length := TL.len_tl w
  by_cases hl : 10 < w.length
  · rw [if_pos (by simp; omega)]
    exact ⟨by omega, k⟩
  rw [if_neg (by simp; omega)]
  cases ec : tlS w with
  | nil => exact absurd (tlS_ext (by rw [ec]; decide +kernel)) ne
  | cons c cs =>
    have e0 : w.cps.toList[0]? = some c := by rw [show w.cps.toList = c :: cs from ec]; rfl
    rw [e0]
    have plc : (D.str ⟨#[c]⟩).pl 8 = true := pl_strs fun d hd => by
      have hd : d = c := List.mem_singleton.mp hd
      have := hlt c (by rw [ec]; exact List.mem_cons_self)
      omega
    have rest : (c = 48 → cs = []) → r_number_of_3 A (dEnd 2 Q E) [.d (.str w), .d (.int row), .un] := fun hc0 => by
      unfold r_number_of_3
      (get_elem_tactic_extensible; repeat refine And.intro (by first | exact trivial | decide | omega) ?_)
      have some_bad : (tlS w).any (fun c => !(decide (48 ≤ c) && decide (c ≤ 57))) = true := by
        unfold badW badL at hb
        rw [ec] at hb ⊢
        simp only [Bool.or_eq_true] at hb
        rcases hb with hb | hb | hb | hb
        · simp at hb
        · have hb := of_decide_eq_true hb
          rw [hll, ec] at hl
          omega
        · simp at hb
          rcases hb.2 with z | z
          · exact absurd hb.1 z
          · exact absurd (hc0 hb.1) z
        · exact hb
      refine forN_ind (fun c : Nat => D.str ⟨#[c]⟩) (fun todo ρ => ∃ x2, (∀ c, c ∈ todo → c ∈ tlS w) ∧ todo.any (fun c => !(decide (48 ≤ c) && decide (c ≤ 57))) = true ∧ ρ = [.d (.str w), .d (.int row), x2]) ?_ ?_ w.cps.toList _ ⟨.un, fun c hc => hc, some_bad, rfl⟩
      · rintro ρ ⟨x2, _, h, rfl⟩
        cases h
      · rintro c todo ρ N ⟨x2, hm, hany, rfl⟩ hN
        unfold l_number_of_1
        (get_elem_tactic_extensible; repeat refine And.intro (by first | exact trivial | decide | omega) ?_)
        refine ⟨c, rfl, ?_⟩
        by_cases hd : 48 ≤ c ∧ c ≤ 57
        · have : c ∈ (("0123456789" : Str)).cps.toList := figs c hd.1 hd.2
          rw [decide_eq_true this]
          (get_elem_tactic_extensible; repeat refine And.intro (by first | exact trivial | decide | omega) ?_)
          refine hN _ ⟨_, fun c hc => hm c (List.mem_cons_of_mem _ hc), ?_, rfl⟩
          rw [List.any_cons, decide_eq_true hd.1, decide_eq_true hd.2] at hany
          exact hany
        · have : c ∉ (("0123456789" : Str)).cps.toList := fun z => hd (figs_only z)
          rw [decide_eq_false this]
          (get_elem_tactic_extensible; repeat refine And.intro (by first | exact trivial | decide | omega) ?_)
          exact k
    refine ⟨by omega, by omega, plc, by decide +kernel, ?_⟩
    rw [eqv_str, eqv_str]
    by_cases c0 : c = 48
    · rw [if_pos (by subst c0; decide +kernel)]
      refine ⟨plw, by decide +kernel, ?_⟩
      by_cases cn : cs = []
      · have e : w = ("0" : Str) := tlS_ext (by rw [ec, c0, cn]; decide +kernel)
        rw [if_neg (by simp [e])]
        exact rest fun _ => cn
      · have e : w ≠ ("0" : Str) := fun z => by
          have := congrArg tlS z
          rw [ec, show tlS ("0" : Str) = [48] by decide +kernel] at this
          exact cn (List.cons.inj this).2
        rw [if_pos (by simp [e])]
        exact k
    · rw [if_neg (fun z => c0 ?_)]
      · exact rest fun z => absurd z c0
      · have e := of_decide_eq_true z
        have := congrArg tlS e
        rw [show tlS ("0" : Str) = [48] by decide +kernel] at this
        have : [c] = [48] := this
        exact (List.cons.inj this).1
end LL
namespace LL
open PySem L2 DW
local macro_rules | `(tactic| get_elem_tactic_extensible) => `(tactic| simp -failIfUnchanged only [shut_eq, dSeq, dSet, dRet, dExpr, dIfS, dNil, dIf, dTst, dBin, dUn, dVar, dC, dAnd, dOr, dNot, dAndV, dOrV, dNotV, dChain, dANil, dACons, dLst, dTup, dFld, dAsg, dgN, dSetIx, dLM, hasL, atL, dSetF, dCall, dCallR, hasO, dMeth, dMake, run_eq, dEnd_nx, dEnd_rt, dEnd_ex, outS, dLc, dLcG, dLcR, dFor, dForG, dForR, wipeD, backD, dYes, fLt, fLe, fGt, fGe, fEq, fNe, fIn, fNotIn, eqv_int, at_0, at_1, at_2, at_3, ix_0, ix_1, ix_2, ix_3, List.getElem?_cons_zero, List.getElem?_cons_succ, List.set_cons_zero, List.set_cons_succ, List.cons_append, List.nil_append, List.replicate_succ, List.replicate_zero, List.map_cons, List.map_nil, List.take_succ_cons, List.take_zero, List.length_cons, List.length_nil, List.take, List.length_set, pk_d, pk_fr, pk_sl, stab_d, stab_fr, stab_sl, fz_d, fz_fr, fz_sl, toD_l, toD_i, toD_k, re_rf, re_ow, store_d, store_fr, store_sl, outV_d, outV_fr, outV_sl, items_l, items_t, items_s, rng_1, rng_2, dgT_t, setAll_0, setAll_s, putR_rf, madeQ_n, fAdd_i, fAdd_l, fSub_i, fMul_i, fDiv_i, fMod_i, fPow_i, fNeg_i, fAbs_i, fCmp_i, fIn_l, fNotIn_l, fIx_l, fIx_t, fIx_s, fLen_l, fLen_t, fLen_s, fInt_i, fInt_b, fList_l, fList_t, fIsN_n, fNotN_n, isN_i, gAppend_1, gPop_c, fFld_i, fRev_l, pl_i, fIsi_i, fIsi_b, fIsi_n, fIsi_l, fIsi_t, List.length_map, anyI, pl_ints, if_false_t, dVw, dToM, dSetFM, dLMM, dMethM, dCallM, dMakeM, atM, backM, backO, tkAt, dForT, dLcT, dSetKT, hasT, dDictT, dMem, dRaise, dRaise0, mk1, mk2, dTry, dTryAs, dExcF, noEx, dSl, dPart, dNoPart, pk_me, stab_me, fz_me, store_me, outV_me, mem_un, mem_d, mem_ow, mem_rf, mem_mm, toD_t, keyT_node, madeE, madeQ, keepD_d, keepD_un, keepD_ow, keepD_rf, keepD_mm, dDict0, dSetK, hasK, atK, dGet2, keyD_i, dOutM, dCallL, dMakeR, mkSl, rfAt, madeR, madeRE, List.cons_append, List.nil_append, dCallX, dIsX, dLcH, dLcE, vw1, vw2, bare, dListR, dListR2, dForK, dkAt, dPar2, dPar3, keyD_i, dMethR, dMethP, dCallP, lentQ, noS, dSettle, dSetKM, dPopK, dStrM, dForS, dSortK, dOutT, outL, dLcI, dForI, dEnum, dZip, dgTD, dgCons, dgNil, dgIx, dSlM, dLI, fDivW_i, fDictP, Nat.reduceAdd])
/-! read: rows with a bad one, rows that are all good -/
def wordsOf (line : Str) : List Str := (TL.spl [32] 0 [] (tlS line)).map fun l => (⟨l.toArray⟩ : Str)
theorem split_words (line : Str) : Txt.split line spS = wordsOf line := by
  refine TL.map_tl_inj ?_
  have e : tlS spS = [32] := by decide +kernel
  have e1 := TL.split_spl line spS (by rw [show TL.tl spS = [32] from e]; simp) (TL.kind_ok (by decide +kernel))
  rw [e1, show TL.tl spS = [32] from e]
  unfold wordsOf
  rw [List.map_map]
  have e2 : (TL.tl ∘ fun l : List Nat => (⟨l.toArray⟩ : Str)) = id := funext fun l => by simp [TL.tl]
  rw [e2, List.map_id]
  rfl
abbrev elN (A : Cs) : DTE := dCall 2 (run_number_of A) (dACons (dVar 6) (dACons (dVar 4) dANil))
abbrev st7 (at_ : Int) (y0 y1 y2 y3 y5 : SV) : List SV := [y0, y1, y2, y3, .d (.int at_), y5, .un]
section
variable {A : Cs} {at_ : Int} {y0 y1 y2 y3 y5 : SV} {Q : List D → List SV → Prop} {E : DExc → List SV → Prop}
theorem lcE_nums : ∀ (ns : List Int) (acc : List D), (∀ n, n ∈ ns → 0 ≤ n ∧ n < 10 ^ 10) → acc.length + ns.length ≤ 1000 → Q (acc ++ ns.map .int) (st7 at_ y0 y1 y2 y3 y5) → dLcNE (dgN 6) (elN A) [6] Q E ((ns.map sI).map .str) acc (st7 at_ y0 y1 y2 y3 y5)
  | [], acc, _, _, k => by simpa [dLcNE] using k
  | n :: ns, acc, h, hl, k => by
    have hz : sizeLine = 16777216 := by decide
    obtain ⟨h0, h1⟩ := h n List.mem_cons_self
    rw [List.length_cons] at hl
    have ih := lcE_nums ns (acc ++ [.int n]) (fun m hm => h m (List.mem_cons_of_mem _ hm)) (by rw [List.length_append, List.length_singleton]; omega) (by rw [List.append_assoc]; exact k)
    rw [List.map_cons, List.map_cons, dLcNE]
    generalize hX : dLcNE (dgN 6) (elN A) [6] Q E ((ns.map sI).map .str) = X at ih ⊢
    (get_elem_tactic_extensible; repeat refine And.intro (by first | exact trivial | decide | omega) ?_)
    refine number_of_any h0 h1 ?_
    (get_elem_tactic_extensible; repeat refine And.intro (by first | exact trivial | decide | omega) ?_)
    exact ih
theorem lcE_bad : ∀ (ws : List Str) (acc : List D), (∀ w, w ∈ ws → PyData.strOk w = true ∧ w.length ≤ 1000) → acc.length + ws.length ≤ 1000 → ws.any badW = true → E (textE A at_) (st7 at_ y0 y1 y2 y3 y5) → dLcNE (dgN 6) (elN A) [6] Q E (ws.map .str) acc (st7 at_ y0 y1 y2 y3 y5)
  | [], acc, _, _, hb, _ => by cases hb
  | w :: ws, acc, h, hl, hb, k => by
    have hz : sizeLine = 16777216 := by decide
    rw [List.length_cons] at hl
    rw [List.map_cons, dLcNE]
    cases c : badW w with
    | true =>
      generalize hX : dLcNE (dgN 6) (elN A) [6] Q E (ws.map .str) = X
      (get_elem_tactic_extensible; repeat refine And.intro (by first | exact trivial | decide | omega) ?_)
      refine number_of_bad (h w List.mem_cons_self).1 (h w List.mem_cons_self).2 c ?_
      (get_elem_tactic_extensible; repeat refine And.intro (by first | exact trivial | decide | omega) ?_)
      exact k
    | false =>
      obtain ⟨n, h0, h1, rfl⟩ := word_num c
      rw [List.any_cons, c, Bool.false_or] at hb
      have ih := lcE_bad ws (acc ++ [.int n]) (fun m hm => h m (List.mem_cons_of_mem _ hm)) (by rw [List.length_append, List.length_singleton]; omega) hb k
      generalize hX : dLcNE (dgN 6) (elN A) [6] Q E (ws.map .str) = X at ih ⊢
      (get_elem_tactic_extensible; repeat refine And.intro (by first | exact trivial | decide | omega) ?_)
      refine number_of_any h0 h1 ?_
      (get_elem_tactic_extensible; repeat refine And.intro (by first | exact trivial | decide | omega) ?_)
      exact ih
end
def rowOk (k : Nat) (ws : List Str) : Bool := if k = 0 then ws.head? == some ("map" : Str) && ws.length == 3 else ws.head? == some ("road" : Str) && ws.length == 4
def BadLine (k : Nat) (line : Str) : Bool := (!(wordsOf line).isEmpty && (decide ((wordsOf line).length ≤ 100) && (wordsOf line).all fun w => PyData.strOk w && decide (w.length ≤ 1000))) && (!rowOk k (wordsOf line) || ((wordsOf line).drop 1).any badW)
theorem turn_bad {A : Cs} {De : DEnds} {t : D} {rows : List Str} {hd rds : List D} {k : Nat} {line : Str} {x5 : SV} (hk : rows[k]? = some line) (hll : line.length ≤ 1000) (hb : BadLine k line = true)
    (kk : ∀ x5, De.ex (textE A k) (st7 k (.d t) (.ow (.l (rows.map .str))) (.ow (.l hd)) (.ow (.l rds)) x5)) : l_read_1 A De (st7 (k : Int) (.d t) (.ow (.l (rows.map .str))) (.ow (.l hd)) (.ow (.l rds)) x5) := by
  have hz : sizeLine = 16777216 := by decide
  have ea : L2.atI (rows.map D.str) (k : Int) = some (.str line) := by
    rw [at_nat, List.getElem?_map, hk]
    rfl
  have l1 : (" " : Str).length = 1 := by decide +kernel
  unfold BadLine at hb
  rw [← split_words] at hb
  simp only [Bool.and_eq_true, Bool.not_eq_true', decide_eq_true_eq] at hb
  obtain ⟨⟨hne, hlw, hso⟩, hb⟩ := hb
  unfold l_read_1
  unfold textE at kk
  simp only [shut_eq, dSeq, dSet, dRet, dExpr, dIfS, dNil, dIf, dTst, dBin, dUn, dVar, dC, dAnd, dOr, dNot, dAndV, dOrV, dNotV, dChain, dANil, dACons, dLst, dTup, dFld, dAsg, dgN, dSetIx, dLM, hasL, atL, dSetF, dCall, dCallR, hasO, dMeth, dMake, run_eq, dEnd_nx, dEnd_rt, dEnd_ex, outS, dLc, dLcG, dLcR, dFor, dForG, dForR, wipeD, backD, dYes, fLt, fLe, fGt, fGe, fEq, fNe, fIn, fNotIn, eqv_int, at_0, at_1, at_2, at_3, ix_0, ix_1, ix_2, ix_3, List.getElem?_cons_zero, List.getElem?_cons_succ, List.set_cons_zero, List.set_cons_succ, List.cons_append, List.nil_append, List.replicate_succ, List.replicate_zero, List.map_cons, List.map_nil, List.take_succ_cons, List.take_zero, List.length_cons, List.length_nil, List.take, List.length_set, pk_d, pk_fr, pk_sl, stab_d, stab_fr, stab_sl, fz_d, fz_fr, fz_sl, toD_l, toD_i, toD_k, re_rf, re_ow, store_d, store_fr, store_sl, outV_d, outV_fr, outV_sl, items_l, items_t, items_s, rng_1, rng_2, dgT_t, setAll_0, setAll_s, putR_rf, madeQ_n, fAdd_i, fAdd_l, fSub_i, fMul_i, fDiv_i, fMod_i, fPow_i, fNeg_i, fAbs_i, fCmp_i, fIn_l, fNotIn_l, fIx_l, fIx_t, fIx_s, fLen_l, fLen_t, fLen_s, fInt_i, fInt_b, fList_l, fList_t, fIsN_n, fNotN_n, isN_i, gAppend_1, gPop_c, fFld_i, fRev_l, pl_i, fIsi_i, fIsi_b, fIsi_n, fIsi_l, fIsi_t, List.length_map, anyI, pl_ints, if_false_t, dVw, dToM, dSetFM, dLMM, dMethM, dCallM, dMakeM, atM, backM, backO, tkAt, dForT, dLcT, dSetKT, hasT, dDictT, dMem, dRaise, dRaise0, mk1, mk2, dTry, dTryAs, dExcF, noEx, dSl, dPart, dNoPart, pk_me, stab_me, fz_me, store_me, outV_me, mem_un, mem_d, mem_ow, mem_rf, mem_mm, toD_t, keyT_node, madeE, madeQ, keepD_d, keepD_un, keepD_ow, keepD_rf, keepD_mm, dDict0, dSetK, hasK, atK, dGet2, keyD_i, dOutM, dCallL, dMakeR, mkSl, rfAt, madeR, madeRE, List.cons_append, List.nil_append, dCallX, dIsX, dLcH, dLcE, vw1, vw2, bare, dListR, dListR2, dForK, dkAt, dPar2, dPar3, keyD_i, dMethR, dMethP, dCallP, lentQ, noS, dSettle, dSetKM, dPopK, dStrM, dForS, dSortK, dOutT, outL, dLcI, dForI, dEnum, dZip, dgTD, dgCons, dgNil, dgIx, dSlM, dLI, fDivW_i, fDictP, Nat.reduceAdd, ea, fSplit, l1]
  refine ⟨by decide, by omega, by decide, ?_⟩
  cases ews : Txt.split line spS with
  | nil => rw [ews] at hne; cases hne
  | cons w ws =>
    rw [ews] at hlw hso hb
    have hw : ∀ x, x ∈ w :: ws → PyData.strOk x = true ∧ x.length ≤ 1000 := fun x hx => by
      have := List.all_eq_true.mp hso x hx
      simpa using this
    have plw : (D.str w).pl 8 = true := pl_strs (strOk_lt (hw w List.mem_cons_self).1)
    have pm : (D.str ("map" : Str)).pl 8 = true := by decide +kernel
    have pr : (D.str ("road" : Str)).pl 8 = true := by decide +kernel
    have nums : ∀ Qx, ws.any badW = true → dLcNE (dgN 6) (elN A) [6] Qx (fun e ρ3 => De.ex e (ρ3.set 6 .un)) (ws.map .str) [] (st7 k (.d t) (.ow (.l (rows.map .str))) (.ow (.l hd)) (.ow (.l rds)) (.ow (.l ((w :: ws).map .str)))) := fun Qx h =>
      lcE_bad ws [] (fun x hx => hw x (List.mem_cons_of_mem _ hx)) (by rw [List.length_cons] at hlw; simp; omega) h (kk _)
    simp only [shut_eq, dSeq, dSet, dRet, dExpr, dIfS, dNil, dIf, dTst, dBin, dUn, dVar, dC, dAnd, dOr, dNot, dAndV, dOrV, dNotV, dChain, dANil, dACons, dLst, dTup, dFld, dAsg, dgN, dSetIx, dLM, hasL, atL, dSetF, dCall, dCallR, hasO, dMeth, dMake, run_eq, dEnd_nx, dEnd_rt, dEnd_ex, outS, dLc, dLcG, dLcR, dFor, dForG, dForR, wipeD, backD, dYes, fLt, fLe, fGt, fGe, fEq, fNe, fIn, fNotIn, eqv_int, at_0, at_1, at_2, at_3, ix_0, ix_1, ix_2, ix_3, List.getElem?_cons_zero, List.getElem?_cons_succ, List.set_cons_zero, List.set_cons_succ, List.cons_append, List.nil_append, List.replicate_succ, List.replicate_zero, List.map_cons, List.map_nil, List.take_succ_cons, List.take_zero, List.length_cons, List.length_nil, List.take, List.length_set, pk_d, pk_fr, pk_sl, stab_d, stab_fr, stab_sl, fz_d, fz_fr, fz_sl, toD_l, toD_i, toD_k, re_rf, re_ow, store_d, store_fr, store_sl, outV_d, outV_fr, outV_sl, items_l, items_t, items_s, rng_1, rng_2, dgT_t, setAll_0, setAll_s, putR_rf, madeQ_n, fAdd_i, fAdd_l, fSub_i, fMul_i, fDiv_i, fMod_i, fPow_i, fNeg_i, fAbs_i, fCmp_i, fIn_l, fNotIn_l, fIx_l, fIx_t, fIx_s, fLen_l, fLen_t, fLen_s, fInt_i, fInt_b, fList_l, fList_t, fIsN_n, fNotN_n, isN_i, gAppend_1, gPop_c, fFld_i, fRev_l, pl_i, fIsi_i, fIsi_b, fIsi_n, fIsi_l, fIsi_t, List.length_map, anyI, pl_ints, if_false_t, dVw, dToM, dSetFM, dLMM, dMethM, dCallM, dMakeM, atM, backM, backO, tkAt, dForT, dLcT, dSetKT, hasT, dDictT, dMem, dRaise, dRaise0, mk1, mk2, dTry, dTryAs, dExcF, noEx, dSl, dPart, dNoPart, pk_me, stab_me, fz_me, store_me, outV_me, mem_un, mem_d, mem_ow, mem_rf, mem_mm, toD_t, keyT_node, madeE, madeQ, keepD_d, keepD_un, keepD_ow, keepD_rf, keepD_mm, dDict0, dSetK, hasK, atK, dGet2, keyD_i, dOutM, dCallL, dMakeR, mkSl, rfAt, madeR, madeRE, List.cons_append, List.nil_append, dCallX, dIsX, dLcH, dLcE, vw1, vw2, bare, dListR, dListR2, dForK, dkAt, dPar2, dPar3, keyD_i, dMethR, dMethP, dCallP, lentQ, noS, dSettle, dSetKM, dPopK, dStrM, dForS, dSortK, dOutT, outL, dLcI, dForI, dEnum, dZip, dgTD, dgCons, dgNil, dgIx, dSlM, dLI, fDivW_i, fDictP, Nat.reduceAdd]
    rw [List.drop_succ_cons, List.drop_zero] at hb
    by_cases k0 : k = 0
    · subst k0
      refine ⟨trivial, trivial, ?_⟩
      rw [if_pos (by decide)]
      refine ⟨plw, pm, ?_⟩
      rw [eqv_str]
      by_cases e1 : w = ("map" : Str)
      · rw [if_pos (decide_eq_true e1)]
        refine ⟨trivial, trivial, ?_⟩
        by_cases e2 : ws.length = 2
        · rw [if_pos (decide_eq_true (by omega))]
          refine sl_tail ?_
          (get_elem_tactic_extensible; repeat refine And.intro (by first | exact trivial | decide | omega) ?_)
          refine nums _ ?_
          unfold rowOk at hb
          simpa [e1, e2] using hb
        · rw [if_neg (by simp; omega), if_neg (by decide)]
          exact kk _
      · rw [if_neg (by simpa using e1), if_neg (by decide)]
        exact kk _
    · refine ⟨trivial, trivial, ?_⟩
      rw [if_neg (by simp; omega), if_pos (decide_eq_true (by omega))]
      refine ⟨plw, pr, ?_⟩
      rw [eqv_str]
      by_cases e1 : w = ("road" : Str)
      · rw [if_pos (decide_eq_true e1)]
        refine ⟨trivial, trivial, ?_⟩
        by_cases e2 : ws.length = 3
        · rw [if_pos (decide_eq_true (by omega))]
          refine ⟨trivial, sl_tail ?_⟩
          (get_elem_tactic_extensible; repeat refine And.intro (by first | exact trivial | decide | omega) ?_)
          refine nums _ ?_
          unfold rowOk at hb
          simpa [e1, e2, k0] using hb
        · rw [if_neg (by simp; omega)]
          exact kk _
      · rw [if_neg (by simpa using e1)]
        exact kk _
end LL
namespace LL
open PySem L2 DW
local macro_rules | `(tactic| get_elem_tactic_extensible) => `(tactic| simp -failIfUnchanged only [shut_eq, dSeq, dSet, dRet, dExpr, dIfS, dNil, dIf, dTst, dBin, dUn, dVar, dC, dAnd, dOr, dNot, dAndV, dOrV, dNotV, dChain, dANil, dACons, dLst, dTup, dFld, dAsg, dgN, dSetIx, dLM, hasL, atL, dSetF, dCall, dCallR, hasO, dMeth, dMake, run_eq, dEnd_nx, dEnd_rt, dEnd_ex, outS, dLc, dLcG, dLcR, dFor, dForG, dForR, wipeD, backD, dYes, fLt, fLe, fGt, fGe, fEq, fNe, fIn, fNotIn, eqv_int, at_0, at_1, at_2, at_3, ix_0, ix_1, ix_2, ix_3, List.getElem?_cons_zero, List.getElem?_cons_succ, List.set_cons_zero, List.set_cons_succ, List.cons_append, List.nil_append, List.replicate_succ, List.replicate_zero, List.map_cons, List.map_nil, List.take_succ_cons, List.take_zero, List.length_cons, List.length_nil, List.take, List.length_set, pk_d, pk_fr, pk_sl, stab_d, stab_fr, stab_sl, fz_d, fz_fr, fz_sl, toD_l, toD_i, toD_k, re_rf, re_ow, store_d, store_fr, store_sl, outV_d, outV_fr, outV_sl, items_l, items_t, items_s, rng_1, rng_2, dgT_t, setAll_0, setAll_s, putR_rf, madeQ_n, fAdd_i, fAdd_l, fSub_i, fMul_i, fDiv_i, fMod_i, fPow_i, fNeg_i, fAbs_i, fCmp_i, fIn_l, fNotIn_l, fIx_l, fIx_t, fIx_s, fLen_l, fLen_t, fLen_s, fInt_i, fInt_b, fList_l, fList_t, fIsN_n, fNotN_n, isN_i, gAppend_1, gPop_c, fFld_i, fRev_l, pl_i, fIsi_i, fIsi_b, fIsi_n, fIsi_l, fIsi_t, List.length_map, anyI, pl_ints, if_false_t, dVw, dToM, dSetFM, dLMM, dMethM, dCallM, dMakeM, atM, backM, backO, tkAt, dForT, dLcT, dSetKT, hasT, dDictT, dMem, dRaise, dRaise0, mk1, mk2, dTry, dTryAs, dExcF, noEx, dSl, dPart, dNoPart, pk_me, stab_me, fz_me, store_me, outV_me, mem_un, mem_d, mem_ow, mem_rf, mem_mm, toD_t, keyT_node, madeE, madeQ, keepD_d, keepD_un, keepD_ow, keepD_rf, keepD_mm, dDict0, dSetK, hasK, atK, dGet2, keyD_i, dOutM, dCallL, dMakeR, mkSl, rfAt, madeR, madeRE, List.cons_append, List.nil_append, dCallX, dIsX, dLcH, dLcE, vw1, vw2, bare, dListR, dListR2, dForK, dkAt, dPar2, dPar3, keyD_i, dMethR, dMethP, dCallP, lentQ, noS, dSettle, dSetKM, dPopK, dStrM, dForS, dSortK, dOutT, outL, dLcI, dForI, dEnum, dZip, dgTD, dgCons, dgNil, dgIx, dSlM, dLI, fDivW_i, fDictP, Nat.reduceAdd])
abbrev InR (n : Int) : Prop := 0 ≤ n ∧ n < 10 ^ 10
def InRoad (r : Road) : Prop := InR r.1 ∧ InR r.2.1 ∧ InR r.2.2
theorem joinT_len {rows : List Str} {n : Nat} (hl : rows.length ≤ n) (h : ∀ x, x ∈ rows → x.length ≤ 60) : (Txt.join nlS rows).length ≤ 61 * n := by
  rw [len_tlS, tlS_join]
  have l := joinL_len (tlS nlS) (rows.map tlS)
  have e2 : (tlS nlS).length = 1 := by decide +kernel
  have key : ∀ xs : List Str, (∀ x, x ∈ xs → x.length ≤ 60) → ((xs.map tlS).map List.length).sum ≤ 60 * xs.length := fun xs => by
    induction xs with
    | nil => intro _; simp
    | cons a xs ih =>
      intro h
      have := ih fun x hx => h x (List.mem_cons_of_mem _ hx)
      have := h a List.mem_cons_self
      rw [len_tlS] at this
      rw [List.map_cons, List.map_cons, List.sum_cons, List.length_cons]
      omega
  have := key _ h
  rw [e2, List.length_map] at l
  omega
theorem turn_head {A : Cs} {De : DEnds} {t : D} {rows : List Str} {hd rds : List D} {m r : Int} {x5 : SV} (hk : rows[0]? = some (lineM m r)) (hm : InR m) (hr : InR r)
    (kk : ∀ x5, De.nx (st7 (0 : Nat) (.d t) (.ow (.l (rows.map .str))) (.ow (.l [.int m, .int r])) (.ow (.l rds)) x5)) : l_read_1 A De (st7 (0 : Nat) (.d t) (.ow (.l (rows.map .str))) (.ow (.l hd)) (.ow (.l rds)) x5) := by
  have hz : sizeLine = 16777216 := by decide
  have ea : L2.atI (rows.map D.str) ((0 : Nat) : Int) = some (.str (lineM m r)) := by
    rw [at_nat, List.getElem?_map, hk]
    rfl
  have l1 : (" " : Str).length = 1 := by decide +kernel
  have lm := lineM_len hm.1 hr.1 hm.2 hr.2
  have pm : (D.str ("map" : Str)).pl 8 = true := by decide +kernel
  unfold l_read_1
  simp only [shut_eq, dSeq, dSet, dRet, dExpr, dIfS, dNil, dIf, dTst, dBin, dUn, dVar, dC, dAnd, dOr, dNot, dAndV, dOrV, dNotV, dChain, dANil, dACons, dLst, dTup, dFld, dAsg, dgN, dSetIx, dLM, hasL, atL, dSetF, dCall, dCallR, hasO, dMeth, dMake, run_eq, dEnd_nx, dEnd_rt, dEnd_ex, outS, dLc, dLcG, dLcR, dFor, dForG, dForR, wipeD, backD, dYes, fLt, fLe, fGt, fGe, fEq, fNe, fIn, fNotIn, eqv_int, at_0, at_1, at_2, at_3, ix_0, ix_1, ix_2, ix_3, List.getElem?_cons_zero, List.getElem?_cons_succ, List.set_cons_zero, List.set_cons_succ, List.cons_append, List.nil_append, List.replicate_succ, List.replicate_zero, List.map_cons, List.map_nil, List.take_succ_cons, List.take_zero, List.length_cons, List.length_nil, List.take, List.length_set, pk_d, pk_fr, pk_sl, stab_d, stab_fr, stab_sl, fz_d, fz_fr, fz_sl, toD_l, toD_i, toD_k, re_rf, re_ow, store_d, store_fr, store_sl, outV_d, outV_fr, outV_sl, items_l, items_t, items_s, rng_1, rng_2, dgT_t, setAll_0, setAll_s, putR_rf, madeQ_n, fAdd_i, fAdd_l, fSub_i, fMul_i, fDiv_i, fMod_i, fPow_i, fNeg_i, fAbs_i, fCmp_i, fIn_l, fNotIn_l, fIx_l, fIx_t, fIx_s, fLen_l, fLen_t, fLen_s, fInt_i, fInt_b, fList_l, fList_t, fIsN_n, fNotN_n, isN_i, gAppend_1, gPop_c, fFld_i, fRev_l, pl_i, fIsi_i, fIsi_b, fIsi_n, fIsi_l, fIsi_t, List.length_map, anyI, pl_ints, if_false_t, dVw, dToM, dSetFM, dLMM, dMethM, dCallM, dMakeM, atM, backM, backO, tkAt, dForT, dLcT, dSetKT, hasT, dDictT, dMem, dRaise, dRaise0, mk1, mk2, dTry, dTryAs, dExcF, noEx, dSl, dPart, dNoPart, pk_me, stab_me, fz_me, store_me, outV_me, mem_un, mem_d, mem_ow, mem_rf, mem_mm, toD_t, keyT_node, madeE, madeQ, keepD_d, keepD_un, keepD_ow, keepD_rf, keepD_mm, dDict0, dSetK, hasK, atK, dGet2, keyD_i, dOutM, dCallL, dMakeR, mkSl, rfAt, madeR, madeRE, List.cons_append, List.nil_append, dCallX, dIsX, dLcH, dLcE, vw1, vw2, bare, dListR, dListR2, dForK, dkAt, dPar2, dPar3, keyD_i, dMethR, dMethP, dCallP, lentQ, noS, dSettle, dSetKM, dPopK, dStrM, dForS, dSortK, dOutT, outL, dLcI, dForI, dEnum, dZip, dgTD, dgCons, dgNil, dgIx, dSlM, dLI, fDivW_i, fDictP, Nat.reduceAdd, ea, fSplit, l1, lineM_split hm.1 hr.1]
  refine ⟨by decide, by omega, by decide, trivial, trivial, ?_⟩
  rw [if_pos (by decide)]
  refine ⟨pm, pm, ?_⟩
  rw [eqv_str, if_pos (by decide +kernel)]
  refine ⟨trivial, trivial, ?_⟩
  rw [if_pos (by decide)]
  refine sl_tail ?_
  simp only [shut_eq, dSeq, dSet, dRet, dExpr, dIfS, dNil, dIf, dTst, dBin, dUn, dVar, dC, dAnd, dOr, dNot, dAndV, dOrV, dNotV, dChain, dANil, dACons, dLst, dTup, dFld, dAsg, dgN, dSetIx, dLM, hasL, atL, dSetF, dCall, dCallR, hasO, dMeth, dMake, run_eq, dEnd_nx, dEnd_rt, dEnd_ex, outS, dLc, dLcG, dLcR, dFor, dForG, dForR, wipeD, backD, dYes, fLt, fLe, fGt, fGe, fEq, fNe, fIn, fNotIn, eqv_int, at_0, at_1, at_2, at_3, ix_0, ix_1, ix_2, ix_3, List.getElem?_cons_zero, List.getElem?_cons_succ, List.set_cons_zero, List.set_cons_succ, List.cons_append, List.nil_append, List.replicate_succ, List.replicate_zero, List.map_cons, List.map_nil, List.take_succ_cons, List.take_zero, List.length_cons, List.length_nil, List.take, List.length_set, pk_d, pk_fr, pk_sl, stab_d, stab_fr, stab_sl, fz_d, fz_fr, fz_sl, toD_l, toD_i, toD_k, re_rf, re_ow, store_d, store_fr, store_sl, outV_d, outV_fr, outV_sl, items_l, items_t, items_s, rng_1, rng_2, dgT_t, setAll_0, setAll_s, putR_rf, madeQ_n, fAdd_i, fAdd_l, fSub_i, fMul_i, fDiv_i, fMod_i, fPow_i, fNeg_i, fAbs_i, fCmp_i, fIn_l, fNotIn_l, fIx_l, fIx_t, fIx_s, fLen_l, fLen_t, fLen_s, fInt_i, fInt_b, fList_l, fList_t, fIsN_n, fNotN_n, isN_i, gAppend_1, gPop_c, fFld_i, fRev_l, pl_i, fIsi_i, fIsi_b, fIsi_n, fIsi_l, fIsi_t, List.length_map, anyI, pl_ints, if_false_t, dVw, dToM, dSetFM, dLMM, dMethM, dCallM, dMakeM, atM, backM, backO, tkAt, dForT, dLcT, dSetKT, hasT, dDictT, dMem, dRaise, dRaise0, mk1, mk2, dTry, dTryAs, dExcF, noEx, dSl, dPart, dNoPart, pk_me, stab_me, fz_me, store_me, outV_me, mem_un, mem_d, mem_ow, mem_rf, mem_mm, toD_t, keyT_node, madeE, madeQ, keepD_d, keepD_un, keepD_ow, keepD_rf, keepD_mm, dDict0, dSetK, hasK, atK, dGet2, keyD_i, dOutM, dCallL, dMakeR, mkSl, rfAt, madeR, madeRE, List.cons_append, List.nil_append, dCallX, dIsX, dLcH, dLcE, vw1, vw2, bare, dListR, dListR2, dForK, dkAt, dPar2, dPar3, keyD_i, dMethR, dMethP, dCallP, lentQ, noS, dSettle, dSetKM, dPopK, dStrM, dForS, dSortK, dOutT, outL, dLcI, dForI, dEnum, dZip, dgTD, dgCons, dgNil, dgIx, dSlM, dLI, fDivW_i, fDictP, Nat.reduceAdd]
  refine lcE_nums [m, r] [] (fun n hn => ?_) (by show 0 + 2 ≤ 1000; decide) ?_
  · simp only [List.mem_cons, List.not_mem_nil, or_false] at hn
    rcases hn with rfl | rfl
    · exact hm
    · exact hr
  · simp only [shut_eq, dSeq, dSet, dRet, dExpr, dIfS, dNil, dIf, dTst, dBin, dUn, dVar, dC, dAnd, dOr, dNot, dAndV, dOrV, dNotV, dChain, dANil, dACons, dLst, dTup, dFld, dAsg, dgN, dSetIx, dLM, hasL, atL, dSetF, dCall, dCallR, hasO, dMeth, dMake, run_eq, dEnd_nx, dEnd_rt, dEnd_ex, outS, dLc, dLcG, dLcR, dFor, dForG, dForR, wipeD, backD, dYes, fLt, fLe, fGt, fGe, fEq, fNe, fIn, fNotIn, eqv_int, at_0, at_1, at_2, at_3, ix_0, ix_1, ix_2, ix_3, List.getElem?_cons_zero, List.getElem?_cons_succ, List.set_cons_zero, List.set_cons_succ, List.cons_append, List.nil_append, List.replicate_succ, List.replicate_zero, List.map_cons, List.map_nil, List.take_succ_cons, List.take_zero, List.length_cons, List.length_nil, List.take, List.length_set, pk_d, pk_fr, pk_sl, stab_d, stab_fr, stab_sl, fz_d, fz_fr, fz_sl, toD_l, toD_i, toD_k, re_rf, re_ow, store_d, store_fr, store_sl, outV_d, outV_fr, outV_sl, items_l, items_t, items_s, rng_1, rng_2, dgT_t, setAll_0, setAll_s, putR_rf, madeQ_n, fAdd_i, fAdd_l, fSub_i, fMul_i, fDiv_i, fMod_i, fPow_i, fNeg_i, fAbs_i, fCmp_i, fIn_l, fNotIn_l, fIx_l, fIx_t, fIx_s, fLen_l, fLen_t, fLen_s, fInt_i, fInt_b, fList_l, fList_t, fIsN_n, fNotN_n, isN_i, gAppend_1, gPop_c, fFld_i, fRev_l, pl_i, fIsi_i, fIsi_b, fIsi_n, fIsi_l, fIsi_t, List.length_map, anyI, pl_ints, if_false_t, dVw, dToM, dSetFM, dLMM, dMethM, dCallM, dMakeM, atM, backM, backO, tkAt, dForT, dLcT, dSetKT, hasT, dDictT, dMem, dRaise, dRaise0, mk1, mk2, dTry, dTryAs, dExcF, noEx, dSl, dPart, dNoPart, pk_me, stab_me, fz_me, store_me, outV_me, mem_un, mem_d, mem_ow, mem_rf, mem_mm, toD_t, keyT_node, madeE, madeQ, keepD_d, keepD_un, keepD_ow, keepD_rf, keepD_mm, dDict0, dSetK, hasK, atK, dGet2, keyD_i, dOutM, dCallL, dMakeR, mkSl, rfAt, madeR, madeRE, List.cons_append, List.nil_append, dCallX, dIsX, dLcH, dLcE, vw1, vw2, bare, dListR, dListR2, dForK, dkAt, dPar2, dPar3, keyD_i, dMethR, dMethP, dCallP, lentQ, noS, dSettle, dSetKM, dPopK, dStrM, dForS, dSortK, dOutT, outL, dLcI, dForI, dEnum, dZip, dgTD, dgCons, dgNil, dgIx, dSlM, dLI, fDivW_i, fDictP, Nat.reduceAdd]
    exact ⟨by decide, kk _⟩
theorem turn_road {A : Cs} {De : DEnds} {t : D} {rows : List Str} {hd rds : List D} {w : Road} {k : Nat} {x5 : SV} (hk0 : 0 < k) (hk : rows[k]? = some (lineR w)) (hw : InRoad w) (hl : rds.length ≤ 1000)
    (kk : ∀ x5, De.nx (st7 (k : Nat) (.d t) (.ow (.l (rows.map .str))) (.ow (.l hd)) (.ow (.l (rds ++ [roadD w]))) x5)) : l_read_1 A De (st7 (k : Nat) (.d t) (.ow (.l (rows.map .str))) (.ow (.l hd)) (.ow (.l rds)) x5) := by
  obtain ⟨⟨a1, a2⟩, ⟨b1, b2⟩, c1, c2⟩ := hw
  have hz : sizeLine = 16777216 := by decide
  have ea : L2.atI (rows.map D.str) (k : Int) = some (.str (lineR w)) := by
    rw [at_nat, List.getElem?_map, hk]
    rfl
  have l1 : (" " : Str).length = 1 := by decide +kernel
  have lm := lineR_len a1 b1 c1 a2 b2 c2
  have pm : (D.str ("road" : Str)).pl 8 = true := by decide +kernel
  unfold l_read_1
  simp only [shut_eq, dSeq, dSet, dRet, dExpr, dIfS, dNil, dIf, dTst, dBin, dUn, dVar, dC, dAnd, dOr, dNot, dAndV, dOrV, dNotV, dChain, dANil, dACons, dLst, dTup, dFld, dAsg, dgN, dSetIx, dLM, hasL, atL, dSetF, dCall, dCallR, hasO, dMeth, dMake, run_eq, dEnd_nx, dEnd_rt, dEnd_ex, outS, dLc, dLcG, dLcR, dFor, dForG, dForR, wipeD, backD, dYes, fLt, fLe, fGt, fGe, fEq, fNe, fIn, fNotIn, eqv_int, at_0, at_1, at_2, at_3, ix_0, ix_1, ix_2, ix_3, List.getElem?_cons_zero, List.getElem?_cons_succ, List.set_cons_zero, List.set_cons_succ, List.cons_append, List.nil_append, List.replicate_succ, List.replicate_zero, List.map_cons, List.map_nil, List.take_succ_cons, List.take_zero, List.length_cons, List.length_nil, List.take, List.length_set, pk_d, pk_fr, pk_sl, stab_d, stab_fr, stab_sl, fz_d, fz_fr, fz_sl, toD_l, toD_i, toD_k, re_rf, re_ow, store_d, store_fr, store_sl, outV_d, outV_fr, outV_sl, items_l, items_t, items_s, rng_1, rng_2, dgT_t, setAll_0, setAll_s, putR_rf, madeQ_n, fAdd_i, fAdd_l, fSub_i, fMul_i, fDiv_i, fMod_i, fPow_i, fNeg_i, fAbs_i, fCmp_i, fIn_l, fNotIn_l, fIx_l, fIx_t, fIx_s, fLen_l, fLen_t, fLen_s, fInt_i, fInt_b, fList_l, fList_t, fIsN_n, fNotN_n, isN_i, gAppend_1, gPop_c, fFld_i, fRev_l, pl_i, fIsi_i, fIsi_b, fIsi_n, fIsi_l, fIsi_t, List.length_map, anyI, pl_ints, if_false_t, dVw, dToM, dSetFM, dLMM, dMethM, dCallM, dMakeM, atM, backM, backO, tkAt, dForT, dLcT, dSetKT, hasT, dDictT, dMem, dRaise, dRaise0, mk1, mk2, dTry, dTryAs, dExcF, noEx, dSl, dPart, dNoPart, pk_me, stab_me, fz_me, store_me, outV_me, mem_un, mem_d, mem_ow, mem_rf, mem_mm, toD_t, keyT_node, madeE, madeQ, keepD_d, keepD_un, keepD_ow, keepD_rf, keepD_mm, dDict0, dSetK, hasK, atK, dGet2, keyD_i, dOutM, dCallL, dMakeR, mkSl, rfAt, madeR, madeRE, List.cons_append, List.nil_append, dCallX, dIsX, dLcH, dLcE, vw1, vw2, bare, dListR, dListR2, dForK, dkAt, dPar2, dPar3, keyD_i, dMethR, dMethP, dCallP, lentQ, noS, dSettle, dSetKM, dPopK, dStrM, dForS, dSortK, dOutT, outL, dLcI, dForI, dEnum, dZip, dgTD, dgCons, dgNil, dgIx, dSlM, dLI, fDivW_i, fDictP, Nat.reduceAdd, ea, fSplit, l1, lineR_split a1 b1 c1]
  refine ⟨by decide, by omega, by decide, trivial, trivial, ?_⟩
  rw [if_neg (by simp; omega), if_pos (decide_eq_true (by omega))]
  refine ⟨pm, pm, ?_⟩
  rw [eqv_str, if_pos (by decide +kernel)]
  refine ⟨trivial, trivial, ?_⟩
  rw [if_pos (by decide)]
  refine ⟨trivial, sl_tail ?_⟩
  simp only [shut_eq, dSeq, dSet, dRet, dExpr, dIfS, dNil, dIf, dTst, dBin, dUn, dVar, dC, dAnd, dOr, dNot, dAndV, dOrV, dNotV, dChain, dANil, dACons, dLst, dTup, dFld, dAsg, dgN, dSetIx, dLM, hasL, atL, dSetF, dCall, dCallR, hasO, dMeth, dMake, run_eq, dEnd_nx, dEnd_rt, dEnd_ex, outS, dLc, dLcG, dLcR, dFor, dForG, dForR, wipeD, backD, dYes, fLt, fLe, fGt, fGe, fEq, fNe, fIn, fNotIn, eqv_int, at_0, at_1, at_2, at_3, ix_0, ix_1, ix_2, ix_3, List.getElem?_cons_zero, List.getElem?_cons_succ, List.set_cons_zero, List.set_cons_succ, List.cons_append, List.nil_append, List.replicate_succ, List.replicate_zero, List.map_cons, List.map_nil, List.take_succ_cons, List.take_zero, List.length_cons, List.length_nil, List.take, List.length_set, pk_d, pk_fr, pk_sl, stab_d, stab_fr, stab_sl, fz_d, fz_fr, fz_sl, toD_l, toD_i, toD_k, re_rf, re_ow, store_d, store_fr, store_sl, outV_d, outV_fr, outV_sl, items_l, items_t, items_s, rng_1, rng_2, dgT_t, setAll_0, setAll_s, putR_rf, madeQ_n, fAdd_i, fAdd_l, fSub_i, fMul_i, fDiv_i, fMod_i, fPow_i, fNeg_i, fAbs_i, fCmp_i, fIn_l, fNotIn_l, fIx_l, fIx_t, fIx_s, fLen_l, fLen_t, fLen_s, fInt_i, fInt_b, fList_l, fList_t, fIsN_n, fNotN_n, isN_i, gAppend_1, gPop_c, fFld_i, fRev_l, pl_i, fIsi_i, fIsi_b, fIsi_n, fIsi_l, fIsi_t, List.length_map, anyI, pl_ints, if_false_t, dVw, dToM, dSetFM, dLMM, dMethM, dCallM, dMakeM, atM, backM, backO, tkAt, dForT, dLcT, dSetKT, hasT, dDictT, dMem, dRaise, dRaise0, mk1, mk2, dTry, dTryAs, dExcF, noEx, dSl, dPart, dNoPart, pk_me, stab_me, fz_me, store_me, outV_me, mem_un, mem_d, mem_ow, mem_rf, mem_mm, toD_t, keyT_node, madeE, madeQ, keepD_d, keepD_un, keepD_ow, keepD_rf, keepD_mm, dDict0, dSetK, hasK, atK, dGet2, keyD_i, dOutM, dCallL, dMakeR, mkSl, rfAt, madeR, madeRE, List.cons_append, List.nil_append, dCallX, dIsX, dLcH, dLcE, vw1, vw2, bare, dListR, dListR2, dForK, dkAt, dPar2, dPar3, keyD_i, dMethR, dMethP, dCallP, lentQ, noS, dSettle, dSetKM, dPopK, dStrM, dForS, dSortK, dOutT, outL, dLcI, dForI, dEnum, dZip, dgTD, dgCons, dgNil, dgIx, dSlM, dLI, fDivW_i, fDictP, Nat.reduceAdd]
  refine lcE_nums [w.1, w.2.1, w.2.2] [] (fun n hn => ?_) (by show 0 + 3 ≤ 1000; decide) ?_
  · simp only [List.mem_cons, List.not_mem_nil, or_false] at hn
    rcases hn with rfl | rfl | rfl
    · exact ⟨a1, a2⟩
    · exact ⟨b1, b2⟩
    · exact ⟨c1, c2⟩
  · simp only [shut_eq, dSeq, dSet, dRet, dExpr, dIfS, dNil, dIf, dTst, dBin, dUn, dVar, dC, dAnd, dOr, dNot, dAndV, dOrV, dNotV, dChain, dANil, dACons, dLst, dTup, dFld, dAsg, dgN, dSetIx, dLM, hasL, atL, dSetF, dCall, dCallR, hasO, dMeth, dMake, run_eq, dEnd_nx, dEnd_rt, dEnd_ex, outS, dLc, dLcG, dLcR, dFor, dForG, dForR, wipeD, backD, dYes, fLt, fLe, fGt, fGe, fEq, fNe, fIn, fNotIn, eqv_int, at_0, at_1, at_2, at_3, ix_0, ix_1, ix_2, ix_3, List.getElem?_cons_zero, List.getElem?_cons_succ, List.set_cons_zero, List.set_cons_succ, List.cons_append, List.nil_append, List.replicate_succ, List.replicate_zero, List.map_cons, List.map_nil, List.take_succ_cons, List.take_zero, List.length_cons, List.length_nil, List.take, List.length_set, pk_d, pk_fr, pk_sl, stab_d, stab_fr, stab_sl, fz_d, fz_fr, fz_sl, toD_l, toD_i, toD_k, re_rf, re_ow, store_d, store_fr, store_sl, outV_d, outV_fr, outV_sl, items_l, items_t, items_s, rng_1, rng_2, dgT_t, setAll_0, setAll_s, putR_rf, madeQ_n, fAdd_i, fAdd_l, fSub_i, fMul_i, fDiv_i, fMod_i, fPow_i, fNeg_i, fAbs_i, fCmp_i, fIn_l, fNotIn_l, fIx_l, fIx_t, fIx_s, fLen_l, fLen_t, fLen_s, fInt_i, fInt_b, fList_l, fList_t, fIsN_n, fNotN_n, isN_i, gAppend_1, gPop_c, fFld_i, fRev_l, pl_i, fIsi_i, fIsi_b, fIsi_n, fIsi_l, fIsi_t, List.length_map, anyI, pl_ints, if_false_t, dVw, dToM, dSetFM, dLMM, dMethM, dCallM, dMakeM, atM, backM, backO, tkAt, dForT, dLcT, dSetKT, hasT, dDictT, dMem, dRaise, dRaise0, mk1, mk2, dTry, dTryAs, dExcF, noEx, dSl, dPart, dNoPart, pk_me, stab_me, fz_me, store_me, outV_me, mem_un, mem_d, mem_ow, mem_rf, mem_mm, toD_t, keyT_node, madeE, madeQ, keepD_d, keepD_un, keepD_ow, keepD_rf, keepD_mm, dDict0, dSetK, hasK, atK, dGet2, keyD_i, dOutM, dCallL, dMakeR, mkSl, rfAt, madeR, madeRE, List.cons_append, List.nil_append, dCallX, dIsX, dLcH, dLcE, vw1, vw2, bare, dListR, dListR2, dForK, dkAt, dPar2, dPar3, keyD_i, dMethR, dMethP, dCallP, lentQ, noS, dSettle, dSetKM, dPopK, dStrM, dForS, dSortK, dOutT, outL, dLcI, dForI, dEnum, dZip, dgTD, dgCons, dgNil, dgIx, dSlM, dLI, fDivW_i, fDictP, Nat.reduceAdd, DW.fTuple]
    exact ⟨by omega, kk _⟩
theorem read_core {A : Cs} {m r : Int} {rs : List Road} {pre post : List Str} {Q : DV → List SV → Prop} {E : DExc → List SV → Prop} (hm : InR m) (hr : InR r) (hrs : ∀ w, w ∈ rs → InRoad w) (hp : pre = [] ∨ pre = linesL m r rs)
    (hnl : ∀ x, x ∈ pre ++ post → 10 ∉ tlS x) (hlen : ∀ x, x ∈ pre ++ post → x.length ≤ 60) (hc : (pre ++ post).length ≤ 200) (hne : pre ++ post ≠ [])
    (hbad : ∀ line rest, post = line :: rest → BadLine pre.length line = true ∧ E (textE A pre.length) [.un])
    (hend : post = [] → pre = linesL m r rs ∧ ∀ t rows x4 x5, r_read_2 A (dEnd 1 Q E) [.d t, .ow (.l rows), .ow (.l [.int m, .int r]), .ow (.l (rowsD rs)), x4, x5, .un]) : run_read A [.d (.str (Txt.join nlS (pre ++ post)))] Q E := by
  have hz : sizeLine = 16777216 := by decide
  have tl := joinT_len hc hlen
  have sp : Txt.split (Txt.join nlS (pre ++ post)) nlS = pre ++ post := TL.split_join (s := 10) (S := []) (by decide +kernel) (by decide +kernel) hne hnl
  have ln : ("\n" : Str).length = 1 := by decide +kernel
  generalize Txt.join nlS (pre ++ post) = t at tl sp
  unfold run_read b_read
  simp only [shut_eq, dSeq, dSet, dRet, dExpr, dIfS, dNil, dIf, dTst, dBin, dUn, dVar, dC, dAnd, dOr, dNot, dAndV, dOrV, dNotV, dChain, dANil, dACons, dLst, dTup, dFld, dAsg, dgN, dSetIx, dLM, hasL, atL, dSetF, dCall, dCallR, hasO, dMeth, dMake, run_eq, dEnd_nx, dEnd_rt, dEnd_ex, outS, dLc, dLcG, dLcR, dFor, dForG, dForR, wipeD, backD, dYes, fLt, fLe, fGt, fGe, fEq, fNe, fIn, fNotIn, eqv_int, at_0, at_1, at_2, at_3, ix_0, ix_1, ix_2, ix_3, List.getElem?_cons_zero, List.getElem?_cons_succ, List.set_cons_zero, List.set_cons_succ, List.cons_append, List.nil_append, List.replicate_succ, List.replicate_zero, List.map_cons, List.map_nil, List.take_succ_cons, List.take_zero, List.length_cons, List.length_nil, List.take, List.length_set, pk_d, pk_fr, pk_sl, stab_d, stab_fr, stab_sl, fz_d, fz_fr, fz_sl, toD_l, toD_i, toD_k, re_rf, re_ow, store_d, store_fr, store_sl, outV_d, outV_fr, outV_sl, items_l, items_t, items_s, rng_1, rng_2, dgT_t, setAll_0, setAll_s, putR_rf, madeQ_n, fAdd_i, fAdd_l, fSub_i, fMul_i, fDiv_i, fMod_i, fPow_i, fNeg_i, fAbs_i, fCmp_i, fIn_l, fNotIn_l, fIx_l, fIx_t, fIx_s, fLen_l, fLen_t, fLen_s, fInt_i, fInt_b, fList_l, fList_t, fIsN_n, fNotN_n, isN_i, gAppend_1, gPop_c, fFld_i, fRev_l, pl_i, fIsi_i, fIsi_b, fIsi_n, fIsi_l, fIsi_t, List.length_map, anyI, pl_ints, if_false_t, dVw, dToM, dSetFM, dLMM, dMethM, dCallM, dMakeM, atM, backM, backO, tkAt, dForT, dLcT, dSetKT, hasT, dDictT, dMem, dRaise, dRaise0, mk1, mk2, dTry, dTryAs, dExcF, noEx, dSl, dPart, dNoPart, pk_me, stab_me, fz_me, store_me, outV_me, mem_un, mem_d, mem_ow, mem_rf, mem_mm, toD_t, keyT_node, madeE, madeQ, keepD_d, keepD_un, keepD_ow, keepD_rf, keepD_mm, dDict0, dSetK, hasK, atK, dGet2, keyD_i, dOutM, dCallL, dMakeR, mkSl, rfAt, madeR, madeRE, List.cons_append, List.nil_append, dCallX, dIsX, dLcH, dLcE, vw1, vw2, bare, dListR, dListR2, dForK, dkAt, dPar2, dPar3, keyD_i, dMethR, dMethP, dCallP, lentQ, noS, dSettle, dSetKM, dPopK, dStrM, dForS, dSortK, dOutT, outL, dLcI, dForI, dEnum, dZip, dgTD, dgCons, dgNil, dgIx, dSlM, dLI, fDivW_i, fDictP, Nat.reduceAdd, fSplit, ln]
  refine ⟨by decide, by omega, ?_⟩
  rw [sp]
  (get_elem_tactic_extensible; repeat refine And.intro (by first | exact trivial | decide | omega) ?_)
  have er : rangeD 0 (((pre ++ post).length : Nat) : Int).toNat = (List.range (pre ++ post).length).map fun j : Nat => D.int (j : Int) := by
    unfold rangeD
    rw [Int.toNat_natCast]
    exact List.map_congr_left fun j _ => by rw [Int.zero_add]
  rw [er]
  refine forN_ind (fun j : Nat => D.int (j : Int)) (fun todo ρ => ∃ (dn : List Nat) (hd : List D) (x4 x5 : SV), List.range (pre ++ post).length = dn ++ todo ∧ dn.length ≤ pre.length ∧ (0 < dn.length → hd = [.int m, .int r]) ∧ ρ = [.d (.str t), .ow (.l ((pre ++ post).map .str)), .ow (.l hd), .ow (.l (rowsD (rs.take (dn.length - 1)))), x4, x5, .un]) ?_ ?_ (List.range (pre ++ post).length) _ ⟨[], [], .un, .un, rfl, Nat.zero_le _, fun h => absurd h (Nat.lt_irrefl 0), rfl⟩
  · rintro ρ ⟨dn, hd, x4, x5, e, hle, hh, rfl⟩
    have hdl : dn.length = (pre ++ post).length := by
      have := congrArg List.length e
      rw [List.length_range, List.append_nil] at this
      exact this.symm
    rw [List.length_append] at hdl
    have hpost : post = [] := List.eq_nil_of_length_eq_zero (by omega)
    obtain ⟨h1, h2⟩ := hend hpost
    have hpl : pre.length = rs.length + 1 := by rw [h1]; unfold linesL; rw [List.length_cons, List.length_map]
    rw [hh (by omega), show dn.length - 1 = rs.length by omega, List.take_length]
    exact h2 _ _ _ _
  · rintro j todo ρ N ⟨dn, hd, x4, x5, e, hle, hh, rfl⟩ hN
    have hj : j = dn.length := by
      have := congrArg (fun l => l[dn.length]?) e
      simp only [List.getElem?_append_right (Nat.le_refl _), Nat.sub_self, List.getElem?_cons_zero] at this
      obtain ⟨_, h⟩ := List.getElem?_eq_some_iff.mp this
      rw [List.getElem_range] at h
      exact h.symm
    have hj2 : j < (pre ++ post).length := List.mem_range.mp (by rw [e]; simp)
    subst hj
    simp only [shut_eq, dSeq, dSet, dRet, dExpr, dIfS, dNil, dIf, dTst, dBin, dUn, dVar, dC, dAnd, dOr, dNot, dAndV, dOrV, dNotV, dChain, dANil, dACons, dLst, dTup, dFld, dAsg, dgN, dSetIx, dLM, hasL, atL, dSetF, dCall, dCallR, hasO, dMeth, dMake, run_eq, dEnd_nx, dEnd_rt, dEnd_ex, outS, dLc, dLcG, dLcR, dFor, dForG, dForR, wipeD, backD, dYes, fLt, fLe, fGt, fGe, fEq, fNe, fIn, fNotIn, eqv_int, at_0, at_1, at_2, at_3, ix_0, ix_1, ix_2, ix_3, List.getElem?_cons_zero, List.getElem?_cons_succ, List.set_cons_zero, List.set_cons_succ, List.cons_append, List.nil_append, List.replicate_succ, List.replicate_zero, List.map_cons, List.map_nil, List.take_succ_cons, List.take_zero, List.length_cons, List.length_nil, List.take, List.length_set, pk_d, pk_fr, pk_sl, stab_d, stab_fr, stab_sl, fz_d, fz_fr, fz_sl, toD_l, toD_i, toD_k, re_rf, re_ow, store_d, store_fr, store_sl, outV_d, outV_fr, outV_sl, items_l, items_t, items_s, rng_1, rng_2, dgT_t, setAll_0, setAll_s, putR_rf, madeQ_n, fAdd_i, fAdd_l, fSub_i, fMul_i, fDiv_i, fMod_i, fPow_i, fNeg_i, fAbs_i, fCmp_i, fIn_l, fNotIn_l, fIx_l, fIx_t, fIx_s, fLen_l, fLen_t, fLen_s, fInt_i, fInt_b, fList_l, fList_t, fIsN_n, fNotN_n, isN_i, gAppend_1, gPop_c, fFld_i, fRev_l, pl_i, fIsi_i, fIsi_b, fIsi_n, fIsi_l, fIsi_t, List.length_map, anyI, pl_ints, if_false_t, dVw, dToM, dSetFM, dLMM, dMethM, dCallM, dMakeM, atM, backM, backO, tkAt, dForT, dLcT, dSetKT, hasT, dDictT, dMem, dRaise, dRaise0, mk1, mk2, dTry, dTryAs, dExcF, noEx, dSl, dPart, dNoPart, pk_me, stab_me, fz_me, store_me, outV_me, mem_un, mem_d, mem_ow, mem_rf, mem_mm, toD_t, keyT_node, madeE, madeQ, keepD_d, keepD_un, keepD_ow, keepD_rf, keepD_mm, dDict0, dSetK, hasK, atK, dGet2, keyD_i, dOutM, dCallL, dMakeR, mkSl, rfAt, madeR, madeRE, List.cons_append, List.nil_append, dCallX, dIsX, dLcH, dLcE, vw1, vw2, bare, dListR, dListR2, dForK, dkAt, dPar2, dPar3, keyD_i, dMethR, dMethP, dCallP, lentQ, noS, dSettle, dSetKM, dPopK, dStrM, dForS, dSortK, dOutT, outL, dLcI, dForI, dEnum, dZip, dgTD, dgCons, dgNil, dgIx, dSlM, dLI, fDivW_i, fDictP, Nat.reduceAdd]
    refine ⟨by decide, ?_⟩
    by_cases c : dn.length < pre.length
    · have hpe : pre = linesL m r rs := by
        rcases hp with h | h
        · rw [h] at c; exact absurd c (Nat.not_lt_zero _)
        · exact h
      have hpl : pre.length = rs.length + 1 := by rw [hpe]; unfold linesL; rw [List.length_cons, List.length_map]
      by_cases c0 : dn.length = 0
      · have hrow : (pre ++ post)[0]? = some (lineM m r) := by
          rw [hpe]; rfl
        rw [c0]
        refine turn_head hrow hm hr fun x5 => ?_
        have e9 : rowsD (rs.take (0 - 1)) = rowsD (rs.take ((dn ++ [0]).length - 1)) := by simp [c0]
        rw [e9]
        exact hN _ ⟨dn ++ [0], _, _, _, by rw [e, c0]; simp, by rw [List.length_append, List.length_singleton]; omega, fun _ => rfl, rfl⟩
      · obtain ⟨i, hi⟩ : ∃ i, dn.length = i + 1 := ⟨dn.length - 1, by omega⟩
        have hir : i < rs.length := by omega
        have hrow : (pre ++ post)[dn.length]? = some (lineR (rs[i]'hir)) := by
          rw [List.getElem?_append_left c, hpe, hi]
          unfold linesL
          rw [List.getElem?_cons_succ, List.getElem?_map, List.getElem?_eq_getElem hir]
          rfl
        refine turn_road (by omega) hrow (hrs _ (List.getElem_mem hir)) ?_ fun x5 => ?_
        · unfold rowsD
          rw [List.length_map, List.length_take]
          rw [List.length_append] at hc
          omega
        have e9 : rowsD (rs.take (dn.length - 1)) ++ [roadD (rs[i]'hir)] = rowsD (rs.take ((dn ++ [dn.length]).length - 1)) := by
          rw [List.length_append, List.length_singleton, hi, Nat.add_sub_cancel, Nat.add_sub_cancel]
          unfold rowsD
          rw [List.take_succ_eq_append_getElem hir, List.map_append]
          rfl
        rw [e9]
        exact hN _ ⟨dn ++ [dn.length], _, _, _, by rw [e]; simp, by rw [List.length_append, List.length_singleton]; omega, fun _ => hh (by omega), rfl⟩
    · have hd2 : dn.length = pre.length := by omega
      cases hpo : post with
      | nil => rw [hpo, List.append_nil] at hj2; omega
      | cons line rest =>
        obtain ⟨h1, h2⟩ := hbad line rest hpo
        have hrow : (pre ++ post)[dn.length]? = some line := by
          rw [List.getElem?_append_right (by omega), hd2, Nat.sub_self, hpo]
          rfl
        rw [← hpo]
        have := hlen line (by rw [hpo]; simp)
        refine turn_bad hrow (by omega) (by rw [hd2]; exact h1) fun x5 => ?_
        rw [hd2]
        exact h2
end LL
namespace LL
open PySem L2 DW
local macro_rules | `(tactic| get_elem_tactic_extensible) => `(tactic| simp -failIfUnchanged only [shut_eq, dSeq, dSet, dRet, dExpr, dIfS, dNil, dIf, dTst, dBin, dUn, dVar, dC, dAnd, dOr, dNot, dAndV, dOrV, dNotV, dChain, dANil, dACons, dLst, dTup, dFld, dAsg, dgN, dSetIx, dLM, hasL, atL, dSetF, dCall, dCallR, hasO, dMeth, dMake, run_eq, dEnd_nx, dEnd_rt, dEnd_ex, outS, dLc, dLcG, dLcR, dFor, dForG, dForR, wipeD, backD, dYes, fLt, fLe, fGt, fGe, fEq, fNe, fIn, fNotIn, eqv_int, at_0, at_1, at_2, at_3, ix_0, ix_1, ix_2, ix_3, List.getElem?_cons_zero, List.getElem?_cons_succ, List.set_cons_zero, List.set_cons_succ, List.cons_append, List.nil_append, List.replicate_succ, List.replicate_zero, List.map_cons, List.map_nil, List.take_succ_cons, List.take_zero, List.length_cons, List.length_nil, List.take, List.length_set, pk_d, pk_fr, pk_sl, stab_d, stab_fr, stab_sl, fz_d, fz_fr, fz_sl, toD_l, toD_i, toD_k, re_rf, re_ow, store_d, store_fr, store_sl, outV_d, outV_fr, outV_sl, items_l, items_t, items_s, rng_1, rng_2, dgT_t, setAll_0, setAll_s, putR_rf, madeQ_n, fAdd_i, fAdd_l, fSub_i, fMul_i, fDiv_i, fMod_i, fPow_i, fNeg_i, fAbs_i, fCmp_i, fIn_l, fNotIn_l, fIx_l, fIx_t, fIx_s, fLen_l, fLen_t, fLen_s, fInt_i, fInt_b, fList_l, fList_t, fIsN_n, fNotN_n, isN_i, gAppend_1, gPop_c, fFld_i, fRev_l, pl_i, fIsi_i, fIsi_b, fIsi_n, fIsi_l, fIsi_t, List.length_map, anyI, pl_ints, if_false_t, dVw, dToM, dSetFM, dLMM, dMethM, dCallM, dMakeM, atM, backM, backO, tkAt, dForT, dLcT, dSetKT, hasT, dDictT, dMem, dRaise, dRaise0, mk1, mk2, dTry, dTryAs, dExcF, noEx, dSl, dPart, dNoPart, pk_me, stab_me, fz_me, store_me, outV_me, mem_un, mem_d, mem_ow, mem_rf, mem_mm, toD_t, keyT_node, madeE, madeQ, keepD_d, keepD_un, keepD_ow, keepD_rf, keepD_mm, dDict0, dSetK, hasK, atK, dGet2, keyD_i, dOutM, dCallL, dMakeR, mkSl, rfAt, madeR, madeRE, List.cons_append, List.nil_append, dCallX, dIsX, dLcH, dLcE, vw1, vw2, bare, dListR, dListR2, dForK, dkAt, dPar2, dPar3, keyD_i, dMethR, dMethP, dCallP, lentQ, noS, dSettle, dSetKM, dPopK, dStrM, dForS, dSortK, dOutT, outL, dLcI, dForI, dEnum, dZip, dgTD, dgCons, dgNil, dgIx, dSlM, dLI, fDivW_i, fDictP, Nat.reduceAdd])
theorem is_map {A : Cs} {xa : Addr} {xd : Option Addr} {f : Str} {v : D} {fs : List (Str × D)} {Q : DV → List SV → Prop} {E : DExc → List SV → Prop} (k : Q (.d (.bl true)) [.un, .un]) : run_law_is A xa (.ref A.BadMap) xd [.d (.exc (.ref A.BadMap) xa xd ((f, v) :: fs)), .d (.str "map")] Q E := by
  have hz : sizeLine = 16777216 := by decide
  unfold run_law_is b_law_is
  get_elem_tactic_extensible
  refine ⟨trivial, trivial, trivial, .inr (by simp), .inl ⟨by simp, trivial, trivial, trivial, .inr (by simp), .inr ⟨by simp, trivial, trivial, trivial, .inr (by simp), .inr ⟨by simp, trivial, trivial, trivial, .inr (by simp), .inr ⟨by simp, by decide, by decide, by decide, by decide, trivial, trivial, trivial, .inr (by simp), .inl ⟨by simp, ?_⟩⟩⟩⟩⟩⟩
  rw [if_pos trivial]
  show dLcN _ _ _ _ _ ((["map", "tree", "road", "text"] : List Str).map D.str) _ _
  refine lcN_fm D.str (fun _ => true) (fun w => .bl (D.eqv (.str "map") (.str w))) ["map", "tree", "road", "text"] [] (fun w hw N1 N2 h1 h2 => ?_) (by show 0 + 4 ≤ _; omega) ?_
  · get_elem_tactic_extensible
    rw [if_pos trivial]
    have ok : ∀ w, w ∈ [("map" : Str), "tree", "road", "text"] → PyData.strOk w = true := by decide +kernel
    exact ⟨by decide, by decide +kernel, by simpa [D.pl] using ok w hw, h1 rfl⟩
  · get_elem_tactic_extensible
    have e : D.eqv (.lst [D.bl true, D.bl false, D.bl false, D.bl false]) (.lst ((([("map" : Str), "tree", "road", "text"].filter fun _ => true).map fun w => D.bl (D.eqv (.str "map") (.str w))))) = true := by decide +kernel
    refine ⟨by decide, by decide +kernel, ?_⟩
    rw [e]
    exact k
theorem is_text {A : Cs} {xa : Addr} {xd : Option Addr} {f : Str} {v : D} {fs : List (Str × D)} {Q : DV → List SV → Prop} {E : DExc → List SV → Prop} (k : Q (.d (.bl true)) [.un, .un]) : run_law_is A xa (.ref A.BadText) xd [.d (.exc (.ref A.BadText) xa xd ((f, v) :: fs)), .d (.str "text")] Q E := by
  have hz : sizeLine = 16777216 := by decide
  unfold run_law_is b_law_is
  get_elem_tactic_extensible
  refine ⟨trivial, trivial, trivial, .inr (by simp), .inr ⟨by simp, trivial, trivial, trivial, .inr (by simp), .inr ⟨by simp, trivial, trivial, trivial, .inr (by simp), .inr ⟨by simp, trivial, trivial, trivial, .inr (by simp), .inl ⟨by simp, by decide, by decide, by decide, by decide, trivial, trivial, trivial, .inr (by simp), .inl ⟨by simp, ?_⟩⟩⟩⟩⟩⟩
  rw [if_pos trivial]
  show dLcN _ _ _ _ _ ((["map", "tree", "road", "text"] : List Str).map D.str) _ _
  refine lcN_fm D.str (fun _ => true) (fun w => .bl (D.eqv (.str "text") (.str w))) ["map", "tree", "road", "text"] [] (fun w hw N1 N2 h1 h2 => ?_) (by show 0 + 4 ≤ _; omega) ?_
  · get_elem_tactic_extensible
    rw [if_pos trivial]
    have ok : ∀ w, w ∈ [("map" : Str), "tree", "road", "text"] → PyData.strOk w = true := by decide +kernel
    exact ⟨by decide, by decide +kernel, by simpa [D.pl] using ok w hw, h1 rfl⟩
  · get_elem_tactic_extensible
    have e : D.eqv (.lst [D.bl false, D.bl false, D.bl false, D.bl true]) (.lst ((([("map" : Str), "tree", "road", "text"].filter fun _ => true).map fun w => D.bl (D.eqv (.str "text") (.str w))))) = true := by decide +kernel
    refine ⟨by decide, by decide +kernel, ?_⟩
    rw [e]
    exact k
theorem whole_any {A : Cs} {xa : Addr} {xc : Value} {xd : Option Addr} {d : Int} {Q : DV → List SV → Prop} {E : DExc → List SV → Prop} (k : Q (.d (.bl true)) [.un]) : run_law_whole A xa xc xd [.d (.int d)] Q E := by
  unfold run_law_whole b_law_whole
  get_elem_tactic_extensible
  rw [if_pos (by decide)]
  exact k
theorem refused_text {A : Cs} {rows : List Str} {at_ : Int} {Q : DV → List SV → Prop} {E : DExc → List SV → Prop} (hb : (rows.map (·.length)).sum + rows.length * nlS.length ≤ 16777216)
    (H : ∀ (Q : DV → List SV → Prop) (E : DExc → List SV → Prop), E (textE A at_) [.un] → run_read A [.d (.str (Txt.join nlS rows))] Q E) (k : Q (.d (.bl true)) [.un, .un, .un, .un]) :
    run_law_refused A [.d (.lst (rows.map .str)), .d (.str "text"), .d (.int at_), .d (.str "")] Q E := by
  unfold run_law_refused b_law_refused
  get_elem_tactic_extensible
  unfold t_law_refused_1
  simp only [shut_eq, dSeq, dSet, dRet, dExpr, dIfS, dNil, dIf, dTst, dBin, dUn, dVar, dC, dAnd, dOr, dNot, dAndV, dOrV, dNotV, dChain, dANil, dACons, dLst, dTup, dFld, dAsg, dgN, dSetIx, dLM, hasL, atL, dSetF, dCall, dCallR, hasO, dMeth, dMake, run_eq, dEnd_nx, dEnd_rt, dEnd_ex, outS, dLc, dLcG, dLcR, dFor, dForG, dForR, wipeD, backD, dYes, fLt, fLe, fGt, fGe, fEq, fNe, fIn, fNotIn, eqv_int, at_0, at_1, at_2, at_3, ix_0, ix_1, ix_2, ix_3, List.getElem?_cons_zero, List.getElem?_cons_succ, List.set_cons_zero, List.set_cons_succ, List.cons_append, List.nil_append, List.replicate_succ, List.replicate_zero, List.map_cons, List.map_nil, List.take_succ_cons, List.take_zero, List.length_cons, List.length_nil, List.take, List.length_set, pk_d, pk_fr, pk_sl, stab_d, stab_fr, stab_sl, fz_d, fz_fr, fz_sl, toD_l, toD_i, toD_k, re_rf, re_ow, store_d, store_fr, store_sl, outV_d, outV_fr, outV_sl, items_l, items_t, items_s, rng_1, rng_2, dgT_t, setAll_0, setAll_s, putR_rf, madeQ_n, fAdd_i, fAdd_l, fSub_i, fMul_i, fDiv_i, fMod_i, fPow_i, fNeg_i, fAbs_i, fCmp_i, fIn_l, fNotIn_l, fIx_l, fIx_t, fIx_s, fLen_l, fLen_t, fLen_s, fInt_i, fInt_b, fList_l, fList_t, fIsN_n, fNotN_n, isN_i, gAppend_1, gPop_c, fFld_i, fRev_l, pl_i, fIsi_i, fIsi_b, fIsi_n, fIsi_l, fIsi_t, List.length_map, anyI, pl_ints, if_false_t, dVw, dToM, dSetFM, dLMM, dMethM, dCallM, dMakeM, atM, backM, backO, tkAt, dForT, dLcT, dSetKT, hasT, dDictT, dMem, dRaise, dRaise0, mk1, mk2, dTry, dTryAs, dExcF, noEx, dSl, dPart, dNoPart, pk_me, stab_me, fz_me, store_me, outV_me, mem_un, mem_d, mem_ow, mem_rf, mem_mm, toD_t, keyT_node, madeE, madeQ, keepD_d, keepD_un, keepD_ow, keepD_rf, keepD_mm, dDict0, dSetK, hasK, atK, dGet2, keyD_i, dOutM, dCallL, dMakeR, mkSl, rfAt, madeR, madeRE, List.cons_append, List.nil_append, dCallX, dIsX, dLcH, dLcE, vw1, vw2, bare, dListR, dListR2, dForK, dkAt, dPar2, dPar3, keyD_i, dMethR, dMethP, dCallP, lentQ, noS, dSettle, dSetKM, dPopK, dStrM, dForS, dSortK, dOutT, outL, dLcI, dForI, dEnum, dZip, dgTD, dgCons, dgNil, dgIx, dSlM, dLI, fDivW_i, fDictP, Nat.reduceAdd, fJoin, strsD_map]
  refine ⟨hb, trivial, H _ _ ?_⟩
  unfold textE
  get_elem_tactic_extensible
  refine .inl ⟨by simp, by decide, fun a d _ => ⟨trivial, is_text ?_⟩⟩
  get_elem_tactic_extensible
  have l1 : List.lookup ("row" : Str) [(("row" : Str), D.int at_)] = some (D.int at_) := by
    rw [List.lookup_cons, beq_self_eq_true]
  unfold r_law_refused_3
  get_elem_tactic_extensible
  refine ⟨by decide +kernel, by decide +kernel, ?_⟩
  rw [if_pos (by decide +kernel)]
  simp only [Option.getD_some, l1]
  refine ⟨trivial, trivial, trivial, trivial, whole_any ?_⟩
  get_elem_tactic_extensible
  rw [if_pos trivial]
  refine ⟨trivial, trivial, trivial, trivial, trivial, ?_⟩
  simpa using k
theorem refused_map {A : Cs} {rows : List Str} {at_ : Int} {why : Str} {Q : DV → List SV → Prop} {E : DExc → List SV → Prop} (hw : PyData.strOk why = true) (he : D.eqv (.str why) (.str why) = true) (hb : (rows.map (·.length)).sum + rows.length * nlS.length ≤ 16777216)
    (H : ∀ (Q : DV → List SV → Prop) (E : DExc → List SV → Prop), E (badE A at_ why) [.un] → run_read A [.d (.str (Txt.join nlS rows))] Q E) (k : Q (.d (.bl true)) [.un, .un, .un, .un]) :
    run_law_refused A [.d (.lst (rows.map .str)), .d (.str "map"), .d (.int at_), .d (.str why)] Q E := by
  unfold run_law_refused b_law_refused
  get_elem_tactic_extensible
  unfold t_law_refused_1
  simp only [shut_eq, dSeq, dSet, dRet, dExpr, dIfS, dNil, dIf, dTst, dBin, dUn, dVar, dC, dAnd, dOr, dNot, dAndV, dOrV, dNotV, dChain, dANil, dACons, dLst, dTup, dFld, dAsg, dgN, dSetIx, dLM, hasL, atL, dSetF, dCall, dCallR, hasO, dMeth, dMake, run_eq, dEnd_nx, dEnd_rt, dEnd_ex, outS, dLc, dLcG, dLcR, dFor, dForG, dForR, wipeD, backD, dYes, fLt, fLe, fGt, fGe, fEq, fNe, fIn, fNotIn, eqv_int, at_0, at_1, at_2, at_3, ix_0, ix_1, ix_2, ix_3, List.getElem?_cons_zero, List.getElem?_cons_succ, List.set_cons_zero, List.set_cons_succ, List.cons_append, List.nil_append, List.replicate_succ, List.replicate_zero, List.map_cons, List.map_nil, List.take_succ_cons, List.take_zero, List.length_cons, List.length_nil, List.take, List.length_set, pk_d, pk_fr, pk_sl, stab_d, stab_fr, stab_sl, fz_d, fz_fr, fz_sl, toD_l, toD_i, toD_k, re_rf, re_ow, store_d, store_fr, store_sl, outV_d, outV_fr, outV_sl, items_l, items_t, items_s, rng_1, rng_2, dgT_t, setAll_0, setAll_s, putR_rf, madeQ_n, fAdd_i, fAdd_l, fSub_i, fMul_i, fDiv_i, fMod_i, fPow_i, fNeg_i, fAbs_i, fCmp_i, fIn_l, fNotIn_l, fIx_l, fIx_t, fIx_s, fLen_l, fLen_t, fLen_s, fInt_i, fInt_b, fList_l, fList_t, fIsN_n, fNotN_n, isN_i, gAppend_1, gPop_c, fFld_i, fRev_l, pl_i, fIsi_i, fIsi_b, fIsi_n, fIsi_l, fIsi_t, List.length_map, anyI, pl_ints, if_false_t, dVw, dToM, dSetFM, dLMM, dMethM, dCallM, dMakeM, atM, backM, backO, tkAt, dForT, dLcT, dSetKT, hasT, dDictT, dMem, dRaise, dRaise0, mk1, mk2, dTry, dTryAs, dExcF, noEx, dSl, dPart, dNoPart, pk_me, stab_me, fz_me, store_me, outV_me, mem_un, mem_d, mem_ow, mem_rf, mem_mm, toD_t, keyT_node, madeE, madeQ, keepD_d, keepD_un, keepD_ow, keepD_rf, keepD_mm, dDict0, dSetK, hasK, atK, dGet2, keyD_i, dOutM, dCallL, dMakeR, mkSl, rfAt, madeR, madeRE, List.cons_append, List.nil_append, dCallX, dIsX, dLcH, dLcE, vw1, vw2, bare, dListR, dListR2, dForK, dkAt, dPar2, dPar3, keyD_i, dMethR, dMethP, dCallP, lentQ, noS, dSettle, dSetKM, dPopK, dStrM, dForS, dSortK, dOutT, outL, dLcI, dForI, dEnum, dZip, dgTD, dgCons, dgNil, dgIx, dSlM, dLI, fDivW_i, fDictP, Nat.reduceAdd, fJoin, strsD_map]
  refine ⟨hb, trivial, H _ _ ?_⟩
  unfold badE
  get_elem_tactic_extensible
  refine .inl ⟨by simp, by decide, fun a d _ => ⟨trivial, is_map ?_⟩⟩
  get_elem_tactic_extensible
  have l1 : List.lookup ("at" : Str) [(("why" : Str), D.str why), ("at", D.int at_)] = some (D.int at_) := by
    rw [List.lookup_cons, beq_eq_false_iff_ne.mpr (by decide +kernel), List.lookup_cons, beq_self_eq_true]
  have l2 : List.lookup ("why" : Str) [(("why" : Str), D.str why), ("at", D.int at_)] = some (D.str why) := by
    rw [List.lookup_cons, beq_self_eq_true]
  have k2 : Q (.d (.bl (D.eqv (.str why) (.str why)))) [.un, .un, .un, .un] := by rw [he]; exact k
  unfold r_law_refused_3
  get_elem_tactic_extensible
  refine ⟨by decide +kernel, by decide +kernel, ?_⟩
  rw [if_neg (by decide +kernel)]
  unfold r_law_refused_2
  get_elem_tactic_extensible
  simp only [Option.getD_some, l1, l2]
  refine ⟨trivial, trivial, trivial, rfl, trivial, ?_⟩
  rw [if_pos (by rw [eqv_int]; exact decide_eq_true rfl)]
  exact ⟨trivial, trivial, trivial, by simpa [D.pl] using hw, by simpa [D.pl] using hw, k2⟩
def okOdd (k : Nat) (x : Str) : Bool := BadLine k x && (decide (x.length ≤ 60) && !(tlS x).contains 10)
def odds : List Str := ["", "road", "road 0 1", "road 0 1 2 3", "road 0 1 -2", "road 0 01 2", "road 0 1  2", "road 0 1 2 ", "roads 0 1 2", " road 0 1 2", "road 0 1 x", "road 0 1 12345678901", "map 2 0", "Road 0 1 2", "road 0 1 +2", "road 0 1 2.0", "road 0 1 1_0", "road 0 1\t2"]
def heads : List Str := ["", "map", "map 2", "map 2 0 0", "map 02 0", "Map 2 0", "map 2 -1", "map 2  0", "road 0 1 2", "map x 0"]
theorem odds_ok : odds.all (okOdd 1) = true := by decide +kernel
theorem heads_ok : heads.all (okOdd 0) = true := by decide +kernel
theorem odd_at {k : Nat} (hk : 0 < k) {x : Str} (h : x ∈ odds) : BadLine k x = true ∧ x.length ≤ 60 ∧ 10 ∉ tlS x := by
  have q := List.all_eq_true.mp odds_ok x h
  unfold okOdd at q
  simp only [Bool.and_eq_true, decide_eq_true_eq, Bool.not_eq_true', List.contains_eq_mem, decide_eq_false_iff_not] at q
  refine ⟨?_, q.2⟩
  have e : BadLine k x = BadLine 1 x := by
    unfold BadLine rowOk
    rw [if_neg (by omega), if_neg (by decide)]
  rw [e]
  exact q.1
theorem head_at {x : Str} (h : x ∈ heads) : BadLine 0 x = true ∧ x.length ≤ 60 ∧ 10 ∉ tlS x := by
  have q := List.all_eq_true.mp heads_ok x h
  unfold okOdd at q
  simpa only [Bool.and_eq_true, decide_eq_true_eq, Bool.not_eq_true', List.contains_eq_mem, decide_eq_false_iff_not] using q
theorem at_mem {xs : List Str} {v : Int} (h0 : 0 ≤ v) (h1 : v < xs.length) : ∃ x, x ∈ xs ∧ L2.atI (xs.map D.str) v = some (.str x) := by
  obtain ⟨n, rfl⟩ := Int.eq_ofNat_of_zero_le h0
  have hn : n < xs.length := by omega
  exact ⟨xs[n]'hn, List.getElem_mem hn, by rw [at_nat, List.getElem?_map, List.getElem?_eq_getElem hn]; rfl⟩
theorem cut_take {xs : List Str} {n : Nat} : cutD (xs.map D.str) none (some (n : Int)) = (xs.take n).map D.str := by
  have e1 : HT.sIx (xs.map D.str).length (xs.map D.str).length (some (n : Int)) = min n (xs.map D.str).length := HT.sIx_nat ..
  have e2 : HT.sIx (xs.map D.str).length 0 none = 0 := rfl
  unfold cutD
  rw [e1, e2, List.drop_zero, Nat.sub_zero, List.map_take]
  rcases Nat.le_total n ((xs.map D.str).length) with h | h
  · rw [Nat.min_eq_left h]
  · rw [Nat.min_eq_right h, List.take_length, List.take_of_length_le h]
theorem cut_drop {xs : List Str} {n : Nat} (h : n ≤ xs.length) : cutD (xs.map D.str) (some (n : Int)) none = (xs.drop n).map D.str := by
  have e1 : HT.sIx (xs.map D.str).length 0 (some (n : Int)) = min n (xs.map D.str).length := HT.sIx_nat ..
  have e2 : HT.sIx (xs.map D.str).length (xs.map D.str).length none = (xs.map D.str).length := rfl
  have e3 : (xs.map D.str).length = xs.length := List.length_map ..
  unfold cutD
  rw [e1, e2, e3, Nat.min_eq_left h, List.map_drop]
  refine List.take_of_length_le ?_
  rw [List.length_drop, e3]
  exact Nat.le_refl _
theorem sq_lst {i : Nat} {dl : DTA} {b : DTS} {De : DEnds} {ρ : List SV} {as : List D} (h : Vls ρ dl as) (hi : i < ρ.length) (q : ∀ O, O = as → b De (ρ.set i (.ow (.l O)))) (n : as.length ≤ 1000 := by exact Nat.le_of_ble_eq_true rfl) : dSeq (dSet i (dLst dl)) b De ρ := by
  refine sq_set (v_lstO h (fun O hO => ?_) n)
  rw [store_fr]
  exact ⟨hi, q O hO⟩
theorem sq_addlst {i : Nat} {dl : DTA} {b : DTS} {De : DEnds} {ρ : List SV} {xs as : List D} (hρ : ρ[i]? = some (.ow (.l xs))) (h : Vls ρ dl as) (hx : xs.length ≤ 100) (q : ∀ O, O = xs ++ as → b De (ρ.set i (.ow (.l O)))) (n : as.length ≤ 1000 := by exact Nat.le_of_ble_eq_true rfl) : dSeq (dSet i (dBin fAdd (dVar i) (dLst dl))) b De ρ := by
  have hz : sizeLine = 16777216 := by decide
  refine sq_set (bin_of ?_)
  unfold dVar
  simp only [hρ]
  refine v_lst h ?_ n
  have e1 : pk ρ (DV.sl i).fz = fun k => k (.lst xs) := funext fun k => by
    show pk ρ (.sl i) k = _
    unfold pk
    simp only [hρ]
    rfl
  rw [e1]
  show fAdd (.lst xs) (.lst as) (fun z => storeS i z ρ fun ρ2 => b De ρ2)
  refine ⟨by omega, ?_⟩
  have fin : storeS i (.fr (.l (xs ++ as))) ρ fun ρ2 => b De ρ2 := by
    rw [store_fr]
    exact ⟨(List.getElem?_eq_some_iff.mp hρ).1, q _ rfl⟩
  exact fin
end LL
namespace LL
open PySem L2 DW
local macro_rules | `(tactic| get_elem_tactic_extensible) => `(tactic| simp -failIfUnchanged only [shut_eq, dSeq, dSet, dRet, dExpr, dIfS, dNil, dIf, dTst, dBin, dUn, dVar, dC, dAnd, dOr, dNot, dAndV, dOrV, dNotV, dChain, dANil, dACons, dLst, dTup, dFld, dAsg, dgN, dSetIx, dLM, hasL, atL, dSetF, dCall, dCallR, hasO, dMeth, dMake, run_eq, dEnd_nx, dEnd_rt, dEnd_ex, outS, dLc, dLcG, dLcR, dFor, dForG, dForR, wipeD, backD, dYes, fLt, fLe, fGt, fGe, fEq, fNe, fIn, fNotIn, eqv_int, at_0, at_1, at_2, at_3, ix_0, ix_1, ix_2, ix_3, List.getElem?_cons_zero, List.getElem?_cons_succ, List.set_cons_zero, List.set_cons_succ, List.cons_append, List.nil_append, List.replicate_succ, List.replicate_zero, List.map_cons, List.map_nil, List.take_succ_cons, List.take_zero, List.length_cons, List.length_nil, List.take, List.length_set, pk_d, pk_fr, pk_sl, stab_d, stab_fr, stab_sl, fz_d, fz_fr, fz_sl, toD_l, toD_i, toD_k, re_rf, re_ow, store_d, store_fr, store_sl, outV_d, outV_fr, outV_sl, items_l, items_t, items_s, rng_1, rng_2, dgT_t, setAll_0, setAll_s, putR_rf, madeQ_n, fAdd_i, fAdd_l, fSub_i, fMul_i, fDiv_i, fMod_i, fPow_i, fNeg_i, fAbs_i, fCmp_i, fIn_l, fNotIn_l, fIx_l, fIx_t, fIx_s, fLen_l, fLen_t, fLen_s, fInt_i, fInt_b, fList_l, fList_t, fIsN_n, fNotN_n, isN_i, gAppend_1, gPop_c, fFld_i, fRev_l, pl_i, fIsi_i, fIsi_b, fIsi_n, fIsi_l, fIsi_t, List.length_map, anyI, pl_ints, if_false_t, dVw, dToM, dSetFM, dLMM, dMethM, dCallM, dMakeM, atM, backM, backO, tkAt, dForT, dLcT, dSetKT, hasT, dDictT, dMem, dRaise, dRaise0, mk1, mk2, dTry, dTryAs, dExcF, noEx, dSl, dPart, dNoPart, pk_me, stab_me, fz_me, store_me, outV_me, mem_un, mem_d, mem_ow, mem_rf, mem_mm, toD_t, keyT_node, madeE, madeQ, keepD_d, keepD_un, keepD_ow, keepD_rf, keepD_mm, dDict0, dSetK, hasK, atK, dGet2, keyD_i, dOutM, dCallL, dMakeR, mkSl, rfAt, madeR, madeRE, List.cons_append, List.nil_append, dCallX, dIsX, dLcH, dLcE, vw1, vw2, bare, dListR, dListR2, dForK, dkAt, dPar2, dPar3, keyD_i, dMethR, dMethP, dCallP, lentQ, noS, dSettle, dSetKM, dPopK, dStrM, dForS, dSortK, dOutT, outL, dLcI, dForI, dEnum, dZip, dgTD, dgCons, dgNil, dgIx, dSlM, dLI, fDivW_i, fDictP, Nat.reduceAdd])
theorem fSl_take {xs : List Str} {n : Nat} {k : DV → Prop} (h : k (.fr (.l ((xs.take n).map .str)))) : fSl (.lst (xs.map D.str)) none (some (n : Int)) k := by
  show k (.fr (.l (cutD (xs.map D.str) none (some (n : Int)))))
  rw [cut_take]
  exact h
theorem fSl_drop {xs : List Str} {n : Nat} {k : DV → Prop} (hn : n ≤ xs.length) (h : k (.fr (.l ((xs.drop n).map .str)))) : fSl (.lst (xs.map D.str)) (some (n : Int)) none k := by
  show k (.fr (.l (cutD (xs.map D.str) (some (n : Int)) none)))
  rw [cut_drop hn]
  exact h
def LineOk (x : Str) : Prop := x.length ≤ 60 ∧ 10 ∉ tlS x
theorem lines_okR {m r : Int} {rs : List Road} (hm : InR m) (hr : InR r) (hrs : ∀ w, w ∈ rs → InRoad w) : ∀ x, x ∈ linesL m r rs → LineOk x := fun x hx => by
  unfold linesL at hx
  rcases List.mem_cons.mp hx with rfl | hx
  · refine ⟨lineM_len hm.1 hr.1 hm.2 hr.2, fun z => ?_⟩
    have := lineM_sign hm.1 hr.1 z
    omega
  · obtain ⟨w, hw, rfl⟩ := List.mem_map.mp hx
    obtain ⟨⟨b1, b2⟩, ⟨c1, c2⟩, d1, d2⟩ := hrs w hw
    refine ⟨lineR_len b1 c1 d1 b2 c2 d2, fun z => ?_⟩
    have := lineR_sign b1 c1 d1 z
    omega
theorem rows_sum : ∀ xs : List Str, (∀ x, x ∈ xs → x.length ≤ 60) → (xs.map (·.length)).sum ≤ 60 * xs.length := fun xs => by
  induction xs with
  | nil => intro _; simp
  | cons a xs ih =>
    intro h
    have := ih fun x hx => h x (List.mem_cons_of_mem _ hx)
    have := h a List.mem_cons_self
    rw [List.map_cons, List.sum_cons, List.length_cons]
    omega
theorem rows_bound {xs : List Str} (hl : xs.length ≤ 200) (h : ∀ x, x ∈ xs → LineOk x) : (xs.map (·.length)).sum + xs.length * nlS.length ≤ 16777216 := by
  have := rows_sum xs fun x hx => (h x hx).1
  have e : nlS.length = 1 := by decide +kernel
  rw [e]
  omega
theorem refused_bad {A : Cs} {m r : Int} {rs : List Road} {pre rest : List Str} {odd : Str} {rows : List D} {at_ : Int} {Q : DV → List SV → Prop} {E : DExc → List SV → Prop} (hm : InR m) (hr : InR r) (hrs : ∀ w, w ∈ rs → InRoad w) (hp : pre = [] ∨ pre = linesL m r rs)
    (ho : BadLine pre.length odd = true) (hol : LineOk odd) (hrest : ∀ x, x ∈ rest → LineOk x) (hc : pre.length + rest.length ≤ 190) (e1 : rows = (pre ++ odd :: rest).map .str) (e2 : at_ = pre.length) (k : Q (.d (.bl true)) [.un, .un, .un, .un]) :
    run_law_refused A [.d (.lst rows), .d (.str "text"), .d (.int at_), .d (.str "")] Q E := by
  subst e1 e2
  have all : ∀ x, x ∈ pre ++ odd :: rest → LineOk x := fun x hx => by
    rcases List.mem_append.mp hx with hx | hx
    · rcases hp with rfl | rfl
      · cases hx
      · exact lines_okR hm hr hrs x hx
    · rcases List.mem_cons.mp hx with rfl | hx
      · exact hol
      · exact hrest x hx
  have hlen : (pre ++ odd :: rest).length ≤ 200 := by rw [List.length_append, List.length_cons]; omega
  refine refused_text (rows_bound hlen all) (fun Q E k2 => ?_) k
  refine read_core hm hr hrs hp (fun x hx => (all x hx).2) (fun x hx => (all x hx).1) hlen (by simp) (fun line rest' e => ?_) (fun e => by cases e)
  cases e
  exact ⟨ho, k2⟩
theorem linesL_take {m r : Int} {rs : List Road} {n : Nat} : (linesL m r rs).take (n + 1) = linesL m r (rs.take n) := by
  unfold linesL
  rw [List.take_succ_cons, List.map_take]
theorem good_in {many : Int} {rs : List Road} (h : many ≤ 20) (hg : ∀ r, r ∈ rs → GoodRoad many r) : ∀ w, w ∈ rs → InRoad w := fun w hw => by
  obtain ⟨a, b, c, d, e, f, g⟩ := hg w hw
  exact ⟨⟨a, by omega⟩, ⟨c, by omega⟩, f, by omega⟩
theorem behind_ok {bh : List Str} (hb : ∀ x, x ∈ bh → x ∈ (["", "x"] : List Str)) : ∀ x, x ∈ bh → LineOk x := fun x hx => by
  have := hb x hx
  simp only [List.mem_cons, List.not_mem_nil, or_false] at this
  rcases this with rfl | rfl
  · exact ⟨by decide +kernel, by decide +kernel⟩
  · exact ⟨by decide +kernel, by decide +kernel⟩
theorem sq_app {i : Nat} {dl : DTA} {b : DTS} {De : DEnds} {ρ : List SV} {xs : List D} {a : D} (hρ : ρ[i]? = some (.ow (.l xs))) (h : Vls ρ dl [a]) (hx : xs.length ≤ 100) (q : ∀ O, O = xs ++ [a] → b De (ρ.set i (.ow (.l O)))) : dSeq (dExpr (dLM i gAppend dl)) b De ρ := by
  have hz : sizeLine = 16777216 := by decide
  show dLM i gAppend dl ρ (fun _ ρ1 => b De ρ1) De.ex
  refine ⟨?_, h _ _ ?_⟩
  · unfold hasL
    simp only [hρ]
  · unfold atL
    simp only [hρ]
    exact ⟨by omega, q _ rfl⟩
/-- what is told at once may be a new list -/
def Vf (ρ : List SV) (de : DTE) (as : List D) : Prop := ∀ (Q : DV → List SV → Prop) (E : DExc → List SV → Prop), Q (.fr (.l as)) ρ → de ρ Q E
theorem vf_l {ρ : List SV} {dl : DTA} {as : List D} (h : Vls ρ dl as) (n : as.length ≤ 1000 := by exact Nat.le_of_ble_eq_true rfl) : Vf ρ (dLst dl) as := fun _ _ q => v_lst h q n
theorem vf_add {ρ : List SV} {da db : DTE} {as bs : List D} (h : Vf ρ da as) (g : Vf ρ db bs) (n : as.length + bs.length ≤ 1000 := by exact Nat.le_of_ble_eq_true rfl) : Vf ρ (dBin fAdd da db) (as ++ bs) := fun Q E q => h _ _ (g _ _ ⟨Nat.le_trans n (by decide), q⟩)
theorem vf_mul {ρ : List SV} {da db : DTE} {as : List D} {j : Int} (h : Vf ρ da as) (g : Vl ρ db (.int j)) (e : ∀ k : DV → Prop, k (.fr (.l (List.replicate j.toNat as).flatten)) → fMul (.lst as) (.int j) k) : Vf ρ (dBin fMul da db) (List.replicate j.toNat as).flatten := fun Q E q => h _ _ (g _ _ (e (fun z => Q z ρ) q))
theorem vs_lcons {ρ : List SV} {de : DTE} {dm : DTA} {as bs : List D} (h : Vf ρ de as) (g : Vls ρ dm bs) : Vls ρ (dACons de dm) (.lst as :: bs) := fun Q E q => h _ _ (g _ _ q)
abbrev noneD (x : List Str × Int × Str) : D := .tup [.lst (x.1.map .str), .int x.2.1, .str x.2.2]
def nones : List (List Str × Int × Str) := [(["map 0 0"], 0, "many"), (["map 21 0"], 0, "many"), (["map 3 3"], 0, "root"), ("map 2 0" :: List.replicate 61 "road 0 1 2", 0, "roads"), (["map 2 0", "road 0 1 2", "road 1 2 0"], 1, "place"), (["map 2 0", "road 1 0 1000000001"], 0, "cost"), (["map 2 1", "road 1 0 1", "road 1 0 9999999999", "road 0 0 0"], 1, "cost")]
def Refd (A : Cs) (m r : Int) (rows : List D) (at_ : Int) (why : Str) : Prop := ∀ (Q : DV → List SV → Prop) (E : DExc → List SV → Prop), E (badE A at_ why) [.rf (.i A.Map []), .un, .un, .un] → run_Map_init A [.rf (.i A.Map []), .d (.int m), .d (.int r), .d (.lst rows)] Q E
def NoneOk (A : Cs) (x : List Str × Int × Str) : Prop := ∃ (m r : Int) (rs : List Road), x.1 = linesL m r rs ∧ InR m ∧ InR r ∧ (∀ w, w ∈ rs → InRoad w) ∧ Refd A m r (rowsD rs) x.2.1 x.2.2 ∧ PyData.strOk x.2.2 = true ∧ rs.length ≤ 100
instance (r : Road) : Decidable (InRoad r) := by unfold InRoad; infer_instance
theorem nones_ok {A : Cs} : ∀ x, x ∈ nones → NoneOk A x := fun x hx => by
  unfold nones at hx
  simp only [List.mem_cons, List.not_mem_nil, or_false] at hx
  rcases hx with rfl | rfl | rfl | rfl | rfl | rfl | rfl
  · exact ⟨0, 0, [], by decide +kernel, by decide, by decide, by decide, fun Q E h => bad_many (by decide) h, by decide +kernel, by decide⟩
  · exact ⟨21, 0, [], by decide +kernel, by decide, by decide, by decide, fun Q E h => bad_many (by decide) h, by decide +kernel, by decide⟩
  · exact ⟨3, 3, [], by decide +kernel, by decide, by decide, by decide, fun Q E h => bad_root (by decide) (by decide) h, by decide +kernel, by decide⟩
  · exact ⟨2, 0, List.replicate 61 (0, 1, 2), by decide +kernel, by decide, by decide, fun w hw => by rw [List.eq_of_mem_replicate hw]; decide, fun Q E h => bad_roads (by decide) (by decide) (by decide) h, by decide +kernel, by decide⟩
  · exact ⟨2, 0, [(0, 1, 2), (1, 2, 0)], by decide +kernel, by decide, by decide, by decide, fun Q E h => bad_row (rs := [(0, 1, 2)]) (w := (1, 2, 0)) (more := []) (by decide) (by decide) (by decide) (fun r hr => by rw [List.mem_singleton.mp hr]; exact ⟨by decide, by decide, by decide, by decide, by decide, by decide, by decide⟩) (.inl ⟨rfl, by decide⟩) h, by decide +kernel, by decide⟩
  · exact ⟨2, 0, [(1, 0, 1000000001)], by decide +kernel, by decide, by decide, by decide, fun Q E h => bad_row (rs := []) (w := (1, 0, 1000000001)) (more := []) (by decide) (by decide) (by decide) (fun r hr => nomatch hr) (.inr ⟨rfl, by decide, by decide⟩) h, by decide +kernel, by decide⟩
  · exact ⟨2, 1, [(1, 0, 1), (1, 0, 9999999999), (0, 0, 0)], by decide +kernel, by decide, by decide, by decide, fun Q E h => bad_row (rs := [(1, 0, 1)]) (w := (1, 0, 9999999999)) (more := [roadD (0, 0, 0)]) (by decide) (by decide) (by decide) (fun r hr => by rw [List.mem_singleton.mp hr]; exact ⟨by decide, by decide, by decide, by decide, by decide, by decide, by decide⟩) (.inr ⟨rfl, by decide, by decide⟩) h, by decide +kernel, by decide⟩
theorem law1 {A : Cs} {rows : List Str} {num : Int} {why : Str} {y0 : D} {x1 x2 x3 x4 x5 x6 x7 x8 x9 x10 x14 x15 : SV} {Q : DV → List SV → Prop} {E : DExc → List SV → Prop} (hm : (rows, num, why) ∈ nones)
    (k : Q (.d (.bl true)) [.un]) : r_law_1 A (dEnd 1 Q E) [.d y0, x1, x2, x3, x4, x5, x6, x7, x8, x9, x10, .d (.lst (rows.map .str)), .d (.int num), .d (.str why), x14, x15] := by
  have hz : sizeLine = 16777216 := by decide
  obtain ⟨m, r, rs, h1, h2, h3, h4, h5, h6, h7⟩ := nones_ok (A := A) _ hm
  have h1 : rows = linesL m r rs := h1
  have h5 : Refd A m r (rowsD rs) num why := h5
  have h6 : PyData.strOk why = true := h6
  have lok := lines_okR h2 h3 h4
  have hl : rows.length = rs.length + 1 := by rw [h1]; unfold linesL; rw [List.length_cons, List.length_map]
  rw [← h1] at lok
  unfold r_law_1
  get_elem_tactic_extensible
  refine ⟨trivial, refused_map h6 (by rw [eqv_str]; exact decide_eq_true rfl) (rows_bound (by omega) lok) (fun Q E k2 => ?_) ?_⟩
  · have hr := read_core (A := A) (Q := Q) (E := E) h2 h3 h4 (pre := rows) (post := []) (.inr h1) (fun x hx => (lok x (by simpa using hx)).2) (fun x hx => (lok x (by simpa using hx)).1) (by rw [List.append_nil]; omega) (by rw [h1]; unfold linesL; simp) (fun line rest e => by cases e) (fun _ => ⟨h1, fun t rows' x4 x5 => ?_⟩)
    · rw [List.append_nil] at hr
      exact hr
    · unfold r_read_2
      get_elem_tactic_extensible
      refine ⟨trivial, h5 _ _ ?_⟩
      exact k2
  get_elem_tactic_extensible
  have ho : BadLine rows.length "x" = true := by
    have e : BadLine rows.length "x" = BadLine 1 "x" := by
      unfold BadLine rowOk
      rw [if_neg (by omega), if_neg (by decide)]
    rw [e]
    decide +kernel
  refine ⟨by decide, by omega, trivial, refused_bad h2 h3 h4 (pre := rows) (odd := "x") (rest := []) (.inr h1) ho ⟨by decide +kernel, by decide +kernel⟩ (fun x hx => nomatch hx) (by show _ + 0 ≤ _; omega) (by simp) rfl ?_⟩
  get_elem_tactic_extensible
  exact k
theorem law2 {A : Cs} {ns : List Int} {o : OO} {x2 x3 x4 x5 x6 x7 x8 x9 : SV} {Q : DV → List SV → Prop} {E : DExc → List SV → Prop} (d1 : IsDice ns o) 
    (k : Q (.d (.bl true)) [.un]) : r_law_2 A (dEnd 1 Q E) [.d (.scr ns), .ow o, x2, x3, x4, x5, x6, x7, x8, x9, .un, .un, .un, .un, .un, .un] := by
  have hz : sizeLine = 16777216 := by decide
  unfold r_law_2
  rw [shut_eq]
  refine sq_lst (vs_cons (v_tup (vs_lcons (vf_l (vs_cons v_c vs_nil)) (vs_cons v_c (vs_cons v_c vs_nil)))) (vs_cons (v_tup (vs_lcons (vf_l (vs_cons v_c vs_nil)) (vs_cons v_c (vs_cons v_c vs_nil)))) (vs_cons (v_tup (vs_lcons (vf_l (vs_cons v_c vs_nil)) (vs_cons v_c (vs_cons v_c vs_nil)))) vs_nil))) (by show 10 < 16; decide) fun O1 h1 => ?_
  refine sq_app rfl (vs_cons (v_tup (vs_lcons (vf_add (vf_l (vs_cons v_c vs_nil)) (vf_mul (vf_l (vs_cons v_c vs_nil)) v_c (fun k q => ?_)) (by decide)) (vs_cons v_c (vs_cons v_c vs_nil)))) vs_nil) (by rw [h1]; decide) fun O2 h2 => ?_
  · exact ⟨by decide, by decide, by decide, q⟩
  refine sq_app rfl (vs_cons (v_tup (vs_lcons (vf_l (vs_cons v_c (vs_cons v_c (vs_cons v_c vs_nil)))) (vs_cons v_c (vs_cons v_c vs_nil)))) vs_nil) (by rw [h2, h1]; decide) fun O3 h3 => ?_
  refine sq_app rfl (vs_cons (v_tup (vs_lcons (vf_l (vs_cons v_c (vs_cons v_c vs_nil))) (vs_cons v_c (vs_cons v_c vs_nil)))) vs_nil) (by rw [h3, h2, h1]; decide) fun O4 h4 => ?_
  refine sq_app rfl (vs_cons (v_tup (vs_lcons (vf_l (vs_cons v_c (vs_cons v_c (vs_cons v_c (vs_cons v_c vs_nil))))) (vs_cons v_c (vs_cons v_c vs_nil)))) vs_nil) (by rw [h4, h3, h2, h1]; decide) fun O5 h5 => ?_
  have e5 : O5 = nones.map noneD := by rw [h5, h4, h3, h2, h1]; rfl
  clear h1 h2 h3 h4 h5
  subst e5
  simp only [List.set_cons_succ, List.set_cons_zero]
  get_elem_tactic_extensible
  refine ⟨trivial, trivial, next_any d1 (by decide) (by decide) fun v o1 d2 v0 v1 => ?_⟩
  obtain ⟨n, rfl⟩ := Int.eq_ofNat_of_zero_le v0
  have hn : n < nones.length := by show n < 7; omega
  have ea : L2.atI (nones.map noneD) (n : Int) = some (noneD (nones[n]'hn)) := by
    rw [at_nat, List.getElem?_map, List.getElem?_eq_getElem hn]
    rfl
  have hm := List.getElem_mem hn
  generalize nones[n]'hn = x at ea hm
  obtain ⟨rows, num, why⟩ := x
  get_elem_tactic_extensible
  rw [ea]
  get_elem_tactic_extensible
  exact ⟨by decide, by decide, by decide, law1 hm k⟩
theorem law3 {A : Cs} {ns : List Int} {o : OO} {many root : Int} {rs : List Road} {bh : List Str} {x2 x3 x4 x6 x8 : SV} {Q : DV → List SV → Prop} {E : DExc → List SV → Prop} (d1 : IsDice ns o) (a1 : 0 ≤ root) (a2 : root < many) (a3 : many ≤ 8) (a4 : rs.length ≤ 16) (a5 : ∀ r, r ∈ rs → GoodRoad many r)
    (hb : ∀ x, x ∈ bh → x ∈ (["", "x"] : List Str)) (hbl : bh.length ≤ 2) (k : Q (.d (.bl true)) [.un]) : r_law_3 A (dEnd 1 Q E) [.d (.scr ns), .ow o, x2, x3, x4, .ow (.l ((linesL many root rs).map .str)), x6, .ow (.l (heads.map .str)), x8, .ow (.l (bh.map .str)), .un, .un, .un, .un, .un, .un] := by
  have hz : sizeLine = 16777216 := by decide
  have hll : (linesL many root rs).length = rs.length + 1 := by unfold linesL; rw [List.length_cons, List.length_map]
  have ho : heads.length = 10 := by decide
  unfold r_law_3
  get_elem_tactic_extensible
  refine ⟨trivial, trivial, next_any d1 (by rw [ho]; decide) (by rw [ho]; decide) fun v o1 d2 v0 v1 => ?_⟩
  get_elem_tactic_extensible
  obtain ⟨odd, h1, h2⟩ := at_mem v0 v1
  rw [h2]
  get_elem_tactic_extensible
  refine ⟨by omega, fSl_drop (n := 1) (by omega) ?_⟩
  get_elem_tactic_extensible
  have hdl : (List.drop 1 (linesL many root rs)).length = rs.length := by rw [List.length_drop]; omega
  have inr := good_in (by omega) a5
  have lok := lines_okR (show InR many from ⟨by omega, by omega⟩) (show InR root from ⟨a1, by omega⟩) inr
  refine ⟨by omega, by omega, trivial, ?_⟩
  have oo := head_at h1
  refine refused_bad (m := many) (r := root) (rs := rs) (pre := []) (odd := odd) (rest := List.drop 1 (linesL many root rs) ++ bh) ⟨by omega, by omega⟩ ⟨a1, by omega⟩ inr (.inl rfl) oo.1 oo.2 (fun x hx => ?_) (by rw [List.length_append]; show 0 + _ ≤ _; omega) ?_ rfl ?_
  · rcases List.mem_append.mp hx with hx | hx
    · exact lok x (List.mem_of_mem_drop hx)
    · exact behind_ok hb x hx
  · simp
  · get_elem_tactic_extensible
    exact law2 d2 k
theorem law4 {A : Cs} {ns : List Int} {o : OO} {many root : Int} {rs : List Road} {n : Nat} {bh : List Str} {x2 x3 x4 : SV} {Q : DV → List SV → Prop} {E : DExc → List SV → Prop} (d1 : IsDice ns o) (a1 : 0 ≤ root) (a2 : root < many) (a3 : many ≤ 8) (a4 : rs.length ≤ 16) (a5 : ∀ r, r ∈ rs → GoodRoad many r) (hn : n ≤ rs.length)
    (hb : ∀ x, x ∈ bh → x ∈ (["", "x"] : List Str)) (hbl : bh.length ≤ 2) (k : Q (.d (.bl true)) [.un]) : r_law_4 A (dEnd 1 Q E) [.d (.scr ns), .ow o, x2, x3, x4, .ow (.l ((linesL many root rs).map .str)), .ow (.l (odds.map .str)), .ow (.l (heads.map .str)), .d (.int ((n + 1 : Nat) : Int)), .ow (.l (bh.map .str)), .un, .un, .un, .un, .un, .un] := by
  have hz : sizeLine = 16777216 := by decide
  have hll : (linesL many root rs).length = rs.length + 1 := by unfold linesL; rw [List.length_cons, List.length_map]
  have ho : odds.length = 18 := by decide
  unfold r_law_4
  get_elem_tactic_extensible
  refine fSl_take ?_
  get_elem_tactic_extensible
  refine ⟨trivial, trivial, next_any d1 (by rw [ho]; decide) (by rw [ho]; decide) fun v o1 d2 v0 v1 => ?_⟩
  get_elem_tactic_extensible
  obtain ⟨odd, h1, h2⟩ := at_mem v0 v1
  rw [h2]
  get_elem_tactic_extensible
  have htl : (List.take (n + 1) (linesL many root rs)).length = n + 1 := by rw [List.length_take]; omega
  refine ⟨by omega, by omega, fSl_drop (by omega) ?_⟩
  get_elem_tactic_extensible
  have hdl : (List.drop (n + 1) (linesL many root rs)).length = rs.length - n := by rw [List.length_drop]; omega
  have inr := good_in (by omega) a5
  have lok := lines_okR (show InR many from ⟨by omega, by omega⟩) (show InR root from ⟨a1, by omega⟩) inr
  refine ⟨by rw [List.length_append, List.length_map, List.length_singleton]; omega, by rw [List.length_append, List.length_append, List.length_map, List.length_map, List.length_singleton]; omega, trivial, ?_⟩
  have hpl : (linesL many root (rs.take n)).length = n + 1 := by rw [← linesL_take]; exact htl
  have oo := odd_at (k := (linesL many root (rs.take n)).length) (by omega) h1
  refine refused_bad (m := many) (r := root) (rs := rs.take n) (pre := linesL many root (rs.take n)) (odd := odd) (rest := List.drop (n + 1) (linesL many root rs) ++ bh) ⟨by omega, by omega⟩ ⟨a1, by omega⟩ (fun w hw => inr w (List.mem_of_mem_take hw)) (.inr rfl) oo.1 oo.2 (fun x hx => ?_) (by rw [List.length_append]; omega) ?_ (by rw [hpl]) ?_
  · rcases List.mem_append.mp hx with hx | hx
    · exact lok x (List.mem_of_mem_drop hx)
    · exact behind_ok hb x hx
  · rw [linesL_take]
    simp
  · get_elem_tactic_extensible
    exact law3 d2 a1 a2 a3 a4 a5 hb hbl k
theorem law5 {A : Cs} {ns : List Int} {o : OO} {many root : Int} {rs : List Road} {n : Nat} {x2 x3 x4 : SV} {Q : DV → List SV → Prop} {E : DExc → List SV → Prop} (d1 : IsDice ns o) (a1 : 0 ≤ root) (a2 : root < many) (a3 : many ≤ 8) (a4 : rs.length ≤ 16) (a5 : ∀ r, r ∈ rs → GoodRoad many r) (hn : n ≤ rs.length)
    (k : Q (.d (.bl true)) [.un]) : r_law_5 A (dEnd 1 Q E) [.d (.scr ns), .ow o, x2, x3, x4, .ow (.l ((linesL many root rs).map .str)), .ow (.l (odds.map .str)), .ow (.l (heads.map .str)), .d (.int ((n + 1 : Nat) : Int)), .un, .un, .un, .un, .un, .un, .un] := by
  have hz : sizeLine = 16777216 := by decide
  unfold r_law_5
  get_elem_tactic_extensible
  refine ⟨by decide, trivial, trivial, next_any d1 (by omega) (by omega) fun v o1 d2 v0 v1 => ?_⟩
  obtain ⟨w, rfl⟩ := Int.eq_ofNat_of_zero_le v0
  get_elem_tactic_extensible
  refine fSl_take (xs := ["", "x"]) ?_
  have hb : ∀ x, x ∈ (["", "x"] : List Str).take w → x ∈ (["", "x"] : List Str) := fun x hx => List.mem_of_mem_take hx
  have hbl : ((["", "x"] : List Str).take w).length ≤ 2 := by rw [List.length_take]; show min w 2 ≤ 2; omega
  generalize (["", "x"] : List Str).take w = bh at hb hbl ⊢
  get_elem_tactic_extensible
  exact ⟨by decide, law4 d2 a1 a2 a3 a4 a5 hn hb hbl k⟩
theorem law6 {A : Cs} {ns : List Int} {o : OO} {many root : Int} {rs : List Road} {x2 x3 x4 : SV} {Q : DV → List SV → Prop} {E : DExc → List SV → Prop} (d1 : IsDice ns o) (a1 : 0 ≤ root) (a2 : root < many) (a3 : many ≤ 8) (a4 : rs.length ≤ 16) (a5 : ∀ r, r ∈ rs → GoodRoad many r)
    (k : Q (.d (.bl true)) [.un]) : r_law_6 A (dEnd 1 Q E) [.d (.scr ns), .ow o, x2, x3, x4, .ow (.l ((linesL many root rs).map .str)), .un, .un, .un, .un, .un, .un, .un, .un, .un, .un] := by
  have hz : sizeLine = 16777216 := by decide
  have hll : (linesL many root rs).length = rs.length + 1 := by unfold linesL; rw [List.length_cons, List.length_map]
  unfold r_law_6
  rw [shut_eq]
  refine sq_lst (vs_cons v_c (vs_cons v_c (vs_cons v_c (vs_cons v_c (vs_cons v_c (vs_cons v_c (vs_cons v_c (vs_cons v_c vs_nil)))))))) (by show 6 < 16; decide) fun O1 h1 => ?_
  refine sq_addlst rfl (vs_cons v_c (vs_cons v_c (vs_cons v_c (vs_cons v_c (vs_cons v_c (vs_cons v_c vs_nil)))))) (by rw [h1]; decide) fun O2 h2 => ?_
  refine sq_addlst rfl (vs_cons v_c (vs_cons v_c (vs_cons v_c (vs_cons v_c vs_nil)))) (by rw [h2, h1]; decide) fun O3 h3 => ?_
  refine sq_lst (vs_cons v_c (vs_cons v_c (vs_cons v_c (vs_cons v_c (vs_cons v_c (vs_cons v_c (vs_cons v_c (vs_cons v_c (vs_cons v_c (vs_cons v_c vs_nil)))))))))) (by show 7 < 16; decide) fun O4 h4 => ?_
  have e3 : O3 = odds.map .str := by rw [h3, h2, h1]; rfl
  have e4 : O4 = heads.map .str := h4
  clear h1 h2 h3 h4
  subst e3 e4
  simp only [List.set_cons_succ, List.set_cons_zero]
  get_elem_tactic_extensible
  refine ⟨trivial, trivial, next_any d1 (by omega) (by omega) fun v o1 d2 v0 v1 => ?_⟩
  get_elem_tactic_extensible
  obtain ⟨n, rfl⟩ := Int.eq_ofNat_of_zero_le v0
  refine ⟨by decide, ?_⟩
  rw [show (1 : Int) + (n : Int) = ((n + 1 : Nat) : Int) by omega]
  exact law5 d2 a1 a2 a3 a4 a5 (by omega) k
theorem law_holds (A : Cs) (ns : List Int) (hns : ns.length ≤ 63) : run_law A [.d (.scr ns)] (fun x _ => x = .d (.bl true)) (fun _ _ => False) := by
  have hz : sizeLine = 16777216 := by decide
  unfold run_law b_law
  (get_elem_tactic_extensible; repeat refine And.intro (by first | exact trivial | decide | omega) ?_)
  refine dice_any fun o ho => ?_
  (get_elem_tactic_extensible; repeat refine And.intro (by first | exact trivial | decide | omega) ?_)
  unfold r_law_8
  (get_elem_tactic_extensible; repeat refine And.intro (by first | exact trivial | decide | omega) ?_)
  refine map_any ho (by decide) (by decide) (by decide) (by decide) fun many root rs o1 d1 a1 a2 a3 a4 a5 => ?_
  (get_elem_tactic_extensible; repeat refine And.intro (by first | exact trivial | decide | omega) ?_)
  have l4 : ("map " : Str).length = 4 := by decide +kernel
  have l1 : (" " : Str).length = 1 := by decide +kernel
  have l5 : ("road " : Str).length = 5 := by decide +kernel
  have b1 := sI_len (i := many) (by omega) (by omega)
  have b2 := sI_len a1 (show root < 10 ^ 10 by omega)
  have er : (rowsD rs).length = rs.length := List.length_map ..
  unfold r_law_7
  simp only [shut_eq, dSeq, dSet, dRet, dExpr, dIfS, dNil, dIf, dTst, dBin, dUn, dVar, dC, dAnd, dOr, dNot, dAndV, dOrV, dNotV, dChain, dANil, dACons, dLst, dTup, dFld, dAsg, dgN, dSetIx, dLM, hasL, atL, dSetF, dCall, dCallR, hasO, dMeth, dMake, run_eq, dEnd_nx, dEnd_rt, dEnd_ex, outS, dLc, dLcG, dLcR, dFor, dForG, dForR, wipeD, backD, dYes, fLt, fLe, fGt, fGe, fEq, fNe, fIn, fNotIn, eqv_int, at_0, at_1, at_2, at_3, ix_0, ix_1, ix_2, ix_3, List.getElem?_cons_zero, List.getElem?_cons_succ, List.set_cons_zero, List.set_cons_succ, List.cons_append, List.nil_append, List.replicate_succ, List.replicate_zero, List.map_cons, List.map_nil, List.take_succ_cons, List.take_zero, List.length_cons, List.length_nil, List.take, List.length_set, pk_d, pk_fr, pk_sl, stab_d, stab_fr, stab_sl, fz_d, fz_fr, fz_sl, toD_l, toD_i, toD_k, re_rf, re_ow, store_d, store_fr, store_sl, outV_d, outV_fr, outV_sl, items_l, items_t, items_s, rng_1, rng_2, dgT_t, setAll_0, setAll_s, putR_rf, madeQ_n, fAdd_i, fAdd_l, fSub_i, fMul_i, fDiv_i, fMod_i, fPow_i, fNeg_i, fAbs_i, fCmp_i, fIn_l, fNotIn_l, fIx_l, fIx_t, fIx_s, fLen_l, fLen_t, fLen_s, fInt_i, fInt_b, fList_l, fList_t, fIsN_n, fNotN_n, isN_i, gAppend_1, gPop_c, fFld_i, fRev_l, pl_i, fIsi_i, fIsi_b, fIsi_n, fIsi_l, fIsi_t, List.length_map, anyI, pl_ints, if_false_t, dVw, dToM, dSetFM, dLMM, dMethM, dCallM, dMakeM, atM, backM, backO, tkAt, dForT, dLcT, dSetKT, hasT, dDictT, dMem, dRaise, dRaise0, mk1, mk2, dTry, dTryAs, dExcF, noEx, dSl, dPart, dNoPart, pk_me, stab_me, fz_me, store_me, outV_me, mem_un, mem_d, mem_ow, mem_rf, mem_mm, toD_t, keyT_node, madeE, madeQ, keepD_d, keepD_un, keepD_ow, keepD_rf, keepD_mm, dDict0, dSetK, hasK, atK, dGet2, keyD_i, dOutM, dCallL, dMakeR, mkSl, rfAt, madeR, madeRE, List.cons_append, List.nil_append, dCallX, dIsX, dLcH, dLcE, vw1, vw2, bare, dListR, dListR2, dForK, dkAt, dPar2, dPar3, keyD_i, dMethR, dMethP, dCallP, lentQ, noS, dSettle, dSetKM, dPopK, dStrM, dForS, dSortK, dOutT, outL, dLcI, dForI, dEnum, dZip, dgTD, dgCons, dgNil, dgIx, dSlM, dLI, fDivW_i, fDictP, Nat.reduceAdd]
  refine fStr_i (by omega) (by omega) ?_
  simp only [shut_eq, dSeq, dSet, dRet, dExpr, dIfS, dNil, dIf, dTst, dBin, dUn, dVar, dC, dAnd, dOr, dNot, dAndV, dOrV, dNotV, dChain, dANil, dACons, dLst, dTup, dFld, dAsg, dgN, dSetIx, dLM, hasL, atL, dSetF, dCall, dCallR, hasO, dMeth, dMake, run_eq, dEnd_nx, dEnd_rt, dEnd_ex, outS, dLc, dLcG, dLcR, dFor, dForG, dForR, wipeD, backD, dYes, fLt, fLe, fGt, fGe, fEq, fNe, fIn, fNotIn, eqv_int, at_0, at_1, at_2, at_3, ix_0, ix_1, ix_2, ix_3, List.getElem?_cons_zero, List.getElem?_cons_succ, List.set_cons_zero, List.set_cons_succ, List.cons_append, List.nil_append, List.replicate_succ, List.replicate_zero, List.map_cons, List.map_nil, List.take_succ_cons, List.take_zero, List.length_cons, List.length_nil, List.take, List.length_set, pk_d, pk_fr, pk_sl, stab_d, stab_fr, stab_sl, fz_d, fz_fr, fz_sl, toD_l, toD_i, toD_k, re_rf, re_ow, store_d, store_fr, store_sl, outV_d, outV_fr, outV_sl, items_l, items_t, items_s, rng_1, rng_2, dgT_t, setAll_0, setAll_s, putR_rf, madeQ_n, fAdd_i, fAdd_l, fSub_i, fMul_i, fDiv_i, fMod_i, fPow_i, fNeg_i, fAbs_i, fCmp_i, fIn_l, fNotIn_l, fIx_l, fIx_t, fIx_s, fLen_l, fLen_t, fLen_s, fInt_i, fInt_b, fList_l, fList_t, fIsN_n, fNotN_n, isN_i, gAppend_1, gPop_c, fFld_i, fRev_l, pl_i, fIsi_i, fIsi_b, fIsi_n, fIsi_l, fIsi_t, List.length_map, anyI, pl_ints, if_false_t, dVw, dToM, dSetFM, dLMM, dMethM, dCallM, dMakeM, atM, backM, backO, tkAt, dForT, dLcT, dSetKT, hasT, dDictT, dMem, dRaise, dRaise0, mk1, mk2, dTry, dTryAs, dExcF, noEx, dSl, dPart, dNoPart, pk_me, stab_me, fz_me, store_me, outV_me, mem_un, mem_d, mem_ow, mem_rf, mem_mm, toD_t, keyT_node, madeE, madeQ, keepD_d, keepD_un, keepD_ow, keepD_rf, keepD_mm, dDict0, dSetK, hasK, atK, dGet2, keyD_i, dOutM, dCallL, dMakeR, mkSl, rfAt, madeR, madeRE, List.cons_append, List.nil_append, dCallX, dIsX, dLcH, dLcE, vw1, vw2, bare, dListR, dListR2, dForK, dkAt, dPar2, dPar3, keyD_i, dMethR, dMethP, dCallP, lentQ, noS, dSettle, dSetKM, dPopK, dStrM, dForS, dSortK, dOutT, outL, dLcI, dForI, dEnum, dZip, dgTD, dgCons, dgNil, dgIx, dSlM, dLI, fDivW_i, fDictP, Nat.reduceAdd, DW.fAdd, len_app]
  refine ⟨by omega, by omega, fStr_i a1 (by omega) ?_⟩
  simp only [shut_eq, dSeq, dSet, dRet, dExpr, dIfS, dNil, dIf, dTst, dBin, dUn, dVar, dC, dAnd, dOr, dNot, dAndV, dOrV, dNotV, dChain, dANil, dACons, dLst, dTup, dFld, dAsg, dgN, dSetIx, dLM, hasL, atL, dSetF, dCall, dCallR, hasO, dMeth, dMake, run_eq, dEnd_nx, dEnd_rt, dEnd_ex, outS, dLc, dLcG, dLcR, dFor, dForG, dForR, wipeD, backD, dYes, fLt, fLe, fGt, fGe, fEq, fNe, fIn, fNotIn, eqv_int, at_0, at_1, at_2, at_3, ix_0, ix_1, ix_2, ix_3, List.getElem?_cons_zero, List.getElem?_cons_succ, List.set_cons_zero, List.set_cons_succ, List.cons_append, List.nil_append, List.replicate_succ, List.replicate_zero, List.map_cons, List.map_nil, List.take_succ_cons, List.take_zero, List.length_cons, List.length_nil, List.take, List.length_set, pk_d, pk_fr, pk_sl, stab_d, stab_fr, stab_sl, fz_d, fz_fr, fz_sl, toD_l, toD_i, toD_k, re_rf, re_ow, store_d, store_fr, store_sl, outV_d, outV_fr, outV_sl, items_l, items_t, items_s, rng_1, rng_2, dgT_t, setAll_0, setAll_s, putR_rf, madeQ_n, fAdd_i, fAdd_l, fSub_i, fMul_i, fDiv_i, fMod_i, fPow_i, fNeg_i, fAbs_i, fCmp_i, fIn_l, fNotIn_l, fIx_l, fIx_t, fIx_s, fLen_l, fLen_t, fLen_s, fInt_i, fInt_b, fList_l, fList_t, fIsN_n, fNotN_n, isN_i, gAppend_1, gPop_c, fFld_i, fRev_l, pl_i, fIsi_i, fIsi_b, fIsi_n, fIsi_l, fIsi_t, List.length_map, anyI, pl_ints, if_false_t, dVw, dToM, dSetFM, dLMM, dMethM, dCallM, dMakeM, atM, backM, backO, tkAt, dForT, dLcT, dSetKT, hasT, dDictT, dMem, dRaise, dRaise0, mk1, mk2, dTry, dTryAs, dExcF, noEx, dSl, dPart, dNoPart, pk_me, stab_me, fz_me, store_me, outV_me, mem_un, mem_d, mem_ow, mem_rf, mem_mm, toD_t, keyT_node, madeE, madeQ, keepD_d, keepD_un, keepD_ow, keepD_rf, keepD_mm, dDict0, dSetK, hasK, atK, dGet2, keyD_i, dOutM, dCallL, dMakeR, mkSl, rfAt, madeR, madeRE, List.cons_append, List.nil_append, dCallX, dIsX, dLcH, dLcE, vw1, vw2, bare, dListR, dListR2, dForK, dkAt, dPar2, dPar3, keyD_i, dMethR, dMethP, dCallP, lentQ, noS, dSettle, dSetKM, dPopK, dStrM, dForS, dSortK, dOutT, outL, dLcI, dForI, dEnum, dZip, dgTD, dgCons, dgNil, dgIx, dSlM, dLI, fDivW_i, fDictP, Nat.reduceAdd, DW.fAdd, len_app]
  refine ⟨by omega, by decide, by decide, ?_⟩
  refine lcN_fm roadD (fun _ => true) (fun r => D.str (lineR r)) rs [] (fun r hr N1 N2 k1 k2 => ?_) (by rw [List.length_nil]; omega) ?_
  · obtain ⟨a, b, c, d, e, f, g⟩ := a5 r hr
    have k1 := k1 rfl
    have t3 := three_len a c f (by omega) (by omega) (by omega)
    simp only [roadD]
    simp only [shut_eq, dSeq, dSet, dRet, dExpr, dIfS, dNil, dIf, dTst, dBin, dUn, dVar, dC, dAnd, dOr, dNot, dAndV, dOrV, dNotV, dChain, dANil, dACons, dLst, dTup, dFld, dAsg, dgN, dSetIx, dLM, hasL, atL, dSetF, dCall, dCallR, hasO, dMeth, dMake, run_eq, dEnd_nx, dEnd_rt, dEnd_ex, outS, dLc, dLcG, dLcR, dFor, dForG, dForR, wipeD, backD, dYes, fLt, fLe, fGt, fGe, fEq, fNe, fIn, fNotIn, eqv_int, at_0, at_1, at_2, at_3, ix_0, ix_1, ix_2, ix_3, List.getElem?_cons_zero, List.getElem?_cons_succ, List.set_cons_zero, List.set_cons_succ, List.cons_append, List.nil_append, List.replicate_succ, List.replicate_zero, List.map_cons, List.map_nil, List.take_succ_cons, List.take_zero, List.length_cons, List.length_nil, List.take, List.length_set, pk_d, pk_fr, pk_sl, stab_d, stab_fr, stab_sl, fz_d, fz_fr, fz_sl, toD_l, toD_i, toD_k, re_rf, re_ow, store_d, store_fr, store_sl, outV_d, outV_fr, outV_sl, items_l, items_t, items_s, rng_1, rng_2, dgT_t, setAll_0, setAll_s, putR_rf, madeQ_n, fAdd_i, fAdd_l, fSub_i, fMul_i, fDiv_i, fMod_i, fPow_i, fNeg_i, fAbs_i, fCmp_i, fIn_l, fNotIn_l, fIx_l, fIx_t, fIx_s, fLen_l, fLen_t, fLen_s, fInt_i, fInt_b, fList_l, fList_t, fIsN_n, fNotN_n, isN_i, gAppend_1, gPop_c, fFld_i, fRev_l, pl_i, fIsi_i, fIsi_b, fIsi_n, fIsi_l, fIsi_t, List.length_map, anyI, pl_ints, if_false_t, dVw, dToM, dSetFM, dLMM, dMethM, dCallM, dMakeM, atM, backM, backO, tkAt, dForT, dLcT, dSetKT, hasT, dDictT, dMem, dRaise, dRaise0, mk1, mk2, dTry, dTryAs, dExcF, noEx, dSl, dPart, dNoPart, pk_me, stab_me, fz_me, store_me, outV_me, mem_un, mem_d, mem_ow, mem_rf, mem_mm, toD_t, keyT_node, madeE, madeQ, keepD_d, keepD_un, keepD_ow, keepD_rf, keepD_mm, dDict0, dSetK, hasK, atK, dGet2, keyD_i, dOutM, dCallL, dMakeR, mkSl, rfAt, madeR, madeRE, List.cons_append, List.nil_append, dCallX, dIsX, dLcH, dLcE, vw1, vw2, bare, dListR, dListR2, dForK, dkAt, dPar2, dPar3, keyD_i, dMethR, dMethP, dCallP, lentQ, noS, dSettle, dSetKM, dPopK, dStrM, dForS, dSortK, dOutT, outL, dLcI, dForI, dEnum, dZip, dgTD, dgCons, dgNil, dgIx, dSlM, dLI, fDivW_i, fDictP, Nat.reduceAdd]
    refine ⟨by decide, ?_⟩
    rw [if_pos trivial]
    refine lcN_fm D.int (fun _ => true) (fun i => D.str (sI i)) [r.1, r.2.1, r.2.2] [] (fun i hi M1 M2 j1 j2 => ?_) (by show 0 + 3 ≤ sizeLine; decide) ?_
    · simp only [shut_eq, dSeq, dSet, dRet, dExpr, dIfS, dNil, dIf, dTst, dBin, dUn, dVar, dC, dAnd, dOr, dNot, dAndV, dOrV, dNotV, dChain, dANil, dACons, dLst, dTup, dFld, dAsg, dgN, dSetIx, dLM, hasL, atL, dSetF, dCall, dCallR, hasO, dMeth, dMake, run_eq, dEnd_nx, dEnd_rt, dEnd_ex, outS, dLc, dLcG, dLcR, dFor, dForG, dForR, wipeD, backD, dYes, fLt, fLe, fGt, fGe, fEq, fNe, fIn, fNotIn, eqv_int, at_0, at_1, at_2, at_3, ix_0, ix_1, ix_2, ix_3, List.getElem?_cons_zero, List.getElem?_cons_succ, List.set_cons_zero, List.set_cons_succ, List.cons_append, List.nil_append, List.replicate_succ, List.replicate_zero, List.map_cons, List.map_nil, List.take_succ_cons, List.take_zero, List.length_cons, List.length_nil, List.take, List.length_set, pk_d, pk_fr, pk_sl, stab_d, stab_fr, stab_sl, fz_d, fz_fr, fz_sl, toD_l, toD_i, toD_k, re_rf, re_ow, store_d, store_fr, store_sl, outV_d, outV_fr, outV_sl, items_l, items_t, items_s, rng_1, rng_2, dgT_t, setAll_0, setAll_s, putR_rf, madeQ_n, fAdd_i, fAdd_l, fSub_i, fMul_i, fDiv_i, fMod_i, fPow_i, fNeg_i, fAbs_i, fCmp_i, fIn_l, fNotIn_l, fIx_l, fIx_t, fIx_s, fLen_l, fLen_t, fLen_s, fInt_i, fInt_b, fList_l, fList_t, fIsN_n, fNotN_n, isN_i, gAppend_1, gPop_c, fFld_i, fRev_l, pl_i, fIsi_i, fIsi_b, fIsi_n, fIsi_l, fIsi_t, List.length_map, anyI, pl_ints, if_false_t, dVw, dToM, dSetFM, dLMM, dMethM, dCallM, dMakeM, atM, backM, backO, tkAt, dForT, dLcT, dSetKT, hasT, dDictT, dMem, dRaise, dRaise0, mk1, mk2, dTry, dTryAs, dExcF, noEx, dSl, dPart, dNoPart, pk_me, stab_me, fz_me, store_me, outV_me, mem_un, mem_d, mem_ow, mem_rf, mem_mm, toD_t, keyT_node, madeE, madeQ, keepD_d, keepD_un, keepD_ow, keepD_rf, keepD_mm, dDict0, dSetK, hasK, atK, dGet2, keyD_i, dOutM, dCallL, dMakeR, mkSl, rfAt, madeR, madeRE, List.cons_append, List.nil_append, dCallX, dIsX, dLcH, dLcE, vw1, vw2, bare, dListR, dListR2, dForK, dkAt, dPar2, dPar3, keyD_i, dMethR, dMethP, dCallP, lentQ, noS, dSettle, dSetKM, dPopK, dStrM, dForS, dSortK, dOutT, outL, dLcI, dForI, dEnum, dZip, dgTD, dgCons, dgNil, dgIx, dSlM, dLI, fDivW_i, fDictP, Nat.reduceAdd]
      refine ⟨by decide, ?_⟩
      rw [if_pos trivial]
      simp only [List.mem_cons, List.not_mem_nil, or_false] at hi
      refine fStr_i ?_ ?_ (j1 rfl)
      · rcases hi with rfl | rfl | rfl <;> omega
      · rcases hi with rfl | rfl | rfl <;> omega
    rw [List.filter_eq_self.mpr fun _ _ => rfl, List.nil_append]
    have e3 : strsD [D.str (sI r.1), D.str (sI r.2.1), D.str (sI r.2.2)] = some [sI r.1, sI r.2.1, sI r.2.2] := rfl
    have l3 : (Txt.join (" " : Str) [sI r.1, sI r.2.1, sI r.2.2]).length ≤ 60 := by
      have := lineR_len a c f (show r.1 < 10 ^ 10 by omega) (show r.2.1 < 10 ^ 10 by omega) (by omega)
      unfold lineR at this
      rw [len_app] at this
      omega
    simp only [shut_eq, dSeq, dSet, dRet, dExpr, dIfS, dNil, dIf, dTst, dBin, dUn, dVar, dC, dAnd, dOr, dNot, dAndV, dOrV, dNotV, dChain, dANil, dACons, dLst, dTup, dFld, dAsg, dgN, dSetIx, dLM, hasL, atL, dSetF, dCall, dCallR, hasO, dMeth, dMake, run_eq, dEnd_nx, dEnd_rt, dEnd_ex, outS, dLc, dLcG, dLcR, dFor, dForG, dForR, wipeD, backD, dYes, fLt, fLe, fGt, fGe, fEq, fNe, fIn, fNotIn, eqv_int, at_0, at_1, at_2, at_3, ix_0, ix_1, ix_2, ix_3, List.getElem?_cons_zero, List.getElem?_cons_succ, List.set_cons_zero, List.set_cons_succ, List.cons_append, List.nil_append, List.replicate_succ, List.replicate_zero, List.map_cons, List.map_nil, List.take_succ_cons, List.take_zero, List.length_cons, List.length_nil, List.take, List.length_set, pk_d, pk_fr, pk_sl, stab_d, stab_fr, stab_sl, fz_d, fz_fr, fz_sl, toD_l, toD_i, toD_k, re_rf, re_ow, store_d, store_fr, store_sl, outV_d, outV_fr, outV_sl, items_l, items_t, items_s, rng_1, rng_2, dgT_t, setAll_0, setAll_s, putR_rf, madeQ_n, fAdd_i, fAdd_l, fSub_i, fMul_i, fDiv_i, fMod_i, fPow_i, fNeg_i, fAbs_i, fCmp_i, fIn_l, fNotIn_l, fIx_l, fIx_t, fIx_s, fLen_l, fLen_t, fLen_s, fInt_i, fInt_b, fList_l, fList_t, fIsN_n, fNotN_n, isN_i, gAppend_1, gPop_c, fFld_i, fRev_l, pl_i, fIsi_i, fIsi_b, fIsi_n, fIsi_l, fIsi_t, List.length_map, anyI, pl_ints, if_false_t, dVw, dToM, dSetFM, dLMM, dMethM, dCallM, dMakeM, atM, backM, backO, tkAt, dForT, dLcT, dSetKT, hasT, dDictT, dMem, dRaise, dRaise0, mk1, mk2, dTry, dTryAs, dExcF, noEx, dSl, dPart, dNoPart, pk_me, stab_me, fz_me, store_me, outV_me, mem_un, mem_d, mem_ow, mem_rf, mem_mm, toD_t, keyT_node, madeE, madeQ, keepD_d, keepD_un, keepD_ow, keepD_rf, keepD_mm, dDict0, dSetK, hasK, atK, dGet2, keyD_i, dOutM, dCallL, dMakeR, mkSl, rfAt, madeR, madeRE, List.cons_append, List.nil_append, dCallX, dIsX, dLcH, dLcE, vw1, vw2, bare, dListR, dListR2, dForK, dkAt, dPar2, dPar3, keyD_i, dMethR, dMethP, dCallP, lentQ, noS, dSettle, dSetKM, dPopK, dStrM, dForS, dSortK, dOutT, outL, dLcI, dForI, dEnum, dZip, dgTD, dgCons, dgNil, dgIx, dSlM, dLI, fDivW_i, fDictP, Nat.reduceAdd, fJoin, List.map_cons, List.map_nil, e3, DW.fAdd]
    simp only [spS, List.map_cons, List.map_nil] at t3
    exact ⟨by omega, by omega, k1⟩
  rw [List.filter_eq_self.mpr fun _ _ => rfl, List.nil_append]
  simp only [shut_eq, dSeq, dSet, dRet, dExpr, dIfS, dNil, dIf, dTst, dBin, dUn, dVar, dC, dAnd, dOr, dNot, dAndV, dOrV, dNotV, dChain, dANil, dACons, dLst, dTup, dFld, dAsg, dgN, dSetIx, dLM, hasL, atL, dSetF, dCall, dCallR, hasO, dMeth, dMake, run_eq, dEnd_nx, dEnd_rt, dEnd_ex, outS, dLc, dLcG, dLcR, dFor, dForG, dForR, wipeD, backD, dYes, fLt, fLe, fGt, fGe, fEq, fNe, fIn, fNotIn, eqv_int, at_0, at_1, at_2, at_3, ix_0, ix_1, ix_2, ix_3, List.getElem?_cons_zero, List.getElem?_cons_succ, List.set_cons_zero, List.set_cons_succ, List.cons_append, List.nil_append, List.replicate_succ, List.replicate_zero, List.map_cons, List.map_nil, List.take_succ_cons, List.take_zero, List.length_cons, List.length_nil, List.take, List.length_set, pk_d, pk_fr, pk_sl, stab_d, stab_fr, stab_sl, fz_d, fz_fr, fz_sl, toD_l, toD_i, toD_k, re_rf, re_ow, store_d, store_fr, store_sl, outV_d, outV_fr, outV_sl, items_l, items_t, items_s, rng_1, rng_2, dgT_t, setAll_0, setAll_s, putR_rf, madeQ_n, fAdd_i, fAdd_l, fSub_i, fMul_i, fDiv_i, fMod_i, fPow_i, fNeg_i, fAbs_i, fCmp_i, fIn_l, fNotIn_l, fIx_l, fIx_t, fIx_s, fLen_l, fLen_t, fLen_s, fInt_i, fInt_b, fList_l, fList_t, fIsN_n, fNotN_n, isN_i, gAppend_1, gPop_c, fFld_i, fRev_l, pl_i, fIsi_i, fIsi_b, fIsi_n, fIsi_l, fIsi_t, List.length_map, anyI, pl_ints, if_false_t, dVw, dToM, dSetFM, dLMM, dMethM, dCallM, dMakeM, atM, backM, backO, tkAt, dForT, dLcT, dSetKT, hasT, dDictT, dMem, dRaise, dRaise0, mk1, mk2, dTry, dTryAs, dExcF, noEx, dSl, dPart, dNoPart, pk_me, stab_me, fz_me, store_me, outV_me, mem_un, mem_d, mem_ow, mem_rf, mem_mm, toD_t, keyT_node, madeE, madeQ, keepD_d, keepD_un, keepD_ow, keepD_rf, keepD_mm, dDict0, dSetK, hasK, atK, dGet2, keyD_i, dOutM, dCallL, dMakeR, mkSl, rfAt, madeR, madeRE, List.cons_append, List.nil_append, dCallX, dIsX, dLcH, dLcE, vw1, vw2, bare, dListR, dListR2, dForK, dkAt, dPar2, dPar3, keyD_i, dMethR, dMethP, dCallP, lentQ, noS, dSettle, dSetKM, dPopK, dStrM, dForS, dSortK, dOutT, outL, dLcI, dForI, dEnum, dZip, dgTD, dgCons, dgNil, dgIx, dSlM, dLI, fDivW_i, fDictP, Nat.reduceAdd, DW.fAdd]
  have el : (D.str (("map " : Str) ++ sI many ++ " " ++ sI root) :: rs.map fun r => D.str (lineR r)) = (linesL many root rs).map D.str := by
    unfold linesL
    rw [List.map_cons, List.map_map]
    rfl
  rw [el]
  refine ⟨by omega, by decide, ?_⟩
  exact law6 d1 a1 a2 (by omega) (by omega) a5 rfl
end LL
open PySem PySem.W PyProof.Rows in
set_option maxRecDepth 100000 in
set_option maxHeartbeats 0 in
theorem PySem.Challenge.cw_rootcheap_k16_texts_refused_holds : PySem.Challenge.rw_rootcheap_k16_texts_refused.Holds := by
  w_on; o_law; k_head; (case hw => w_witness2)
  k_fill
  refine DW.walk_D (k := 7) (x := "_law_script") (run := fun A => LL.run_law A) (l := PySem.Challenge.rw_rootcheap_k16_texts_refused) rfl rfl (by exact ⟨rfl, by decide, by decide⟩) (fun w h Y => PySem.W.kIn_of Y) LL.law_holds ?F
  case F =>
    intro w mg fa h KX G hmg
    refine' LL.all_mk KX G hmg ?z_ValueError ?z_bool ?z_int ?z_isinstance ?z_len ?z_list ?z_range ?z_str ?z_tuple ?g_FIGURES ?g_MOST_COST ?g_MOST_FIGURES ?g_MOST_PLACES ?g_MOST_ROADS ?pg_Map ?hd_Map ?po_Map ?sa_Map ?a_Map_many ?a_Map_root ?a_Map_rows ?g_Map ?g_BadMap ?g_BadText ?g_NoRoad ?g_NoTree ?g_RootError ?xga_RootError ?xty_RootError ?xrd_RootError ?xfi_RootError ?l_BadMap ?sa_BadMap ?xb_BadMap ?xy_BadMap ?xk_BadMap ?xi_BadMap ?xt_BadMap ?xn_BadMap_at ?xn_BadMap_why ?l_BadText ?sa_BadText ?xb_BadText ?xy_BadText ?xk_BadText ?xi_BadText ?xt_BadText ?xn_BadText_row ?cb_RootError ?ch_RootError ?cy_RootError ?se_BadMap_RootError ?se_BadText_RootError ?fg_BadMap ?fh_BadMap ?fb_BadMap ?fd_BadMap ?fg_BadText ?fh_BadText ?fb_BadText ?fd_BadText ?eg_BadMap ?eh_BadMap ?eb_BadMap ?ed_BadMap ?ea_BadMap ?em_BadMap ?se_n ?se_t ?kv_BadMap ?eg_BadText ?eh_BadText ?eb_BadText ?ed_BadText ?ea_BadText ?em_BadText ?kv_BadText ?kd_BadMap ?kt_BadMap ?ks_BadMap ?kd_BadText ?kt_BadText ?ks_BadText ?kd_NoRoad ?kt_NoRoad ?ks_NoRoad ?kd_NoTree ?kt_NoTree ?ks_NoTree ?ki_BadMap_BadText ?ki_BadMap_NoRoad ?ki_BadMap_NoTree ?ki_BadText_BadMap ?ki_BadText_NoRoad ?ki_BadText_NoTree ?l_law_dice ?c_law_dice ?k_law_dice ?g_law_dice ?l_law_next ?c_law_next ?k_law_next ?g_law_next ?l_law_cost ?c_law_cost ?k_law_cost ?g_law_cost ?l_law_map ?c_law_map ?k_law_map ?g_law_map ?l_law_is ?c_law_is ?k_law_is ?g_law_is ?l_law_whole ?c_law_whole ?k_law_whole ?g_law_whole ?l_BadText_init ?c_BadText_init ?k_BadText_init ?l_BadMap_init ?c_BadMap_init ?k_BadMap_init ?l_Map_init ?c_Map_init ?k_Map_init ?at_Map_init ?i_Map_init ?mk_Map ?kc_Map ?l_number_of ?c_number_of ?k_number_of ?g_number_of ?l_read ?c_read ?k_read ?g_read ?l_law_refused ?c_law_refused ?k_law_refused ?g_law_refused ?l_law ?c_law ?k_law ?g_law
    (case g_FIGURES => k_is)
    (case g_MOST_COST => k_is)
    (case g_MOST_FIGURES => k_is)
    (case g_MOST_PLACES => k_is)
    (case g_MOST_ROADS => k_is)
    (case g_Map => k_is)
    (case g_BadMap => k_is)
    (case g_BadText => k_is)
    (case g_NoRoad => k_is)
    (case g_NoTree => k_is)
    (case g_RootError => k_is)
    (case g_law_dice => k_is)
    (case g_law_next => k_is)
    (case g_law_cost => k_is)
    (case g_law_map => k_is)
    (case g_law_is => k_is)
    (case g_law_whole => k_is)
    (case g_number_of => k_is)
    (case g_read => k_is)
    (case g_law_refused => k_is)
    (case g_law => k_is)
    (case at_Map_init => k_is)
    (case xi_BadMap => k_is)
    (case xi_BadText => k_is)
    (case l_BadMap => k_is)
    (case l_BadText => k_is)
    (case l_law_dice => k_is)
    (case l_law_next => k_is)
    (case l_law_cost => k_is)
    (case l_law_map => k_is)
    (case l_law_is => k_is)
    (case l_law_whole => k_is)
    (case l_BadText_init => k_is)
    (case l_BadMap_init => k_is)
    (case l_Map_init => k_is)
    (case l_number_of => k_is)
    (case l_read => k_is)
    (case l_law_refused => k_is)
    (case l_law => k_is)
    (case ch_RootError => k_is)
    (case z_ValueError => k_is)
    (case z_bool => k_is)
    (case z_int => k_is)
    (case z_isinstance => k_is)
    (case z_len => k_is)
    (case z_list => k_is)
    (case z_range => k_is)
    (case z_str => k_is)
    (case z_tuple => k_is)
    (case pg_Map => k_is)
    (case hd_Map => k_is)
    (case po_Map => k_is)
    (case sa_Map => k_is)
    (case a_Map_many => k_is)
    (case a_Map_root => k_is)
    (case a_Map_rows => k_is)
    (case xga_RootError => k_is)
    (case xty_RootError => k_is)
    (case xrd_RootError => k_is)
    (case xfi_RootError => k_is)
    (case sa_BadMap => k_is)
    (case xb_BadMap => k_is)
    (case xy_BadMap => k_is)
    (case xk_BadMap => k_is)
    (case xt_BadMap => k_is)
    (case xn_BadMap_at => k_is)
    (case xn_BadMap_why => k_is)
    (case sa_BadText => k_is)
    (case xb_BadText => k_is)
    (case xy_BadText => k_is)
    (case xk_BadText => k_is)
    (case xt_BadText => k_is)
    (case xn_BadText_row => k_is)
    (case cb_RootError => k_is)
    (case cy_RootError => k_is)
    (case se_BadMap_RootError => first | k_is | rfl)
    (case se_BadText_RootError => first | k_is | rfl)
    (case fg_BadMap => k_is)
    (case fh_BadMap => k_is)
    (case fb_BadMap => k_is)
    (case fd_BadMap => k_is)
    (case fg_BadText => k_is)
    (case fh_BadText => k_is)
    (case fb_BadText => k_is)
    (case fd_BadText => k_is)
    (case eg_BadMap => k_is)
    (case eh_BadMap => k_is)
    (case eb_BadMap => k_is)
    (case ed_BadMap => k_is)
    (case ea_BadMap => k_is)
    (case em_BadMap => k_is)
    (case se_n => first | k_is | rfl)
    (case se_t => first | k_is | rfl)
    (case kv_BadMap => k_is)
    (case eg_BadText => k_is)
    (case eh_BadText => k_is)
    (case eb_BadText => k_is)
    (case ed_BadText => k_is)
    (case ea_BadText => k_is)
    (case em_BadText => k_is)
    (case kv_BadText => k_is)
    (case kd_BadMap => k_is)
    (case kt_BadMap => k_is)
    (case ks_BadMap => k_is)
    (case kd_BadText => k_is)
    (case kt_BadText => k_is)
    (case ks_BadText => k_is)
    (case kd_NoRoad => k_is)
    (case kt_NoRoad => k_is)
    (case ks_NoRoad => k_is)
    (case kd_NoTree => k_is)
    (case kt_NoTree => k_is)
    (case ks_NoTree => k_is)
    (case ki_BadMap_BadText => k_is)
    (case ki_BadMap_NoRoad => k_is)
    (case ki_BadMap_NoTree => k_is)
    (case ki_BadText_BadMap => k_is)
    (case ki_BadText_NoRoad => k_is)
    (case ki_BadText_NoTree => k_is)
    (case c_law_dice => k_is)
    (case k_law_dice => k_is)
    (case c_law_next => k_is)
    (case k_law_next => k_is)
    (case c_law_cost => k_is)
    (case k_law_cost => k_is)
    (case c_law_map => k_is)
    (case k_law_map => k_is)
    (case c_law_is => k_is)
    (case k_law_is => k_is)
    (case c_law_whole => k_is)
    (case k_law_whole => k_is)
    (case c_BadText_init => k_is)
    (case k_BadText_init => k_is)
    (case c_BadMap_init => k_is)
    (case k_BadMap_init => k_is)
    (case c_Map_init => k_is)
    (case k_Map_init => k_is)
    (case i_Map_init => k_is)
    (case mk_Map => k_is)
    (case kc_Map => k_is)
    (case c_number_of => k_is)
    (case k_number_of => k_is)
    (case c_read => k_is)
    (case k_read => k_is)
    (case c_law_refused => k_is)
    (case k_law_refused => k_is)
    (case c_law => k_is)
    (case k_law => k_is)
