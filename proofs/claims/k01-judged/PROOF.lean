import PyProof.Rows.All
import Wide.All
import OpenK.AllK
import Wide.FinOn
import HandS.ForMost
import HandS.Exc
import HandS.ExcOwn
import HandS.TryOnly
import HandS.WordsExc
import HandS.CallSlots
import HandS.IsInst
import HandS.TupAny
import HandS.Zip
import HandS.Wide
import HandS.SortInts
import HandS.More
import HandS.Conv
import HandS.SetFor
import HandS.Rev
import HandS.Ends
import HandS.Defaults
import HandS.Head0
import HandS.Head1
import HandS.Head2
import HandS.HeadEnd
import HandS.HeadHook1
import HandS.HeadHook2
import HandS.ExcIs
import HandS.EndBits
import HandS.HotCalls
import HandS.Strs
import HandS.SortOrd
import HandS.Dict
import PyProof.SeqIndex
import HandS.CallLocal
import KE.GoesMore
import KE.GoesZip
import HandS.Style
import HandS.RaiseMore
import HandS.TupMul
import PySem.Challenge.RW_seenbins_k01_whole_recipes_judged
set_option Elab.async false
set_option linter.all false
set_option maxRecDepth 100000
namespace L3
open PySem PySem.Spec L2

/-! ### data: values as trees -/
inductive D where
  | non
  | bl (b : Bool)
  | int (i : Int)
  | str (x : Str)
  | ty (n : String)
  | tup (xs : List D)
  | lst (xs : List D)
  | lsx (xs : List D)
  | dct (ks : List Key) (xs : List D)
  | ins (C : Addr) (fs : List Str) (xs : List D)
  | ref (a : Addr)
  /-- a tuple whose object is known (t.index) -/
  | tpf (xs : List D)
  /-- an exception in hand, with its own fields -/
  | exc (a d : Addr) (fs : List Str) (xs : List D)
inductive GO where
  | lst (xs : List D)
  | dct (ks : List Key) (xs : List D)
  | ins (C : Addr) (fs : List Str) (xs : List D)
abbrev GH := Addr → Option GO
def gset (G : GH) (a : Addr) (o : GO) : GH := fun b => if b = a then some o else G b
def gdel (G : GH) (a : Addr) : GH := fun b => if b = a then none else G b
theorem gset_same {G : GH} {a : Addr} {o : GO} : gset G a o a = some o := if_pos rfl
theorem gset_ne {G : GH} {a b : Addr} {o : GO} (h : b ≠ a) : gset G a o b = G b := if_neg h
theorem gset_gset {G : GH} {a : Addr} {o u : GO} : gset (gset G a o) a u = gset G a u := by
  funext b; unfold gset; split <;> rfl
theorem gdel_same {G : GH} {a : Addr} : gdel G a a = none := if_pos rfl
theorem gdel_ne {G : GH} {a b : Addr} (h : b ≠ a) : gdel G a b = G b := if_neg h
theorem gdel_gset {G : GH} {a : Addr} {o : GO} (h : G a = none) : gdel (gset G a o) a = G := by
  funext b; unfold gdel gset; split
  · rename_i e; rw [e, h]
  · rfl

section
variable (K : PySem.W.Frag) (H : Hp) (G : GH)
/-- a tuple, a list that no one changes -/
def TuO (a : Addr) (vs : List V) : Prop := (G a = none ∧ Rd H a (.tup vs)) ∨
  ∃ (o : Obj) (its : Array Value) (n : Nat), K.lookup a = some o ∧ o.cls = .type "tuple" ∧ o.data = .seq its n ∧ its.size ≤ sizeLine ∧ Vals vs its.toList
def LsO (a : Addr) (vs : List V) : Prop := (G a = none ∧ Rd H a (.lst vs)) ∨
  ∃ (o : Obj) (its : Array Value) (n : Nat), K.lookup a = some o ∧ o.cls = .type "list" ∧ o.dict = none ∧ o.data = .seq its n ∧ its.size ≤ sizeLine ∧ Vals vs its.toList
mutual
def Rep : D → V → Prop
  | .non, v => v = .non
  | .bl b, v => v = .bl b
  | .int i, v => v = .int i
  | .str x, v => v = .str x
  | .ty n, v => v = .ty n
  | .tup ds, v => ∃ a vs, v = .ref a ∧ TuO K H G a vs ∧ RepL ds vs
  | .lst ds, v => ∃ a vs, v = .ref a ∧ G a = none ∧ H a = some (.lst vs) ∧ RepL ds vs
  | .lsx ds, v => ∃ a vs, v = .ref a ∧ LsO K H G a vs ∧ RepL ds vs
  | .dct ks ds, v => ∃ a kvs, v = .ref a ∧ G a = none ∧ H a = some (.dK kvs) ∧ kvs.map (·.1) = ks ∧ RepL ds (kvs.map (·.2))
  | .ins C fs ds, v => ∃ a dx kvs, v = .ref a ∧ G a = none ∧ H a = some (.ins C dx kvs) ∧ kvs.map (·.1) = fs ∧ RepL ds (kvs.map (·.2))
  | .ref a, v => v = .ref a
  | .tpf ds, v => ∃ a vs o, v = .ref a ∧ G a = none ∧ H a = some (.frz o (.tup vs)) ∧ o.dict = none ∧ RepL ds vs
  | .exc a d fs ds, v => ∃ kvs, v = .ref a ∧ G d = none ∧ H d = some (.xd kvs) ∧ kvs.map (·.1) = fs ∧ RepL ds (kvs.map (·.2))
def RepL : List D → List V → Prop
  | [], vs => vs = []
  | d :: ds, vs => ∃ v r, vs = v :: r ∧ Rep d v ∧ RepL ds r
end
def RepO (p : Addr) : GO → Prop
  | .lst ds => ∃ vs, H p = some (.lst vs) ∧ RepL K H G ds vs
  | .dct ks ds => ∃ kvs, H p = some (.dK kvs) ∧ kvs.map (·.1) = ks ∧ RepL K H G ds (kvs.map (·.2))
  | .ins C fs ds => ∃ dx kvs, H p = some (.ins C dx kvs) ∧ kvs.map (·.1) = fs ∧ RepL K H G ds (kvs.map (·.2))
def RG : Prop := ∀ p o, G p = some o → RepO K H G p o
end

abbrev Env3 := List (Option D)
def REnv (K : PySem.W.Frag) (H : Hp) (G : GH) : Env3 → St → Prop
  | [], σ => σ = []
  | none :: e, σ => ∃ v r, σ = v :: r ∧ REnv K H G e r
  | some d :: e, σ => ∃ v r, σ = some v :: r ∧ Rep K H G d v ∧ REnv K H G e r

structure Ext (G : GH) (H : Hp) (G' : GH) (H' : Hp) : Prop where
  keep : ∀ a o, H a = some o → G a = none → H' a = some o ∧ G' a = none

section
variable {K : PySem.W.Frag} {H H' H2 : Hp} {G G' G2 : GH} {a p : Addr} {vs : List V}
theorem Ext.refl : Ext G H G H := ⟨fun _ _ h g => ⟨h, g⟩⟩
theorem Ext.trans (e : Ext G H G' H') (f : Ext G' H' G2 H2) : Ext G H G2 H2 := ⟨fun a o h g => let ⟨h1, g1⟩ := e.keep a o h g; f.keep a o h1 g1⟩
theorem TuO.sq (h : TuO K H G a vs) : SqT K H a vs := h.imp (·.2) id
theorem LsO.sq (h : LsO K H G a vs) : SqL K H a vs := h.imp (·.2) id
theorem TuO.ext (e : Ext G H G' H') (h : TuO K H G a vs) : TuO K H' G' a vs := by
  rcases h with ⟨g, h | ⟨o, h⟩⟩ | h
  · obtain ⟨h1, g1⟩ := e.keep _ _ h g
    exact .inl ⟨g1, .inl h1⟩
  · obtain ⟨h1, g1⟩ := e.keep _ _ h g
    exact .inl ⟨g1, .inr ⟨o, h1⟩⟩
  · exact .inr h
theorem LsO.ext (e : Ext G H G' H') (h : LsO K H G a vs) : LsO K H' G' a vs := by
  rcases h with ⟨g, h | ⟨o, h⟩⟩ | h
  · obtain ⟨h1, g1⟩ := e.keep _ _ h g
    exact .inl ⟨g1, .inl h1⟩
  · obtain ⟨h1, g1⟩ := e.keep _ _ h g
    exact .inl ⟨g1, .inr ⟨o, h1⟩⟩
  · exact .inr h
mutual
theorem Rep.ext (e : Ext G H G' H') : ∀ (d : D) {v : V}, Rep K H G d v → Rep K H' G' d v
  | .non, _, h => h
  | .bl _, _, h => h
  | .int _, _, h => h
  | .str _, _, h => h
  | .ty _, _, h => h
  | .tup ds, _, ⟨a, vs, q, t, r⟩ => ⟨a, vs, q, t.ext e, RepL.ext e ds r⟩
  | .lst ds, _, ⟨a, vs, q, g, h, r⟩ => let ⟨h1, g1⟩ := e.keep _ _ h g; ⟨a, vs, q, g1, h1, RepL.ext e ds r⟩
  | .lsx ds, _, ⟨a, vs, q, t, r⟩ => ⟨a, vs, q, t.ext e, RepL.ext e ds r⟩
  | .dct ks ds, _, ⟨a, kvs, q, g, h, k, r⟩ => let ⟨h1, g1⟩ := e.keep _ _ h g; ⟨a, kvs, q, g1, h1, k, RepL.ext e ds r⟩
  | .ins C fs ds, _, ⟨a, dx, kvs, q, g, h, k, r⟩ => let ⟨h1, g1⟩ := e.keep _ _ h g; ⟨a, dx, kvs, q, g1, h1, k, RepL.ext e ds r⟩
  | .ref _, _, h => h
  | .tpf ds, _, ⟨a, vs, o, q, g, h, z, r⟩ => let ⟨h1, g1⟩ := e.keep _ _ h g; ⟨a, vs, o, q, g1, h1, z, RepL.ext e ds r⟩
  | .exc a d fs ds, _, ⟨kvs, q, g, h, k, r⟩ => let ⟨h1, g1⟩ := e.keep _ _ h g; ⟨kvs, q, g1, h1, k, RepL.ext e ds r⟩
theorem RepL.ext (e : Ext G H G' H') : ∀ (ds : List D) {vs : List V}, RepL K H G ds vs → RepL K H' G' ds vs
  | [], _, h => h
  | d :: ds, _, ⟨v, r, q, h, t⟩ => ⟨v, r, q, Rep.ext e d h, RepL.ext e ds t⟩
end
theorem REnv.ext (e : Ext G H G' H') : ∀ {env : Env3} {σ : St}, REnv K H G env σ → REnv K H' G' env σ
  | [], _, h => h
  | none :: _, _, ⟨v, r, q, h⟩ => ⟨v, r, q, h.ext e⟩
  | some d :: _, _, ⟨v, r, q, h, t⟩ => ⟨v, r, q, Rep.ext e d h, t.ext e⟩
theorem RepO.ext (e : Ext G H G' H') (hp : H' p = H p) : ∀ {o : GO}, RepO K H G p o → RepO K H' G' p o
  | .lst ds, ⟨vs, h, r⟩ => ⟨vs, hp.trans h, RepL.ext e ds r⟩
  | .dct ks ds, ⟨kvs, h, k, r⟩ => ⟨kvs, hp.trans h, k, RepL.ext e ds r⟩
  | .ins C fs ds, ⟨dx, kvs, h, k, r⟩ => ⟨dx, kvs, hp.trans h, k, RepL.ext e ds r⟩
theorem RepO.some : ∀ {o : GO}, RepO K H G p o → ∃ u, H p = some u
  | .lst _, ⟨_, h, _⟩ => ⟨_, h⟩
  | .dct _ _, ⟨_, h, _⟩ => ⟨_, h⟩
  | .ins _ _ _, ⟨_, _, h, _⟩ => ⟨_, h⟩
theorem RG.fresh (r : RG K H G) (h : H p = none) : G p = none := by
  cases q : G p with
  | none => rfl
  | some o =>
    obtain ⟨u, e⟩ := (r p o q).some
    rw [h] at e; cases e
theorem Ext.alloc {o : HO} (h : H p = none) (g : G p = none) : Ext G H G (upd H p o) := ⟨fun b u e gb => by
  have ne : b ≠ p := ne_of_none e h
  exact ⟨by rw [upd_ne ne]; exact e, gb⟩⟩
theorem Ext.allocG {o : HO} {go : GO} (h : H p = none) : Ext G H (gset G p go) (upd H p o) := ⟨fun b u e gb => by
  have ne : b ≠ p := ne_of_none e h
  exact ⟨by rw [upd_ne ne]; exact e, by rw [gset_ne ne]; exact gb⟩⟩
theorem Ext.write {o : HO} {go go' : GO} (g : G p = some go') : Ext G H (gset G p go) (upd H p o) := ⟨fun b u e gb => by
  have ne : b ≠ p := fun q => by rw [q, g] at gb; cases gb
  exact ⟨by rw [upd_ne ne]; exact e, by rw [gset_ne ne]; exact gb⟩⟩
/-- forgetting a changeable object: from then on it is frozen -/
theorem Ext.freeze : Ext G H (gdel G p) H := ⟨fun b u e gb => ⟨e, by unfold gdel; split <;> first | rfl | exact gb⟩⟩
theorem RG.same (r : RG K H G) (e : Ext G H G H') (k : ∀ q, G q ≠ none → H' q = H q) : RG K H' G := fun q o h => (r q o h).ext e (k q (by rw [h]; intro z; cases z))
theorem RG.alloc {o : HO} (r : RG K H G) (h : H p = none) : RG K (upd H p o) G := r.same (.alloc h (r.fresh h)) fun q hq => upd_ne fun z => hq (by rw [z]; exact r.fresh h)
theorem RG.allocG {o : HO} {go : GO} (r : RG K H G) (h : H p = none) (n : RepO K (upd H p o) (gset G p go) p go) : RG K (upd H p o) (gset G p go) := fun q u hq => by
  by_cases e : q = p
  · subst e; rw [gset_same] at hq; cases hq; exact n
  · rw [gset_ne e] at hq
    exact (r q u hq).ext (.allocG h) (upd_ne e)
theorem RG.write {o : HO} {go go' : GO} (r : RG K H G) (g : G p = some go') (n : RepO K (upd H p o) (gset G p go) p go) : RG K (upd H p o) (gset G p go) := fun q u hq => by
  by_cases e : q = p
  · subst e; rw [gset_same] at hq; cases hq; exact n
  · rw [gset_ne e] at hq
    exact (r q u hq).ext (.write g) (upd_ne e)
theorem RG.freeze (r : RG K H G) : RG K H (gdel G p) := fun q u hq => by
  by_cases e : q = p
  · subst e; rw [gdel_same] at hq; cases hq
  · rw [gdel_ne e] at hq
    exact (r q u hq).ext .freeze rfl
end

/-! ### lists of data -/
section
variable {K : PySem.W.Frag} {H : Hp} {G : GH}
theorem RepL.length : ∀ {ds : List D} {vs : List V}, RepL K H G ds vs → vs.length = ds.length
  | [], _, h => by rw [show _ = _ from h]; rfl
  | _ :: ds, _, ⟨v, r, q, _, t⟩ => by rw [q, List.length_cons, List.length_cons, RepL.length t]
theorem RepL.append : ∀ {ds es : List D} {vs us : List V}, RepL K H G ds vs → RepL K H G es us → RepL K H G (ds ++ es) (vs ++ us)
  | [], _, _, _, h, k => by rw [show _ = _ from h]; exact k
  | _ :: ds, _, _, _, ⟨v, r, q, a, t⟩, k => by rw [q]; exact ⟨v, _, rfl, a, RepL.append t k⟩
theorem RepL.get : ∀ {ds : List D} {vs : List V} {i : Nat} {d : D}, RepL K H G ds vs → ds[i]? = some d → ∃ v, vs[i]? = some v ∧ Rep K H G d v
  | [], _, _, _, _, e => by simp at e
  | _ :: ds, _, 0, _, ⟨v, r, q, a, t⟩, e => by
    rw [q]; simp at e; rw [← e]; exact ⟨v, rfl, a⟩
  | _ :: ds, _, i + 1, d, ⟨v, r, q, a, t⟩, e => by
    rw [q]
    obtain ⟨u, h1, h2⟩ := RepL.get (i := i) (d := d) t (by simpa using e)
    exact ⟨u, by simpa using h1, h2⟩
theorem RepL.take : ∀ {ds : List D} {vs : List V} (n : Nat), RepL K H G ds vs → RepL K H G (ds.take n) (vs.take n)
  | _, _, 0, h => by rw [List.take_zero, List.take_zero]; exact rfl
  | [], _, n + 1, h => by rw [show _ = _ from h]; exact rfl
  | _ :: ds, _, n + 1, ⟨v, r, q, a, t⟩ => by rw [q]; exact ⟨v, _, rfl, a, RepL.take n t⟩
theorem RepL.drop : ∀ {ds : List D} {vs : List V} (n : Nat), RepL K H G ds vs → RepL K H G (ds.drop n) (vs.drop n)
  | _, _, 0, h => by rw [List.drop_zero, List.drop_zero]; exact h
  | [], _, n + 1, h => by rw [show _ = _ from h]; exact rfl
  | _ :: ds, _, n + 1, ⟨v, r, q, a, t⟩ => by rw [q]; exact RepL.drop n t
theorem RepL.set {d : D} {v : V} (h : Rep K H G d v) : ∀ {ds : List D} {vs : List V} (n : Nat), RepL K H G ds vs → RepL K H G (ds.set n d) (vs.set n v)
  | [], _, n, t => by rw [show _ = _ from t]; exact rfl
  | _ :: ds, _, 0, ⟨w, r, q, a, t⟩ => by rw [q]; exact ⟨v, r, rfl, h, t⟩
  | _ :: ds, _, n + 1, ⟨w, r, q, a, t⟩ => by rw [q]; exact ⟨w, _, rfl, a, RepL.set h n t⟩
theorem RepL.reverse : ∀ {ds : List D} {vs : List V}, RepL K H G ds vs → RepL K H G ds.reverse vs.reverse
  | [], _, h => by rw [show _ = _ from h]; exact rfl
  | _ :: ds, _, ⟨v, r, q, a, t⟩ => by
    rw [q, List.reverse_cons, List.reverse_cons]
    exact (RepL.reverse t).append ⟨v, [], rfl, a, rfl⟩
theorem RepL.one {d : D} {v : V} (h : Rep K H G d v) : RepL K H G [d] [v] := ⟨v, [], rfl, h, rfl⟩
theorem RepL.nil : RepL K H G [] [] := rfl
theorem RepL.cons {d : D} {v : V} {ds : List D} {vs : List V} (h : Rep K H G d v) (t : RepL K H G ds vs) : RepL K H G (d :: ds) (v :: vs) := ⟨v, vs, rfl, h, t⟩
theorem RepL.ints : ∀ {ns : List Int}, RepL K H G (ns.map D.int) (ns.map V.int)
  | [] => rfl
  | n :: r => ⟨_, _, rfl, rfl, RepL.ints⟩
theorem RepL.of_ints : ∀ {ns : List Int} {vs : List V}, RepL K H G (ns.map D.int) vs → vs = ns.map V.int
  | [], _, h => h
  | n :: r, _, ⟨v, us, q, h, t⟩ => by rw [q, show v = _ from h, RepL.of_ints t]; rfl
end

/-! ### slots -/
def at3 : Env3 → Nat → Option D
  | [], _ => none
  | x :: _, 0 => x
  | _ :: r, i + 1 => at3 r i
section
variable {K : PySem.W.Frag} {H : Hp} {G : GH}
theorem REnv.length : ∀ {env : Env3} {σ : St}, REnv K H G env σ → σ.length = env.length
  | [], _, h => by rw [show _ = _ from h]; rfl
  | none :: _, _, ⟨v, r, q, h⟩ => by rw [q, List.length_cons, List.length_cons, h.length]
  | some d :: _, _, ⟨v, r, q, _, h⟩ => by rw [q, List.length_cons, List.length_cons, h.length]
theorem REnv.get : ∀ {env : Env3} {σ : St} {i : Nat} {d : D}, REnv K H G env σ → at3 env i = some d → ∃ v, σ[i]? = some (some v) ∧ Rep K H G d v
  | [], _, _, _, _, e => by cases e
  | none :: _, _, 0, _, _, e => by cases e
  | none :: _, _, i + 1, d, ⟨v, r, q, h⟩, e => by
    rw [q]
    obtain ⟨u, h1, h2⟩ := REnv.get (i := i) (d := d) h e
    exact ⟨u, by simpa using h1, h2⟩
  | some d' :: _, _, 0, d, ⟨v, r, q, h, _⟩, e => by
    cases e; rw [q]; exact ⟨v, rfl, h⟩
  | some _ :: _, _, i + 1, d, ⟨v, r, q, _, h⟩, e => by
    rw [q]
    obtain ⟨u, h1, h2⟩ := REnv.get (i := i) (d := d) h e
    exact ⟨u, by simpa using h1, h2⟩
theorem REnv.set {d : D} {v : V} (x : Rep K H G d v) : ∀ {env : Env3} {σ : St} (i : Nat), REnv K H G env σ → REnv K H G (env.set i (some d)) (σ.set i (some v))
  | [], _, i, h => by rw [show _ = _ from h]; exact rfl
  | none :: _, _, 0, ⟨w, r, q, h⟩ => by rw [q]; exact ⟨v, r, rfl, x, h⟩
  | none :: _, _, i + 1, ⟨w, r, q, h⟩ => by rw [q]; exact ⟨w, _, rfl, REnv.set x i h⟩
  | some _ :: _, _, 0, ⟨w, r, q, _, h⟩ => by rw [q]; exact ⟨v, r, rfl, x, h⟩
  | some d' :: _, _, i + 1, ⟨w, r, q, y, h⟩ => by rw [q]; exact ⟨w, _, rfl, y, REnv.set x i h⟩
theorem REnv.unset {o : Option V} : ∀ {env : Env3} {σ : St} (i : Nat), REnv K H G env σ → REnv K H G (env.set i none) (σ.set i o)
  | [], _, i, h => by rw [show _ = _ from h]; exact rfl
  | none :: _, _, 0, ⟨w, r, q, h⟩ => by rw [q]; exact ⟨_, r, rfl, h⟩
  | none :: _, _, i + 1, ⟨w, r, q, h⟩ => by rw [q]; exact ⟨w, _, rfl, REnv.unset i h⟩
  | some _ :: _, _, 0, ⟨w, r, q, _, h⟩ => by rw [q]; exact ⟨_, r, rfl, h⟩
  | some d' :: _, _, i + 1, ⟨w, r, q, y, h⟩ => by rw [q]; exact ⟨w, _, rfl, y, REnv.unset i h⟩
theorem REnv.nones : ∀ (n : Nat), REnv K H G (List.replicate n none) (List.replicate n none)
  | 0 => rfl
  | n + 1 => ⟨none, _, rfl, REnv.nones n⟩
theorem REnv.start : ∀ {ds : List D} {vs : List V} {e : Env3} {σ : St}, RepL K H G ds vs → REnv K H G e σ → REnv K H G (ds.map some ++ e) (vs.map some ++ σ)
  | [], _, _, _, h, k => by rw [show _ = _ from h]; exact k
  | d :: ds, _, _, _, ⟨v, r, q, a, t⟩, k => by rw [q]; exact ⟨v, _, rfl, a, REnv.start t k⟩
end

/-! ### the lifted readings -/
abbrev K3 := D → GH → Prop
/-- an exception: its class, its own fields -/
abbrev X3 := Value → Option (List Str × List D) → Env3 → GH → Prop
abbrev W3 := Env3 → GH → K3 → X3 → Prop
abbrev A3 := Env3 → GH → (List D → GH → Prop) → X3 → Prop
abbrev T3 := Env3 → GH → (Bool → GH → Prop) → X3 → Prop
structure E3 where
  nx : Env3 → GH → Prop
  rt : K3
  bk : Env3 → GH → Prop := fun _ _ => False
  ct : Env3 → GH → Prop := fun _ _ => False
  ex : X3 := fun _ _ _ _ => False
abbrev S3 := E3 → Env3 → GH → Prop

section
variable (K : PySem.W.Frag)
def RepX (H : Hp) (G : GH) : Option (List Str × List D) → Option Addr → Prop
  | none, d => d = none
  | some (fs, ds), d => ∃ a kvs, d = some a ∧ H a = some (.xd kvs) ∧ G a = none ∧ kvs.map (·.1) = fs ∧ RepL K H G ds (kvs.map (·.2))
def FinE (H : Hp) (G : GH) (R : K3) (Q : VK) : Prop := ∀ d v G' H', Ext G H G' H' → Rep K H' G' d v → RG K H' G' → R d G' → Q v H'
def FinA (H : Hp) (G : GH) (R : List D → GH → Prop) (Q : List V → Hp → Prop) : Prop := ∀ ds vs G' H', Ext G H G' H' → RepL K H' G' ds vs → RG K H' G' → R ds G' → Q vs H'
def FinT (H : Hp) (G : GH) (R : Bool → GH → Prop) (Q : Bool → Hp → Prop) : Prop := ∀ b G' H', Ext G H G' H' → RG K H' G' → R b G' → Q b H'
def FinN (H : Hp) (G : GH) (R : Env3 → GH → Prop) (Q : St → Hp → Prop) : Prop := ∀ env σ G' H', Ext G H G' H' → REnv K H' G' env σ → RG K H' G' → R env G' → Q σ H'
def FinX (W : WX) (H : Hp) (G : GH) (Ex : X3) : Prop := ∀ cls fs d env σ G' H', Ext G H G' H' → REnv K H' G' env σ → RG K H' G' → RepX K H' G' fs d → Ex cls fs env G' → W cls d σ H'
def up (W : WX) (w : W3) : TE := fun σ H Q => ∃ env G R Ex, REnv K H G env σ ∧ RG K H G ∧ w env G R Ex ∧ FinE K H G R Q ∧ FinX K W H G Ex
def upA (W : WX) (w : A3) : TA := fun σ H Q => ∃ env G R Ex, REnv K H G env σ ∧ RG K H G ∧ w env G R Ex ∧ FinA K H G R Q ∧ FinX K W H G Ex
def upT (W : WX) (w : T3) : TT := fun σ H Q => ∃ env G R Ex, REnv K H G env σ ∧ RG K H G ∧ w env G R Ex ∧ FinT K H G R Q ∧ FinX K W H G Ex
structure FinS (W : WX) (H : Hp) (G : GH) (E : E3) (Q : Ends) : Prop where
  nx : FinN K H G E.nx Q.nx
  rt : FinE K H G E.rt Q.rt
  bk : FinN K H G E.bk Q.bk
  ct : FinN K H G E.ct Q.ct
  ex : FinX K W H G E.ex
def upS (W : WX) (w : S3) : TS := fun Q σ H => ∃ env G E, REnv K H G env σ ∧ RG K H G ∧ w E env G ∧ FinS K W H G E Q
end

section
variable {K : PySem.W.Frag} {W : WX} {H H' : Hp} {G G' : GH}
theorem FinE.ext {R : K3} {Q : VK} (e : Ext G H G' H') (f : FinE K H G R Q) : FinE K H' G' R Q := fun d v G2 H2 e2 => f d v G2 H2 (e.trans e2)
theorem FinA.ext {R : List D → GH → Prop} {Q : List V → Hp → Prop} (e : Ext G H G' H') (f : FinA K H G R Q) : FinA K H' G' R Q := fun d v G2 H2 e2 => f d v G2 H2 (e.trans e2)
theorem FinT.ext {R : Bool → GH → Prop} {Q : Bool → Hp → Prop} (e : Ext G H G' H') (f : FinT K H G R Q) : FinT K H' G' R Q := fun b G2 H2 e2 => f b G2 H2 (e.trans e2)
theorem FinN.ext {R : Env3 → GH → Prop} {Q : St → Hp → Prop} (e : Ext G H G' H') (f : FinN K H G R Q) : FinN K H' G' R Q := fun d v G2 H2 e2 => f d v G2 H2 (e.trans e2)
theorem FinX.ext {Ex : X3} (e : Ext G H G' H') (f : FinX K W H G Ex) : FinX K W H' G' Ex := fun c fs d en s G2 H2 e2 => f c fs d en s G2 H2 (e.trans e2)
theorem FinS.ext {E : E3} {Q : Ends} (e : Ext G H G' H') (f : FinS K W H G E Q) : FinS K W H' G' E Q := ⟨f.nx.ext e, f.rt.ext e, f.bk.ext e, f.ct.ext e, f.ex.ext e⟩
end
section
variable {X : Cx} {e : Expr} {t t' : TE}
theorem PE.imp (h : PE X e t) (f : ∀ σ H Q, t' σ H Q → t σ H Q) : PE X e t' := ⟨fun pins s σ H Q I q => h.run pins s σ H Q I (f _ _ _ q)⟩
theorem PT.imp {t t' : TT} (h : PT X e t) (f : ∀ σ H Q, t' σ H Q → t σ H Q) : PT X e t' := ⟨fun pins s σ H Q I q => h.run pins s σ H Q I (f _ _ _ q)⟩
theorem PA.imp {es : List Expr} {t t' : TA} (h : PA X es t) (f : ∀ σ H Q, t' σ H Q → t σ H Q) : PA X es t' := ⟨fun pos pins s σ H Q I q => h.run pos pins s σ H Q I (f _ _ _ q)⟩
theorem PS.imp {st : Stmt} {t t' : TS} (h : PS X st t) (f : ∀ D σ H, t' D σ H → t D σ H) : PS X st t' := ⟨fun pins s σ H D I q => h.run pins s σ H D I (f _ _ _ q)⟩
theorem PSs.imp {st : List Stmt} {t t' : TS} (h : PSs X st t) (f : ∀ D σ H, t' D σ H → t D σ H) : PSs X st t' := ⟨fun pins s σ H D I q => h.run pins s σ H D I (f _ _ _ q)⟩
end
end L3

set_option Elab.async false
set_option linter.all false
set_option maxRecDepth 100000
namespace L3
open PySem PySem.Spec L2

/-! ### reading data -/
def asL (G : GH) : D → Option (List D)
  | .lst xs => some xs
  | .lsx xs => some xs
  | .ref p => match G p with
    | some (.lst xs) => some xs
    | _ => none
  | _ => none
/-- a list that is tracked -/
def asL1 (G : GH) : D → Option (List D)
  | .lst xs => some xs
  | .ref p => match G p with
    | some (.lst xs) => some xs
    | _ => none
  | _ => none
def asT : D → Option (List D)
  | .tup xs => some xs
  | _ => none
/-- a list or a tuple -/
def asS (G : GH) : D → Option (List D)
  | .tup xs => some xs
  | d => asL G d
section
variable {K : PySem.W.Frag} {H : Hp} {G : GH} {d : D} {v : V} {ds : List D}
theorem asL1_at (r : Rep K H G d v) (g : RG K H G) (h : asL1 G d = some ds) : ∃ a vs, v = .ref a ∧ H a = some (.lst vs) ∧ RepL K H G ds vs := by
  cases d <;> simp only [asL1] at h <;> try cases h
  · obtain ⟨a, vs, q, _, k, t⟩ := r
    exact ⟨a, vs, q, k, t⟩
  · rename_i p
    split at h
    · rename_i xs e
      cases h
      obtain ⟨vs, k, t⟩ := g p _ e
      exact ⟨p, vs, r, k, t⟩
    · cases h
theorem asL_at (r : Rep K H G d v) (g : RG K H G) (h : asL G d = some ds) : ∃ a vs, v = .ref a ∧ SqL K H a vs ∧ RepL K H G ds vs := by
  cases d <;> simp only [asL] at h <;> try cases h
  · obtain ⟨a, vs, q, k, e, t⟩ := r
    exact ⟨a, vs, q, .inl (.inl e), t⟩
  · obtain ⟨a, vs, q, k, t⟩ := r
    exact ⟨a, vs, q, k.sq, t⟩
  · rename_i p
    split at h
    · rename_i xs e
      cases h
      obtain ⟨vs, k, t⟩ := g p _ e
      exact ⟨p, vs, r, .inl (.inl k), t⟩
    · cases h
theorem asT_at (r : Rep K H G d v) (h : asT d = some ds) : ∃ a vs, v = .ref a ∧ SqT K H a vs ∧ RepL K H G ds vs := by
  cases d <;> simp only [asT] at h <;> try cases h
  obtain ⟨a, vs, q, k, t⟩ := r
  exact ⟨a, vs, q, k.sq, t⟩
theorem asS_at (r : Rep K H G d v) (g : RG K H G) (h : asS G d = some ds) : ∃ a vs, v = .ref a ∧ (SqL K H a vs ∨ SqT K H a vs) ∧ RepL K H G ds vs := by
  cases d with
  | tup xs =>
    cases h
    obtain ⟨a, vs, q, k, t⟩ := r
    exact ⟨a, vs, q, .inr k.sq, t⟩
  | _ =>
    obtain ⟨a, vs, q, k, t⟩ := asL_at r g h
    exact ⟨a, vs, q, .inl k, t⟩
end
/-! the plain data, as the library has it -/
mutual
def toPy : D → PyData
  | .non => .none
  | .bl b => .bool b
  | .int i => .int i
  | .str x => .str x
  | .tup xs => .tuple (toPyL xs)
  | .lst xs => .list (toPyL xs)
  | .lsx xs => .list (toPyL xs)
  | .ty _ => .none
  | .dct _ _ => .none
  | .ins _ _ _ => .none
  | .ref _ => .none
  | .tpf _ => .none
  | .exc _ _ _ _ => .none
def toPyL : List D → List PyData
  | [] => []
  | d :: r => toPy d :: toPyL r
end
mutual
def flat3 : D → Bool
  | .non => true
  | .bl _ => true
  | .int _ => true
  | .str _ => true
  | .tup xs => flat3L xs
  | .lst xs => flat3L xs
  | .lsx xs => flat3L xs
  | _ => false
def flat3L : List D → Bool
  | [] => true
  | d :: r => flat3 d && flat3L r
end
section
variable {K : PySem.W.Frag} {H : Hp} {G : GH}
mutual
theorem Dp_of : ∀ (d : D) {v : V}, Rep K H G d v → flat3 d = true → Dp K H v (toPy d)
  | .non, v, r, _ => by rw [show v = .non from r]; exact .non
  | .bl b, v, r, _ => by rw [show v = .bl b from r]; exact .bl b
  | .int b, v, r, _ => by rw [show v = .int b from r]; exact .int b
  | .str b, v, r, _ => by rw [show v = .str b from r]; exact .str b
  | .tup xs, v, ⟨a, vs, q, k, t⟩, h => by rw [q]; exact .tup k.sq (DpAll_of xs t h)
  | .lst xs, v, ⟨a, vs, q, k, e, t⟩, h => by rw [q]; exact .lst (.inl (.inl e)) (DpAll_of xs t h)
  | .lsx xs, v, ⟨a, vs, q, k, t⟩, h => by rw [q]; exact .lst k.sq (DpAll_of xs t h)
  | .ty _, _, _, h => by cases h
  | .dct _ _, _, _, h => by cases h
  | .ins _ _ _, _, _, h => by cases h
  | .ref _, _, _, h => by cases h
  | .tpf _, _, _, h => by cases h
  | .exc _ _ _ _, _, _, h => by cases h
theorem DpAll_of : ∀ (ds : List D) {vs : List V}, RepL K H G ds vs → flat3L ds = true → DpAll K H vs (toPyL ds)
  | [], _, t, _ => by rw [show _ = _ from t]; exact .nil
  | d :: ds, _, ⟨v, r, q, a, t⟩, h => by
    have h' : (flat3 d && flat3L ds) = true := h
    rw [Bool.and_eq_true] at h'
    rw [q]; exact .cons (Dp_of d a h'.1) (DpAll_of ds t h'.2)
end
end
/-- == of data -/
def eq3 (a b : D) : Bool := PyData.eqv (toPy a) (toPy b)
def okEq (d : D) : Bool := flat3 d && SeqAt.shaped (toPy d)
def atD (xs : List D) (i : Int) : Option D := L2.atI xs i
def cutD (xs : List D) (lo hi : Option Int) : List D := (xs.drop (HT.sIx xs.length 0 lo)).take (HT.sIx xs.length xs.length hi - HT.sIx xs.length 0 lo)
section
variable {K : PySem.W.Frag} {H : Hp} {G : GH}
theorem RepL.atI {ds : List D} {vs : List V} {i : Int} {d : D} (r : RepL K H G ds vs) (h : atD ds i = some d) : ∃ v, L2.atI vs i = some v ∧ Rep K H G d v := by
  unfold atD L2.atI at h
  obtain ⟨j, h1, h2⟩ := Option.bind_eq_some_iff.mp h
  obtain ⟨v, h3, h4⟩ := r.get h2
  refine ⟨v, ?_, h4⟩
  unfold L2.atI
  rw [r.length, h1]
  exact h3
theorem RepL.cut {ds : List D} {vs : List V} (lo hi : Option Int) (r : RepL K H G ds vs) : RepL K H G (cutD ds lo hi) (cutV vs lo hi) := by
  unfold cutD cutV
  rw [r.length]
  exact (r.drop _).take _
end

/-! ### the lifted operators -/
abbrev F1 := D → GH → K3 → Prop
abbrev F2 := D → D → GH → K3 → Prop
abbrev FA := List D → GH → K3 → Prop
def Lift1 (K : PySem.W.Frag) (r : V → Hp → VK → Prop) (f : F1) : Prop := ∀ (x : D) (a : V) (H : Hp) (G : GH) (R : K3) (Q : VK), Rep K H G x a → RG K H G → f x G R → FinE K H G R Q → r a H Q
def Lift2 (K : PySem.W.Frag) (r : R2) (f : F2) : Prop := ∀ (x y : D) (a b : V) (H : Hp) (G : GH) (R : K3) (Q : VK), Rep K H G x a → Rep K H G y b → RG K H G → f x y G R → FinE K H G R Q → r a b H Q
def LiftC (K : PySem.W.Frag) (r : List V → Hp → VK → Prop) (f : FA) : Prop := ∀ (xs : List D) (vs : List V) (H : Hp) (G : GH) (R : K3) (Q : VK), RepL K H G xs vs → RG K H G → f xs G R → FinE K H G R Q → r vs H Q

def wVar (i : Nat) : W3 := fun env G R _ => ∃ d, at3 env i = some d ∧ R d G
def wC (d : D) : W3 := fun _ G R _ => R d G
def w1 (f : F1) (a : W3) : W3 := fun env G R Ex => a env G (fun x G1 => f x G1 R) Ex
def w2 (f : F2) (a b : W3) : W3 := fun env G R Ex => a env G (fun x G1 => b env G1 (fun y G2 => f x y G2 R) Ex) Ex
def aNil : A3 := fun _ G R _ => R [] G
def aCons (a : W3) (r : A3) : A3 := fun env G R Ex => a env G (fun x G1 => r env G1 (fun xs G2 => R (x :: xs) G2) Ex) Ex
def wA (f : FA) (a : A3) : W3 := fun env G R Ex => a env G (fun xs G1 => f xs G1 R) Ex

section
variable {K : PySem.W.Frag} {W : WX} {H : Hp} {σ : St} {G : GH}
theorem up_go {env : Env3} {w : W3} {R : K3} {Ex : X3} {Q : VK} (re : REnv K H G env σ) (rg : RG K H G) (h : w env G R Ex) (fx : FinX K W H G Ex) (k : FinE K H G R Q) : up K W w σ H Q := ⟨env, G, R, Ex, re, rg, h, k, fx⟩
theorem upA_go {env : Env3} {w : A3} {R : List D → GH → Prop} {Ex : X3} {Q : List V → Hp → Prop} (re : REnv K H G env σ) (rg : RG K H G) (h : w env G R Ex) (fx : FinX K W H G Ex) (k : FinA K H G R Q) : upA K W w σ H Q := ⟨env, G, R, Ex, re, rg, h, k, fx⟩
theorem upT_go {env : Env3} {w : T3} {R : Bool → GH → Prop} {Ex : X3} {Q : Bool → Hp → Prop} (re : REnv K H G env σ) (rg : RG K H G) (h : w env G R Ex) (fx : FinX K W H G Ex) (k : FinT K H G R Q) : upT K W w σ H Q := ⟨env, G, R, Ex, re, rg, h, k, fx⟩
theorem up_2 {r : R2} {f : F2} {wa wb : W3} {Q : VK} (hl : Lift2 K r f) (h : up K W (w2 f wa wb) σ H Q) : tOp r (up K W wa) (up K W wb) σ H Q := by
  obtain ⟨env, G, R, Ex, re, rg, h, fe, fx⟩ := h
  refine up_go re rg h fx fun x a G1 H1 e1 rx rg1 h1 => ?_
  refine up_go (re.ext e1) rg1 h1 (fx.ext e1) fun y b G2 H2 e2 ry rg2 h2 => ?_
  exact hl x y a b H2 G2 R Q (rx.ext e2) ry rg2 h2 (fe.ext (e1.trans e2))
theorem up_1 {r : V → Hp → VK → Prop} {f : F1} {wa : W3} {Q : VK} (hl : Lift1 K r f) (h : up K W (w1 f wa) σ H Q) : tUn r (up K W wa) σ H Q := by
  obtain ⟨env, G, R, Ex, re, rg, h, fe, fx⟩ := h
  refine up_go re rg h fx fun x a G1 H1 e1 rx rg1 h1 => ?_
  exact hl x a H1 G1 R Q rx rg1 h1 (fe.ext e1)
theorem up_A {r : List V → Hp → VK → Prop} {f : FA} {wa : A3} {Q : VK} (hl : LiftC K r f) (h : up K W (wA f wa) σ H Q) : tCB r (upA K W wa) σ H Q := by
  obtain ⟨env, G, R, Ex, re, rg, h, fe, fx⟩ := h
  refine upA_go re rg h fx fun x a G1 H1 e1 rx rg1 h1 => ?_
  exact hl x a H1 G1 R Q rx rg1 h1 (fe.ext e1)
end
section
variable {X : Cx} {W : WX} {a b : Expr} {wa wb : W3} {pos : Pos}
theorem c_var (i : Nat) {x : Str} {pos : Pos} (hN : X.N[i]? = some x := by rfl) (hv : Vis X.env.scope x := by first | exact Or.inl rfl | exact Or.inr (Or.inl rfl) | exact Or.inr (Or.inr rfl)) (hd : (x == ("__debug__" : Str)) = false := by decide)
    (hcd : (x == ("__classdict__" : Str)) = false := by decide) : PE X (.Name x pos) (up X.K W (wVar i)) :=
  PE.imp (pe_var hN hv hd hcd) fun σ H Q ⟨env, G, R, Ex, re, rg, ⟨d, h1, h2⟩, fe, fx⟩ => let ⟨v, e, r⟩ := re.get h1; ⟨v, e, fe d v G H .refl r rg h2⟩
theorem up_C {K : PySem.W.Frag} {d : D} {v : V} {σ : St} {H : Hp} {Q : VK} (hv : ∀ H G, Rep K H G d v) (h : up K W (wC d) σ H Q) : tC v σ H Q := by
  obtain ⟨env, G, R, Ex, re, rg, h, fe, fx⟩ := h
  exact fe d v G H .refl (hv H G) rg h
theorem c_int {i j pos} : PE X (.Constant (.int i) j pos) (up X.K W (wC (.int i))) := PE.imp pe_int fun _ _ _ h => up_C (d := .int i) (fun _ _ => rfl) h
theorem c_bl {i j pos} : PE X (.Constant (.bool i) j pos) (up X.K W (wC (.bl i))) := PE.imp pe_bl fun _ _ _ h => up_C (d := .bl i) (fun _ _ => rfl) h
theorem c_str {i j pos} : PE X (.Constant (.str i) j pos) (up X.K W (wC (.str i))) := PE.imp pe_str fun _ _ _ h => up_C (d := .str i) (fun _ _ => rfl) h
theorem c_non {j pos} : PE X (.Constant .none j pos) (up X.K W (wC .non)) := PE.imp pe_non fun _ _ _ h => up_C (d := .non) (fun _ _ => rfl) h
theorem c_glob {x : Str} {v : V} {u : Value} {d : D} {pos : Pos} (hm : X.mg x = some u) (r : RelV v u) (hv : ∀ H G, Rep X.K H G d v) (hg : Gl X x := by rfl) (hd : (x == ("__debug__" : Str)) = false := by decide) : PE X (.Name x pos) (up X.K W (wC d)) :=
  PE.imp (pe_glob hg hm r hd) fun _ _ _ h => up_C hv h
theorem c_bltn {x : Str} {n : String} {pos : Pos} (hm : X.mg x = none) (hv : bootBuiltins x = some (.type n) := by decide +kernel) (hg : Gl X x := by rfl) (hn : x ≠ "__name__" := by decide) (hd : (x == ("__debug__" : Str)) = false := by decide) : PE X (.Name x pos) (up X.K W (wC (.ty n))) :=
  PE.imp (pe_bltn (v := .ty n) hg hm hv rfl hn hd) fun _ _ _ h => up_C (d := .ty n) (fun _ _ => rfl) h
theorem c_op {op : Operator} {r : R2} {f : F2} (ho : OpR X (binaryOp op) r) (hl : Lift2 X.K r f) (ha : PE X a (up X.K W wa)) (hb : PE X b (up X.K W wb)) : PE X (.BinOp a op b pos) (up X.K W (w2 f wa wb)) :=
  PE.imp (pe_op ho ha hb) fun _ _ _ h => up_2 hl h
theorem c_un {op : UnaryOp} {r : V → Hp → VK → Prop} {f : F1} (ho : UnR X (unaryOp op) r) (hl : Lift1 X.K r f) (ha : PE X a (up X.K W wa)) : PE X (.UnaryOp op a pos) (up X.K W (w1 f wa)) :=
  PE.imp (pe_un ho ha) fun _ _ _ h => up_1 hl h
theorem c_cmp {op : CmpOp} {r : R2} {f : F2} (ho : OpR X (compareOp op) r) (hl : Lift2 X.K r f) (ha : PE X a (up X.K W wa)) (hb : PE X b (up X.K W wb)) (hm : behindInMarks op b = false := by first | exact nomark _ | rfl) : PE X (.Compare a [op] [b] pos) (up X.K W (w2 f wa wb)) :=
  PE.imp (pe_cmpR ho ha hb hm) fun _ _ _ h => up_2 hl h
/-- an expression as a test: its value is a bool -/
def tOfW (w : W3) : T3 := fun env G R Ex => w env G (fun d G1 => ∃ k, d = .bl k ∧ R k G1) Ex
theorem upT_tTest {K : PySem.W.Frag} {w : W3} {t : TE} {σ : St} {H : Hp} {Q : Bool → Hp → Prop} (h : upT K W (tOfW w) σ H Q) (k : ∀ Q', up K W w σ H Q' → t σ H Q') : t σ H (fun x H' => ∃ k, x = .bl k ∧ Q k H') := by
  obtain ⟨env, G, R, Ex, re, rg, h, fe, fx⟩ := h
  refine k _ (up_go re rg h fx fun x a G1 H1 e1 rx rg1 h1 => ?_)
  obtain ⟨b, rfl, h1⟩ := h1
  exact ⟨b, rx, fe b G1 H1 e1 rg1 h1⟩
theorem t_cmp {op : CmpOp} {r : R2} {f : F2} (ho : OpR X (compareOp op) r) (hl : Lift2 X.K r f) (ha : PE X a (up X.K W wa)) (hb : PE X b (up X.K W wb)) (hm : behindInMarks op b = false := by first | exact nomark _ | rfl) :
    PT X (.Compare a [op] [b] pos) (upT X.K W (tOfW (w2 f wa wb))) :=
  PT.imp (pt_cmpR ho ha hb hm) fun _ _ _ h => upT_tTest h fun _ h => up_2 hl h
/-- chains a op b op' c -/
def w3c (f f' : F2) (a b c : W3) : W3 := fun env G R Ex => a env G (fun x G1 => b env G1 (fun y G2 => f x y G2 fun z G3 => ∃ k, z = .bl k ∧ if k = true then c env G3 (fun u G4 => f' y u G4 R) Ex else R (.bl false) G3) Ex) Ex
theorem up_ch {K : PySem.W.Frag} {r r' : R2} {f f' : F2} {wa wb wc : W3} {σ : St} {H : Hp} {Q : VK} (hl : Lift2 K r f) (hl' : Lift2 K r' f') (h : up K W (w3c f f' wa wb wc) σ H Q) : tChain r r' (up K W wa) (up K W wb) (up K W wc) σ H Q := by
  obtain ⟨env, G, R, Ex, re, rg, h, fe, fx⟩ := h
  refine up_go re rg h fx fun x a G1 H1 e1 rx rg1 h1 => ?_
  refine up_go (re.ext e1) rg1 h1 (fx.ext e1) fun y b G2 H2 e2 ry rg2 h2 => ?_
  refine hl x y a b H2 G2 _ _ (rx.ext e2) ry rg2 h2 fun z c G3 H3 e3 rz rg3 h3 => ?_
  obtain ⟨k, rfl, h3⟩ := h3
  obtain rfl : c = V.bl k := rz
  refine ⟨k, rfl, ?_⟩
  cases k with
  | false => exact fe (.bl false) _ G3 H3 ((e1.trans e2).trans e3) rfl rg3 h3
  | true =>
    refine up_go ((re.ext (e1.trans e2)).ext e3) rg3 h3 (fx.ext ((e1.trans e2).trans e3)) fun u g G4 H4 e4 ru rg4 h4 => ?_
    exact hl' y u b g H4 G4 R Q ((ry.ext e3).ext e4) ru rg4 h4 (fe.ext (((e1.trans e2).trans e3).trans e4))
theorem c_chain {op op' : CmpOp} {r r' : R2} {f f' : F2} {c : Expr} {wc : W3} (ho : OpR X (compareOp op) r) (hl : Lift2 X.K r f) (ho' : OpR X (compareOp op') r') (hl' : Lift2 X.K r' f') (ha : PE X a (up X.K W wa)) (hb : PE X b (up X.K W wb)) (hc : PE X c (up X.K W wc))
    (h1 : lastMarks [op, op'] [b, c] = false := by with_unfolding_all rfl) : PE X (.Compare a [op, op'] [b, c] pos) (up X.K W (w3c f f' wa wb wc)) :=
  PE.imp (pe_chain ho ho' ha hb hc h1) fun _ _ _ h => up_ch hl hl' h
theorem t_chain {op op' : CmpOp} {r r' : R2} {f f' : F2} {c : Expr} {wc : W3} (ho : OpR X (compareOp op) r) (hl : Lift2 X.K r f) (ho' : OpR X (compareOp op') r') (hl' : Lift2 X.K r' f') (ha : PE X a (up X.K W wa)) (hb : PE X b (up X.K W wb)) (hc : PE X c (up X.K W wc))
    (h1 : lastMarks [op, op'] [b, c] = false := by with_unfolding_all rfl) : PT X (.Compare a [op, op'] [b, c] pos) (upT X.K W (tOfW (w3c f f' wa wb wc))) :=
  PT.imp (pt_chain ho ho' ha hb hc h1) fun _ _ _ h => upT_tTest h fun _ h => up_ch hl hl' h
theorem t_val {e : Expr} {w : W3} (h : PE X e (up X.K W w)) (he : ∀ whole, isTrue e X.env whole = (do let v ← whole; standAt e.pos; holding [v] (truthy v)) := by intro _; rfl) : PT X e (upT X.K W (tOfW w)) :=
  PT.imp (pt_val h he) fun _ _ _ h => upT_tTest h fun _ h => h
end
end L3

set_option Elab.async false
set_option linter.all false
set_option maxRecDepth 100000
namespace L3
open PySem PySem.Spec L2
open PyProof.Rows hiding St

/-! ### a def's promise, where no repr is under way -/
structure FnG (P : Program) (w : World) (K : PySem.W.Frag) (mg : Str → Option Value) (base : Heap) (CX : CXT) (k : Nat) (f : Addr) (fd : FuncData) (ps : List Str) (sp : Sp) : Prop where
  len : ∀ vs H Q E, sp vs H Q E → vs.length = ps.length
  run : ∀ (A : Around) (outer : List Env) (s : Shared) (H : Hp) (args : Args) (us : List Value) (vs : List V) (Q : VK) (E : XK),
    Room k A → A.guards = some [] → Env0 P w K mg base A outer s H → BindsTo s fd args (ps.zip us) → Vals vs us → sp vs H Q E →
    codeAny (model P w) A (.call (.ref f) args) (CR CX outer P w H s Q E) s
theorem guards_deeper {A : Around} {env : Env} (h : A.guards = some []) : (A.deeper env).guards = some [] := h
section
variable {P : Program} {w : World} {K : PySem.W.Frag} {mg : Str → Option Value} {base : Heap} {CX : CXT}
theorem FnG.mono {j k : Nat} {f : Addr} {fd : FuncData} {ps : List Str} {sp : Sp} (F : FnG P w K mg base CX j f fd ps sp) (h : j ≤ k) : FnG P w K mg base CX k f fd ps sp :=
  ⟨F.len, fun A o s H a us vs Q E r => F.run A o s H a us vs Q E (r.mono h)⟩
theorem FnG.imp {k : Nat} {f : Addr} {fd : FuncData} {ps : List Str} {sp sp' : Sp} (F : FnG P w K mg base CX k f fd ps sp) (h : ∀ vs H Q E, sp' vs H Q E → sp vs H Q E) : FnG P w K mg base CX k f fd ps sp' :=
  ⟨fun vs H Q E q => F.len vs H Q E (h _ _ _ _ q), fun A o s H a us vs Q E r g e b v q => F.run A o s H a us vs Q E r g e b v (h _ _ _ _ q)⟩
/-- a def by its body -/
theorem fn_G {k : Nat} {f : Addr} {nm ql : Str} {pa : Arguments} {bd : List Stmt} {sc : Scope} {dV kV dc pm cv ct oc : Value} {an od : Option Addr} {sl : Array (Option Value)} {N ps : List Str} {sp : Sp}
    (lk : K.lookup f = some ⟨oc, od, .func (PySem.W.fnOf nm ql pa bd sc dV kV dc pm an cv ct), sl⟩) (hc : PySem.W.codeIn K cv ql = true) (S : FnScope N ps sc)
    (len : ∀ vs H Q E, sp vs H Q E → vs.length = ps.length)
    (hb : ∀ (A : Around) (outer : List Env) (s : Shared) (H : Hp) (vs : List V) (Q : VK) (E : XK), A.guards = some [] → Room k (A.deeper (envOfC ql sc s.heap.objs.size f cv)) → sp vs H Q E →
      ∃ t, PSs (cxOf CX P w K mg base N ql sc f cv A outer s H E) bd t ∧ t { nx := fun _ H' => Q .non H', rt := Q } (start N vs) H) :
    FnG P w K mg base CX (k + 1) f (PySem.W.fnOf nm ql pa bd sc dV kV dc pm an cv ct) ps sp := by
  constructor
  · exact len
  intro A outer s H args us vs Q E hr hg e0 bt rv hs
  have there := fun b o e => (e0.bs b o e).1
  have kin := e0.mod.kin.keeps there
  refine codeAny_call_function hr.depth (kin _ _ lk) rfl S.co S.gen rfl (PySem.W.codeRec_of kin hc) (bt _ _ _ _ ?_)
  have kinds : ∀ y ∈ ps.zip us, sc.names.lookup y.1 = some .local ∨ (sc.names.lookup y.1 = some .cell ∧ ((cellsFrom (s.heap.objs.size + 1) sc.names []).lookup y.1).isSome = true) := by
    rintro ⟨n, v⟩ hy
    cases S.par n (List.of_mem_zip hy).1 with
    | inl q => exact .inl q
    | inr q => exact .inr ⟨q, PySem.W.cellsFrom_some _ _ _ (.inl q)⟩
  refine wpAny_newFunctionEnv_cells S.kind kinds fun env he s1 x => ?_
  subst he
  have nolim := e0.mod.nolimit.keeps there
  refine ⟨nolim.keeps x.toInCall.keep, codeAny_func ?_⟩
  obtain ⟨t, ht, hq⟩ := hb A outer s H vs Q E hg (hr.deeper _) hs
  have I := inv_start (CX := CX) (w := w) (E := E) (N := N) S hr.hd e0 (len _ _ _ _ hs) rv x
  refine wpAny_mono (ht.run [] s1 _ H _ I hq) (fun fl s' o => ?_) fun _ _ o => o
  cases fl with
  | next =>
    obtain ⟨σ', H', J, q⟩ := o
    exact ⟨.non, H', J.os, J.bare, J.base, J.hok, rfl, q⟩
  | ret u =>
    obtain ⟨v, σ', H', J, r', q⟩ := o
    exact ⟨v, H', J.os, J.bare, J.base, J.hok, r', q⟩
  | brk =>
    obtain ⟨_, _, _, q⟩ := o
    exact (show False from q).elim
  | cont =>
    obtain ⟨_, _, _, q⟩ := o
    exact (show False from q).elim
end

/-! ### the lifted promise -/
/-- arguments, changeable objects, what is wanted, what is wanted of an exception -/
abbrev SP3 := List D → GH → K3 → X3 → Prop
def sp3 (K : PySem.W.Frag) (n : Nat) (S : SP3) : Sp := fun vs H Q E => ∃ ds G R Ex, ds.length = n ∧ RepL K H G ds vs ∧ RG K H G ∧ S ds G R Ex ∧ FinE K H G R Q ∧ FinX K (fun c d _ H => E c d H) H G Ex
/-- a def of the module, as its callers see it -/
structure Good (P : Program) (w : World) (K : PySem.W.Frag) (mg : Str → Option Value) (base : Heap) (nm : Str) (ps : List Str) (k : Nat) (S : SP3) : Prop where
  ex : ∃ f fd, mg nm = some (.ref f) ∧ PySem.W.keepIn K (.ref f) = true ∧ Binds K fd ps [] ∧ FnG P w K mg base (L2.CX P w) k f fd ps (sp3 K ps.length S)
section
variable {P : Program} {w : World} {K : PySem.W.Frag} {mg : Str → Option Value} {base : Heap}
theorem Good.mono {nm : Str} {ps : List Str} {j k : Nat} {S : SP3} (g : Good P w K mg base nm ps j S) (h : j ≤ k) : Good P w K mg base nm ps k S :=
  let ⟨f, fd, a, b, c, F⟩ := g.ex; ⟨f, fd, a, b, c, F.mono h⟩
theorem Good.imp {nm : Str} {ps : List Str} {k : Nat} {S S' : SP3} (g : Good P w K mg base nm ps k S) (h : ∀ ds G R Ex, S' ds G R Ex → S ds G R Ex) : Good P w K mg base nm ps k S' :=
  let ⟨f, fd, a, b, c, F⟩ := g.ex; ⟨f, fd, a, b, c, F.imp fun _ _ _ _ ⟨ds, G, R, Ex, q1, q2, q3, q4, q5⟩ => ⟨ds, G, R, Ex, q1, q2, q3, h _ _ _ _ q4, q5⟩⟩
/-- what of the text a def of the module needs -/
structure DefAt (K : PySem.W.Frag) (mg : Str → Option Value) (nm : Str) (st : Stmt) (ps : List Str) : Prop where
  ex : ∃ f fd, mg nm = some (.ref f) ∧ Fun K nm nm st f fd ∧ Binds K fd ps []
def start3 (N : List Str) (ds : List D) : Env3 := ds.map some ++ List.replicate (N.length - ds.length) none
/-- the context of a def's body -/
abbrev cx3 (P : Program) (w : World) (K : PySem.W.Frag) (mg : Str → Option Value) (base : Heap) (N : List Str) (nm : Str) (sc : Scope) (f : Addr) (cd : Value) (A : Around) (outer : List Env) (s : Shared) (H : Hp) (E : XK) : Cx :=
  cxOf (L2.CX P w) P w K mg base N nm sc f cd A outer s H E
abbrev WEx (E : XK) : WX := fun c d _ H => E c d H
theorem good_of {nm : Str} {st : Stmt} {N ps : List Str} {k : Nat} {S : SP3} (d : DefAt K mg nm st ps) (sc : FnScope N ps (defScope st))
    (hb : ∀ (f : Addr) (cd : Value) (A : Around) (outer : List Env) (s : Shared) (H : Hp) (E : XK),
      PassesOwn (model P w) (cx3 P w K mg base N nm (defScope st) f cd A outer s H E).A (cx3 P w K mg base N nm (defScope st) f cd A outer s H E).env (cx3 P w K mg base N nm (defScope st) f cd A outer s H E).xe →
      Takes (cx3 P w K mg base N nm (defScope st) f cd A outer s H E) (WEx E) → (cx3 P w K mg base N nm (defScope st) f cd A outer s H E).A.guards = some [] → Room k (cx3 P w K mg base N nm (defScope st) f cd A outer s H E).A →
      ∃ u : S3, PSs (cx3 P w K mg base N nm (defScope st) f cd A outer s H E) (defBody st) (upS K (WEx E) u) ∧ ∀ ds G R Ex, ds.length = ps.length → S ds G R Ex → u { nx := fun _ G => R .non G, rt := R, ex := Ex } (start3 N ds) G) :
    Good P w K mg base nm ps (k + 1) S := by
  obtain ⟨f, fd, hm, F, hbd⟩ := d.ex
  have kp := F.kp
  obtain ⟨oc, od, kV, doc, pm, an, cdv, ct, osl, rfl, lk, hcd⟩ := F.ex
  have hlen : ∀ vs H Q E, sp3 K ps.length S vs H Q E → vs.length = ps.length := fun vs H Q E ⟨ds, G, R, Ex, h1, h2, _⟩ => h2.length.trans h1
  refine ⟨f, _, hm, kp, hbd, fn_G lk hcd sc hlen fun A outer s H vs Q E hg hr hs => ?_⟩
  obtain ⟨u, hu, hw⟩ := hb f cdv A outer s H E (passes_of rfl) (takes_of rfl rfl rfl rfl) hg hr
  refine ⟨_, hu, ?_⟩
  obtain ⟨ds, G, R, Ex, h1, h2, h3, h4, h5, h6⟩ := hs
  refine ⟨start3 N ds, G, _, ?_, h3, hw ds G R Ex h1 h4, ⟨fun env σ G' H' e re rg q => h5 .non .non G' H' e rfl rg q, h5, fun _ _ _ _ _ _ _ z => z.elim, fun _ _ _ _ _ _ _ z => z.elim, h6⟩⟩
  unfold start3 L2.start
  rw [h2.length]
  exact REnv.start h2 (REnv.nones _)
end

/-! ### calls -/
def wCall (n : Nat) (S : SP3) (ar : A3) : W3 := fun env G R Ex => ar env G (fun ds G1 => ds.length = n ∧ S ds G1 R (fun c f _ G' => Ex c f env G')) Ex
section
variable {X : Cx} {W : WX} {k : Nat} {x : Str} {ps : List Str} {S : SP3} {p pos : Pos} {e : Expr} {es : List Expr} {ar : A3} {we : W3}
theorem a_nil : PA X [] (upA X.K W aNil) := PA.imp pa_nil fun σ H Q ⟨env, G, R, Ex, re, rg, h, fe, fx⟩ => fe [] [] G H .refl rfl rg h
theorem a_cons (ha : PE X e (up X.K W we)) (hr : PA X es (upA X.K W ar)) (hs : starEach (e :: es) X.env = (false, eval e X.env) :: starEach es X.env := by rfl) : PA X (e :: es) (upA X.K W (aCons we ar)) :=
  PA.imp (pa_cons ha hr hs) fun σ H Q ⟨env, G, R, Ex, re, rg, h, fe, fx⟩ => by
    refine up_go re rg h fx fun x a G1 H1 e1 rx rg1 h1 => ?_
    refine upA_go (re.ext e1) rg1 h1 (fx.ext e1) fun xs vs G2 H2 e2 rs rg2 h2 => ?_
    exact fe (x :: xs) (a :: vs) G2 H2 (e1.trans e2) ⟨a, vs, rfl, rx.ext e2, rs⟩ rg2 h2
/-- f(e, ..), f a def of the module -/
theorem c_call (F : Good X.prog X.w X.K X.mg X.base x ps k S) (hr : Room k X.A) (hgd : X.A.guards = some []) (tk : Takes X W) (ha : PA X (e :: es) (upA X.K W ar)) (hg : Gl X x := by rfl)
    (hdb : (x == ("__debug__" : Str)) = false := by decide) (he : starEach (e :: es) X.env = (false, eval e X.env) :: starEach es X.env := by rfl) (hpl : (backTo pos (starEach es X.env)).any (·.1) = false := by rfl) :
    PE X (.Call (.Name x p) (e :: es) [] pos) (up X.K W (wCall ps.length S ar)) := by
  obtain ⟨f, fd, hm, hk, hb, FG⟩ := F.ex
  refine ⟨fun pins s σ H Q I h => ?_⟩
  obtain ⟨env, G, R, Ex, re, rg, h, fe, fx⟩ := h
  refine wpAny_Call_Name_kw (ld_glob I hg hm ?_ hdb)
  refine PySem.W.callWith_K (h₀ := X.base) I.ok.mod.kin hk (thn (ha.run pos pins s σ H _ I (upA_go re rg h fx (Q := fun vs H1 => sp3 X.K ps.length S vs H1 Q (WE W σ)) fun ds vs G1 H1 e1 rd rg1 h1 => ?_)) fun us s1 ⟨vs, H1, I1, r, q⟩ => ⟨I1.kIn, ?_⟩) he hpl
  · exact ⟨ds, G1, R, _, h1.1, rd, rg1, h1.2, fe.ext e1, fun c fs d env' σ' G2 H2 e2 re2 rg2 rx ex => fx c fs d env σ G2 H2 (e1.trans e2) (re.ext (e1.trans e2)) rg2 rx ex⟩
  · have hl : us.length = ps.length := by rw [← r.length]; exact FG.len _ _ _ _ q
    have b := hb s1 us I1.kIn (by rw [List.append_nil]; exact hl)
    rw [List.append_nil] at b
    refine wpAny_call (codeAny_mono (FG.run X.A X.stack s1 H1 ⟨us, []⟩ us vs Q (WE W σ) hr hgd I1.env0 b r q) fun r s' hq => ?_)
    cases r with
    | error e => exact passAt tk σ pins H1 s1 e s' I1 hq
    | ok fl =>
      cases fl with
      | ret u => exact I1.after hq
      | next => exact False.elim hq
      | brk => exact False.elim hq
      | cont => exact False.elim hq
/-- built-in functions and types by name -/
theorem c_callB {id : String} {r : List V → Hp → VK → Prop} {f : FA} (hc : CallR X (.builtin id) r) (hl : LiftC X.K r f) (hm : X.mg x = none) (ha : PA X (e :: es) (upA X.K W ar)) (hv : bootBuiltins x = some (.builtin id) := by decide +kernel) (hg : Gl X x := by rfl)
    (hn : x ≠ "__name__" := by decide) (hdb : (x == ("__debug__" : Str)) = false := by decide) (he : starEach (e :: es) X.env = (false, eval e X.env) :: starEach es X.env := by rfl) (hpl : (backTo pos (starEach es X.env)).any (·.1) = false := by rfl) :
    PE X (.Call (.Name x p) (e :: es) [] pos) (up X.K W (wA f ar)) := PE.imp (pe_callB hc hg hm hv ha hn hdb he hpl) fun _ _ _ h => up_A hl h
theorem c_callT {id : String} {r : List V → Hp → VK → Prop} {f : FA} (hc : CallR X (.type id) r) (hl : LiftC X.K r f) (hm : X.mg x = none) (ha : PA X (e :: es) (upA X.K W ar)) (hv : bootBuiltins x = some (.type id) := by decide +kernel) (hg : Gl X x := by rfl)
    (hn : x ≠ "__name__" := by decide) (hdb : (x == ("__debug__" : Str)) = false := by decide) (he : starEach (e :: es) X.env = (false, eval e X.env) :: starEach es X.env := by rfl) (hpl : (backTo pos (starEach es X.env)).any (·.1) = false := by rfl) :
    PE X (.Call (.Name x p) (e :: es) [] pos) (up X.K W (wA f ar)) := PE.imp (pe_callTy hc hg hm hv ha hn hdb he hpl) fun _ _ _ h => up_A hl h
end

/-! ### displays -/
def wTup (ar : A3) : W3 := fun env G R Ex => ar env G (fun ds G1 => ds.length ≤ sizeLine ∧ R (.tup ds) G1) Ex
def wLst (ar : A3) : W3 := fun env G R Ex => ar env G (fun ds G1 => ds.length ≤ sizeLine ∧ R (.lst ds) G1) Ex
/-- a new list that will be changed -/
def wLstO (ar : A3) : W3 := fun env G R Ex => ar env G (fun ds G1 => ds.length ≤ sizeLine ∧ ∀ p, G1 p = none → R (.ref p) (gset G1 p (.lst ds))) Ex
section
variable {K : PySem.W.Frag} {H : Hp} {G : GH} {vs : List V} {ds : List D} {R : K3} {Q : VK}
theorem fin_tup (r : RepL K H G ds vs) (g : RG K H G) (f : FinE K H G R Q) (h : R (.tup ds) G) : ∀ p, H p = none → Q (.ref p) (upd H p (.tup vs)) := fun p hp =>
  f (.tup ds) _ G _ (.alloc hp (g.fresh hp)) ⟨p, vs, rfl, .inl ⟨g.fresh hp, .inl upd_same⟩, RepL.ext (.alloc hp (g.fresh hp)) ds r⟩ (g.alloc hp) h
theorem fin_lst (r : RepL K H G ds vs) (g : RG K H G) (f : FinE K H G R Q) (h : R (.lst ds) G) : ∀ p, H p = none → Q (.ref p) (upd H p (.lst vs)) := fun p hp =>
  f (.lst ds) _ G _ (.alloc hp (g.fresh hp)) ⟨p, vs, rfl, g.fresh hp, upd_same, RepL.ext (.alloc hp (g.fresh hp)) ds r⟩ (g.alloc hp) h
theorem fin_lstO (r : RepL K H G ds vs) (g : RG K H G) (f : FinE K H G R Q) (h : ∀ p, G p = none → R (.ref p) (gset G p (.lst ds))) : ∀ p, H p = none → Q (.ref p) (upd H p (.lst vs)) := fun p hp =>
  f (.ref p) _ _ _ (.allocG hp) rfl (g.allocG (go := .lst ds) hp ⟨vs, upd_same, RepL.ext (.allocG hp) ds r⟩) (h p (g.fresh hp))
end
section
variable {X : Cx} {W : WX} {es : List Expr} {ar : A3} {pos : Pos}
theorem c_tup {k : Nat} (h : PA X es (upA X.K W ar)) : PE X (.Tuple es k pos) (up X.K W (wTup ar)) := PE.imp (pe_tup h) fun σ H Q ⟨env, G, R, Ex, re, rg, h, fe, fx⟩ => by
  refine upA_go re rg h fx fun ds vs G1 H1 e1 rd rg1 h1 => ?_
  exact ⟨by rw [rd.length]; exact h1.1, fin_tup rd rg1 (fe.ext e1) h1.2⟩
theorem c_lst (h : PA X es (upA X.K W ar)) : PE X (.List es pos) (up X.K W (wLst ar)) := PE.imp (pe_lst h) fun σ H Q ⟨env, G, R, Ex, re, rg, h, fe, fx⟩ => by
  refine upA_go re rg h fx fun ds vs G1 H1 e1 rd rg1 h1 => ?_
  exact ⟨by rw [rd.length]; exact h1.1, fin_lst rd rg1 (fe.ext e1) h1.2⟩
theorem c_lstO (h : PA X es (upA X.K W ar)) : PE X (.List es pos) (up X.K W (wLstO ar)) := PE.imp (pe_lst h) fun σ H Q ⟨env, G, R, Ex, re, rg, h, fe, fx⟩ => by
  refine upA_go re rg h fx fun ds vs G1 H1 e1 rd rg1 h1 => ?_
  exact ⟨by rw [rd.length]; exact h1.1, fin_lstO rd rg1 (fe.ext e1) h1.2⟩
end

/-! ### and, or, not, if -/
def wAnd (a b : W3) : W3 := fun env G R Ex => a env G (fun x G1 => ∃ c, x = .bl c ∧ if c = true then b env G1 R Ex else R (.bl false) G1) Ex
def wOr (a b : W3) : W3 := fun env G R Ex => a env G (fun x G1 => ∃ c, x = .bl c ∧ if c = true then R (.bl true) G1 else b env G1 R Ex) Ex
def wNot (a : W3) : W3 := fun env G R Ex => a env G (fun x G1 => ∃ c, x = .bl c ∧ R (.bl (!c)) G1) Ex
def tAnd3 (a b : T3) : T3 := fun env G R Ex => a env G (fun c G1 => if c = true then b env G1 R Ex else R false G1) Ex
def tOr3 (a b : T3) : T3 := fun env G R Ex => a env G (fun c G1 => if c = true then R true G1 else b env G1 R Ex) Ex
def tNot3 (a : T3) : T3 := fun env G R Ex => a env G (fun c G1 => R (!c) G1) Ex
def wIf (t : T3) (a b : W3) : W3 := fun env G R Ex => t env G (fun c G1 => if c = true then a env G1 R Ex else b env G1 R Ex) Ex
section
variable {X : Cx} {W : WX} {a b c : Expr} {rest : List Expr} {wa wb : W3} {ta tb : T3} {pos : Pos}
theorem c_one {op} (h : PE X a (up X.K W wa)) : PE X (.BoolOp op [a] pos) (up X.K W wa) := pe_one h
theorem c_and (ha : PE X a (up X.K W wa)) (hb : PE X (.BoolOp .And (b :: rest) pos) (up X.K W wb)) : PE X (.BoolOp .And (a :: b :: rest) pos) (up X.K W (wAnd wa wb)) :=
  PE.imp (pe_and ha hb) fun σ H Q ⟨env, G, R, Ex, re, rg, h, fe, fx⟩ => by
    refine up_go re rg h fx fun x v G1 H1 e1 rx rg1 h1 => ?_
    obtain ⟨c, rfl, h1⟩ := h1
    refine ⟨c, rx, ?_⟩
    cases c with
    | true => exact up_go (re.ext e1) rg1 h1 (fx.ext e1) (fe.ext e1)
    | false => exact fe (.bl false) _ G1 H1 e1 rfl rg1 h1
theorem c_or (ha : PE X a (up X.K W wa)) (hb : PE X (.BoolOp .Or (b :: rest) pos) (up X.K W wb)) : PE X (.BoolOp .Or (a :: b :: rest) pos) (up X.K W (wOr wa wb)) :=
  PE.imp (pe_or ha hb) fun σ H Q ⟨env, G, R, Ex, re, rg, h, fe, fx⟩ => by
    refine up_go re rg h fx fun x v G1 H1 e1 rx rg1 h1 => ?_
    obtain ⟨c, rfl, h1⟩ := h1
    refine ⟨c, rx, ?_⟩
    cases c with
    | false => exact up_go (re.ext e1) rg1 h1 (fx.ext e1) (fe.ext e1)
    | true => exact fe (.bl true) _ G1 H1 e1 rfl rg1 h1
theorem c_not (ha : PE X a (up X.K W wa)) : PE X (.UnaryOp .Not a pos) (up X.K W (wNot wa)) :=
  PE.imp (pe_not ha) fun σ H Q ⟨env, G, R, Ex, re, rg, h, fe, fx⟩ => by
    refine up_go re rg h fx fun x v G1 H1 e1 rx rg1 h1 => ?_
    obtain ⟨c, rfl, h1⟩ := h1
    exact ⟨c, rx, fe (.bl (!c)) _ G1 H1 e1 rfl rg1 h1⟩
theorem PW.imp {e : Expr} {t t' : TT} (h : PW X e t) (f : ∀ σ H Q, t' σ H Q → t σ H Q) : PW X e t' := ⟨fun wh pins s σ H Q I q => h.run wh pins s σ H Q I (f _ _ _ q)⟩
theorem o_and1 (ha : PT X a (upT X.K W ta)) : PW X (.BoolOp .And [a] pos) (upT X.K W ta) := pw_and1 ha
theorem o_or1 (ha : PT X a (upT X.K W ta)) : PW X (.BoolOp .Or [a] pos) (upT X.K W ta) := pw_or1 ha
theorem o_and (ha : PT X a (upT X.K W ta)) (hb : PW X (.BoolOp .And (b :: rest) pos) (upT X.K W tb)) : PW X (.BoolOp .And (a :: b :: rest) pos) (upT X.K W (tAnd3 ta tb)) :=
  PW.imp (pw_and ha hb) fun σ H Q ⟨env, G, R, Ex, re, rg, h, fe, fx⟩ => by
    refine upT_go re rg h fx fun c G1 H1 e1 rg1 h1 => ?_
    cases c with
    | true => exact upT_go (re.ext e1) rg1 h1 (fx.ext e1) (fe.ext e1)
    | false => exact fe false G1 H1 e1 rg1 h1
theorem o_or (ha : PT X a (upT X.K W ta)) (hb : PW X (.BoolOp .Or (b :: rest) pos) (upT X.K W tb)) : PW X (.BoolOp .Or (a :: b :: rest) pos) (upT X.K W (tOr3 ta tb)) :=
  PW.imp (pw_or ha hb) fun σ H Q ⟨env, G, R, Ex, re, rg, h, fe, fx⟩ => by
    refine upT_go re rg h fx fun c G1 H1 e1 rg1 h1 => ?_
    cases c with
    | false => exact upT_go (re.ext e1) rg1 h1 (fx.ext e1) (fe.ext e1)
    | true => exact fe true G1 H1 e1 rg1 h1
theorem t_w {e : Expr} (h : PW X e (upT X.K W ta)) : PT X e (upT X.K W ta) := h.pt
theorem t_not (ha : PT X a (upT X.K W ta)) : PT X (.UnaryOp .Not a pos) (upT X.K W (tNot3 ta)) :=
  PT.imp (pt_not ha) fun σ H Q ⟨env, G, R, Ex, re, rg, h, fe, fx⟩ => by
    refine upT_go re rg h fx fun c G1 H1 e1 rg1 h1 => ?_
    exact fe (!c) G1 H1 e1 rg1 h1
theorem c_if (hc : PT X c (upT X.K W ta)) (ha : PE X a (up X.K W wa)) (hb : PE X b (up X.K W wb)) : PE X (.IfExp c a b pos) (up X.K W (wIf ta wa wb)) :=
  PE.imp (pe_ifExp hc ha hb) fun σ H Q ⟨env, G, R, Ex, re, rg, h, fe, fx⟩ => by
    refine upT_go re rg h fx fun c G1 H1 e1 rg1 h1 => ?_
    cases c with
    | true => exact up_go (re.ext e1) rg1 h1 (fx.ext e1) (fe.ext e1)
    | false => exact up_go (re.ext e1) rg1 h1 (fx.ext e1) (fe.ext e1)
/-- a value by its truth -/
def truth (G : GH) : D → Option Bool
  | .non => some false
  | .bl b => some b
  | .int i => some (i != 0)
  | d => match asS G d with
    | some xs => some (!xs.isEmpty)
    | none => none
end

/-! ### subscripts, slices -/
def fIx : F2 := fun x y G R => match y with
  | .int i => match x with
    | .str z => ∃ c, z.length ≤ sizeLine ∧ L2.atI z.cps.toList i = some c ∧ R (.str ⟨#[c]⟩) G
    | x => ∃ xs d, asS G x = some xs ∧ atD xs i = some d ∧ R d G
  | _ => False
theorem lift_ix {K : PySem.W.Frag} : Lift2 K (rIx K) fIx := by
  intro x y a b H G R Q rx ry rg h fe
  cases y with
  | int i =>
    obtain rfl : b = V.int i := ry
    have go : (∃ xs d, asS G x = some xs ∧ atD xs i = some d ∧ R d G) → rIx K a (.int i) H Q := by
      rintro ⟨xs, d, h1, h2, h3⟩
      obtain ⟨p, vs, rfl, sq, rl⟩ := asS_at rx rg h1
      obtain ⟨v, h4, h5⟩ := rl.atI h2
      rcases sq with sq | sq
      · exact .inl ⟨p, vs, i, v, rfl, rfl, sq, h4, fe d v G H .refl h5 rg h3⟩
      · exact .inr (.inl ⟨p, vs, i, v, rfl, rfl, sq, h4, fe d v G H .refl h5 rg h3⟩)
    cases x with
    | str z =>
      obtain ⟨c, h1, h2, h3⟩ := h
      obtain rfl : a = V.str z := rx
      exact .inr (.inr ⟨z, i, c, rfl, rfl, h1, h2, fe (.str ⟨#[c]⟩) _ G H .refl rfl rg h3⟩)
    | _ => exact go h
  | _ => exact False.elim h
abbrev P3 := Env3 → GH → (Option Int → GH → Prop) → X3 → Prop
def pNone : P3 := fun _ G R _ => R none G
def pSome (w : W3) : P3 := fun env G R Ex => w env G (fun d G1 => ∃ i, d = .int i ∧ R (some i) G1) Ex
def upP (K : PySem.W.Frag) (W : WX) (w : P3) : St → Hp → (Option Int → Hp → Prop) → Prop := fun σ H Q => ∃ env G R Ex, REnv K H G env σ ∧ RG K H G ∧ w env G R Ex ∧ (∀ o G' H', Ext G H G' H' → RG K H' G' → R o G' → Q o H') ∧ FinX K W H G Ex
abbrev FSl := D → Option Int → Option Int → GH → K3 → Prop
def fSl : FSl := fun x lo hi G R => match x with
  | .str z => z.length ≤ sizeLine ∧ R (.str (cutS z lo hi)) G
  | .tup xs => R (.tup (cutD xs lo hi)) G
  | x => ∃ xs, asL G x = some xs ∧ R (.lst (cutD xs lo hi)) G
def wSl (f : FSl) (a : W3) (l h : P3) : W3 := fun env G R Ex => a env G (fun x G1 => l env G1 (fun lo G2 => h env G2 (fun hi G3 => f x lo hi G3 R) Ex) Ex) Ex
section
variable {X : Cx} {W : WX} {a b : Expr} {wa wb : W3} {lo hi : Option Expr} {pl ph : P3} {pos p2 : Pos}
theorem PO.imp {e : Option Expr} {t t' : St → Hp → (Option Int → Hp → Prop) → Prop} (h : PO X e t) (f : ∀ σ H Q, t' σ H Q → t σ H Q) : PO X e t' := ⟨fun pins s σ H Q I q => h.run pins s σ H Q I (f _ _ _ q)⟩
theorem p_none : PO X none (upP X.K W pNone) := PO.imp po_none fun σ H Q ⟨env, G, R, Ex, re, rg, h, fe, fx⟩ => fe none G H .refl rg h
theorem p_some {e : Expr} (h : PE X e (up X.K W wa)) : PO X (some e) (upP X.K W (pSome wa)) := PO.imp (po_some h) fun σ H Q ⟨env, G, R, Ex, re, rg, h, fe, fx⟩ => by
  refine up_go re rg h fx fun x v G1 H1 e1 rx rg1 h1 => ?_
  obtain ⟨i, rfl, h1⟩ := h1
  exact ⟨i, rx, fe (some i) G1 H1 e1 rg1 h1⟩
theorem c_ix (ha : PE X a (up X.K W wa)) (hb : PE X b (up X.K W wb)) (hs : PlainIx b := by exact fun _ _ => rfl) : PE X (.Subscript a b pos) (up X.K W (w2 fIx wa wb)) :=
  PE.imp (pe_ix ix_seq ha hb hs) fun _ _ _ h => up_2 lift_ix h
def rSl3 (K : PySem.W.Frag) : V → Option Int → Option Int → Hp → VK → Prop := fun x lo hi H Q => rSlS x lo hi H Q ∨ rSlA K x lo hi H Q ∨ rSlL K x lo hi H Q
theorem sl_3 : SlR X (rSl3 X.K) := SlR.or sl_str (SlR.or sl_tupA sl_list)
theorem cut_all {xs : List V} {lo hi : Option Int} (h : HT.sIx xs.length 0 lo = 0 ∧ HT.sIx xs.length xs.length hi = xs.length) : cutV xs lo hi = xs := by
  unfold cutV
  rw [h.1, h.2, List.drop_zero, Nat.sub_zero, List.take_length]
theorem RepL.eq_len {K : PySem.W.Frag} {H : Hp} {G : GH} {ds : List D} {vs : List V} (r : RepL K H G ds vs) (lo hi : Option Int) (h : HT.sIx vs.length 0 lo = 0 ∧ HT.sIx vs.length vs.length hi = vs.length) : cutD ds lo hi = ds := by
  rw [r.length] at h
  unfold cutD
  rw [h.1, h.2, List.drop_zero, Nat.sub_zero, List.take_length]
theorem c_slice (ha : PE X a (up X.K W wa)) (hl : PO X lo (upP X.K W pl)) (hh : PO X hi (upP X.K W ph)) : PE X (.Subscript a (.Slice lo hi none p2) pos) (up X.K W (wSl fSl wa pl ph)) :=
  PE.imp (pe_slice sl_3 ha hl hh) fun σ H Q ⟨env, G, R, Ex, re, rg, h, fe, fx⟩ => by
    refine up_go re rg h fx fun x v G1 H1 e1 rx rg1 h1 => ?_
    refine ⟨env, G1, _, Ex, re.ext e1, rg1, h1, fun l G2 H2 e2 rg2 h2 => ?_, fx.ext e1⟩
    refine ⟨env, G2, _, Ex, (re.ext e1).ext e2, rg2, h2, fun u G3 H3 e3 rg3 h3 => ?_, (fx.ext e1).ext e2⟩
    have rx3 := (rx.ext e2).ext e3
    have fe3 := fe.ext ((e1.trans e2).trans e3)
    have lst : (∃ xs, asL G3 x = some xs ∧ R (.lst (cutD xs l u)) G3) → rSl3 X.K v l u H3 Q := by
      rintro ⟨xs, q1, q2⟩
      obtain ⟨p, vs, rfl, sq, rl⟩ := asL_at rx3 rg3 q1
      exact .inr (.inr ⟨p, vs, rfl, sq, fin_lst (rl.cut l u) rg3 fe3 q2⟩)
    cases x with
    | str z =>
      obtain ⟨q1, q2⟩ := h3
      obtain rfl : v = V.str z := rx3
      exact .inl ⟨z, rfl, q1, fe3 (.str (cutS z l u)) _ G3 H3 .refl rfl rg3 q2⟩
    | tup xs =>
      obtain ⟨p, vs, rfl, sq, rl⟩ := rx3
      refine .inr (.inl ⟨p, vs, rfl, sq.sq, fun q => ?_, fun _ => fin_tup (rl.cut l u) rg3 fe3 h3⟩)
      have h3' : R (.tup (cutD xs l u)) G3 := h3
      rw [rl.eq_len l u q] at h3'
      exact fe3 (.tup xs) _ G3 H3 .refl ⟨p, vs, rfl, sq, rl⟩ rg3 h3'
    | _ => exact lst h3
end
end L3

set_option Elab.async false
set_option linter.all false
set_option maxRecDepth 100000
namespace L3
open PySem PySem.Spec L2
open PyProof.Rows hiding St

/-! ### intsD -/
def fI2 (g : Int → Int → D) : F2 := fun x y G R => match x, y with
  | .int i, .int j => R (g i j) G
  | _, _ => False
def fI2C (C : Int → Int → Prop) (g : Int → Int → D) : F2 := fun x y G R => match x, y with
  | .int i, .int j => C i j ∧ R (g i j) G
  | _, _ => False
def fI1 (g : Int → D) : F1 := fun x G R => match x with
  | .int i => R (g i) G
  | _ => False
section
variable {K : PySem.W.Frag}
theorem lift_I2i {g : Int → Int → Int} : Lift2 K (rI0 fun i j => .int (g i j)) (fI2 fun i j => .int (g i j)) := by
  intro x y a b H G R Q rx ry rg h fe
  cases x <;> cases y <;> simp only [fI2] at h
  exact ⟨_, _, rx, ry, fe (.int _) _ G H .refl rfl rg h⟩
theorem lift_I2b {g : Int → Int → Bool} : Lift2 K (rI0 fun i j => .bl (g i j)) (fI2 fun i j => .bl (g i j)) := by
  intro x y a b H G R Q rx ry rg h fe
  cases x <;> cases y <;> simp only [fI2] at h
  exact ⟨_, _, rx, ry, fe (.bl _) _ G H .refl rfl rg h⟩
theorem lift_I2C {C : Int → Int → Prop} {g : Int → Int → Int} : Lift2 K (rI C fun i j => .int (g i j)) (fI2C C fun i j => .int (g i j)) := by
  intro x y a b H G R Q rx ry rg h fe
  cases x <;> cases y <;> simp only [fI2C] at h
  exact ⟨_, _, rx, ry, h.1, fe (.int _) _ G H .refl rfl rg h.2⟩
theorem lift_I1 {g : Int → Int} : Lift1 K (rU fun i => .int (g i)) (fI1 fun i => .int (g i)) := by
  intro x a H G R Q rx rg h fe
  cases x <;> simp only [fI1] at h
  exact ⟨_, rx, fe (.int _) _ G H .refl rfl rg h⟩
end
/-- products: as the model has them -/
def MulC (i j : Int) : Prop := PySem.IntMulOk i j
theorem MulC.l {i j : Int} (h1 : -(2 ^ 64) < i) (h2 : i < 2 ^ 64) : MulC i j := CMul.ok (.inl ⟨h1, h2⟩)
theorem MulC.r {i j : Int} (h1 : -(2 ^ 64) < j) (h2 : j < 2 ^ 64) : MulC i j := CMul.ok (.inr ⟨h1, h2⟩)
theorem MulC.w {i j : Int} (h : i.natAbs.log2 + j.natAbs.log2 < 1000000) : MulC i j := CMulW.ok h
def DivC (i j : Int) : Prop := j ≠ 0 ∧ j.natAbs.log2 < 9000
theorem DivC.small {i j : Int} (h1 : 0 < j) (h2 : j < 2 ^ 64) : DivC i j := ⟨by omega, Nat.lt_of_lt_of_le ((Nat.log2_lt (by omega)).mpr (show j.natAbs < 2 ^ 64 by omega)) (by decide)⟩
section
variable {X : Cx}
theorem op_mulG : OpR X (binaryOp .Mult) (rI MulC fun i j => .int (i * j)) := opI fun _ _ _ _ _ _ _ hc q => PyProof.Rows.mul_int q hc
theorem op_fdivG : OpR X (binaryOp .FloorDiv) (rI DivC fun i j => .int (i.fdiv j)) := opI fun _ _ _ _ _ _ _ hc q => PyProof.Rows.floordiv_int hc.1 q (.inl (PyProof.noPylong_of_log2 hc.2))
theorem op_modG : OpR X (binaryOp .Mod) (rI (fun _ j => j ≠ 0) fun i j => .int (i.fmod j)) := op_modN
end

/-! ### + -/
def fAdd : F2 := fun x y G R => match x, y with
  | .int i, .int j => R (.int (i + j)) G
  | .str a, .str b => a.length + b.length ≤ sizeLine ∧ R (.str (a ++ b)) G
  | .tup xs, .tup ys => xs.length + ys.length ≤ sizeLine ∧ R (.tup (xs ++ ys)) G
  | x, y => ∃ xs ys, asL1 G x = some xs ∧ asL1 G y = some ys ∧ xs.length + ys.length ≤ sizeLine ∧ R (.lst (xs ++ ys)) G
/-- list + list, the sum to be changed later -/
def fAddO : F2 := fun x y G R => ∃ xs ys, asL1 G x = some xs ∧ asL1 G y = some ys ∧ xs.length + ys.length ≤ sizeLine ∧ ∀ p, G p = none → R (.ref p) (gset G p (.lst (xs ++ ys)))
def rAdd3 (K : PySem.W.Frag) : R2 := fun x y H Q => rI0 (fun i j => .int (i + j)) x y H Q ∨ (∃ i j, x = .str i ∧ y = .str j ∧ i.length + j.length ≤ sizeLine ∧ Q (.str (i ++ j)) H) ∨ rCatA K x y H Q ∨ rCat x y H Q
theorem op_add3 {X : Cx} : OpR X (binaryOp .Add) (rAdd3 X.K) := OpR.or op_add (OpR.or op_add_str (OpR.or op_catA op_cat))
theorem lift_add {K : PySem.W.Frag} : Lift2 K (rAdd3 K) fAdd := by
  intro x y a b H G R Q rx ry rg h fe
  have lst : (∃ xs ys, asL1 G x = some xs ∧ asL1 G y = some ys ∧ xs.length + ys.length ≤ sizeLine ∧ R (.lst (xs ++ ys)) G) → rAdd3 K a b H Q := by
    rintro ⟨xs, ys, h1, h2, h3, h4⟩
    obtain ⟨p, vs, rfl, e1, r1⟩ := asL1_at rx rg h1
    obtain ⟨q, us, rfl, e2, r2⟩ := asL1_at ry rg h2
    exact .inr (.inr (.inr ⟨p, q, vs, us, rfl, rfl, e1, e2, by rw [r1.length, r2.length]; exact h3, fin_lst (r1.append r2) rg fe h4⟩))
  cases x with
  | int i =>
    cases y with
    | int j => exact .inl ⟨_, _, rx, ry, fe (.int _) _ G H .refl rfl rg h⟩
    | _ => exact lst h
  | str i =>
    cases y with
    | str j => exact .inr (.inl ⟨_, _, rx, ry, h.1, fe (.str _) _ G H .refl rfl rg h.2⟩)
    | _ => exact lst h
  | tup xs =>
    cases y with
    | tup ys =>
      obtain ⟨p, vs, rfl, k1, r1⟩ := rx
      obtain ⟨q, us, rfl, k2, r2⟩ := ry
      refine .inr (.inr (.inl ⟨p, q, vs, us, rfl, rfl, k1.sq, k2.sq, by rw [r1.length, r2.length]; exact h.1, fun e => ?_, fun _ e => ?_, fun _ _ => fin_tup (r1.append r2) rg fe h.2⟩))
      · have ex : xs = [] := by
          have := r1.length
          rw [e] at this
          exact List.length_eq_zero_iff.mp this.symm
        subst ex
        exact fe (.tup ys) _ G H .refl ⟨q, us, rfl, k2, r2⟩ rg h.2
      · have ey : ys = [] := by
          have := r2.length
          rw [e] at this
          exact List.length_eq_zero_iff.mp this.symm
        subst ey
        have h2 := h.2
        rw [List.append_nil] at h2
        exact fe (.tup xs) _ G H .refl ⟨p, vs, rfl, k1, r1⟩ rg h2
    | _ => exact lst h
  | _ => exact lst h
theorem lift_addO {K : PySem.W.Frag} : Lift2 K rCat fAddO := by
  intro x y a b H G R Q rx ry rg ⟨xs, ys, h1, h2, h3, h4⟩ fe
  obtain ⟨p, vs, rfl, e1, r1⟩ := asL1_at rx rg h1
  obtain ⟨q, us, rfl, e2, r2⟩ := asL1_at ry rg h2
  exact ⟨p, q, vs, us, rfl, rfl, e1, e2, by rw [r1.length, r2.length]; exact h3, fin_lstO (r1.append r2) rg fe h4⟩
/-! ### * -/
def fMul : F2 := fun x y G R => match x, y with
  | .int i, .int j => MulC i j ∧ R (.int (i * j)) G
  | x, .int k => ∃ xs, asL1 G x = some xs ∧ -(2 ^ 63) ≤ k ∧ k < 2 ^ 63 ∧ xs.length * k.toNat ≤ sizeLine ∧ R (.lst (List.replicate k.toNat xs).flatten) G
  | _, _ => False
def fMulO : F2 := fun x y G R => match y with
  | .int k => ∃ xs, asL1 G x = some xs ∧ -(2 ^ 63) ≤ k ∧ k < 2 ^ 63 ∧ xs.length * k.toNat ≤ sizeLine ∧ ∀ p, G p = none → R (.ref p) (gset G p (.lst (List.replicate k.toNat xs).flatten))
  | _ => False
theorem RepL.reps {K : PySem.W.Frag} {H : Hp} {G : GH} {ds : List D} {vs : List V} (r : RepL K H G ds vs) : ∀ n : Nat, RepL K H G (List.replicate n ds).flatten (List.replicate n vs).flatten
  | 0 => rfl
  | n + 1 => by rw [List.replicate_succ, List.replicate_succ, List.flatten_cons, List.flatten_cons]; exact r.append (r.reps n)
def rMul3 : R2 := fun x y H Q => rI MulC (fun i j => .int (i * j)) x y H Q ∨ rRep x y H Q
theorem op_mul3 {X : Cx} : OpR X (binaryOp .Mult) rMul3 := OpR.or op_mulG op_rep
theorem lift_mul {K : PySem.W.Frag} : Lift2 K rMul3 fMul := by
  intro x y a b H G R Q rx ry rg h fe
  cases y with
  | int k =>
    have lst : (∃ xs, asL1 G x = some xs ∧ -(2 ^ 63) ≤ k ∧ k < 2 ^ 63 ∧ xs.length * k.toNat ≤ sizeLine ∧ R (.lst (List.replicate k.toNat xs).flatten) G) → rMul3 a b H Q := by
      rintro ⟨xs, h1, h2, h3, h4, h5⟩
      obtain ⟨p, vs, rfl, e1, r1⟩ := asL1_at rx rg h1
      exact .inr ⟨p, k, vs, rfl, ry, e1, h2, h3, by rw [r1.length]; exact h4, fin_lst (r1.reps _) rg fe h5⟩
    cases x with
    | int i => exact .inl ⟨_, _, rx, ry, h.1, fe (.int _) _ G H .refl rfl rg h.2⟩
    | _ => exact lst h
  | _ => cases x <;> exact False.elim h
theorem lift_mulO {K : PySem.W.Frag} : Lift2 K rRep fMulO := by
  intro x y a b H G R Q rx ry rg h fe
  cases y with
  | int k =>
    obtain ⟨xs, h1, h2, h3, h4, h5⟩ := h
    obtain ⟨p, vs, rfl, e1, r1⟩ := asL1_at rx rg h1
    exact ⟨p, k, vs, rfl, ry, e1, h2, h3, by rw [r1.length]; exact h4, fin_lstO (r1.reps _) rg fe h5⟩
  | _ => exact False.elim h

/-! ### ==, !=, is None, in -/
def fEq : F2 := fun x y G R => match x, y with
  | .str a, .str b => R (.bl (a == b)) G
  | x, y => okEq x = true ∧ okEq y = true ∧ R (.bl (eq3 x y)) G
def fNe : F2 := fun x y G R => match x, y with
  | .str a, .str b => R (.bl (!(a == b))) G
  | x, y => okEq x = true ∧ okEq y = true ∧ R (.bl (!eq3 x y)) G
def rEq3 (K : PySem.W.Frag) : R2 := fun x y H Q => rEq x y H Q ∨ rEqD K x y H Q
def rNe3 (K : PySem.W.Frag) : R2 := fun x y H Q => rNe x y H Q ∨ rNeD K x y H Q
theorem op_eq3 {X : Cx} (hu : X.A.units + 64 < cLine) : OpR X (compareOp .Eq) (rEq3 X.K) := OpR.or op_eq (op_eqD hu)
theorem op_ne3 {X : Cx} (hu : X.A.units + 64 < cLine) : OpR X (compareOp .NotEq) (rNe3 X.K) := OpR.or op_ne (op_neD hu)
theorem lift_eq {K : PySem.W.Frag} : Lift2 K (rEq3 K) fEq := by
  intro x y a b H G R Q rx ry rg h fe
  have gen : okEq x = true ∧ okEq y = true ∧ R (.bl (eq3 x y)) G → rEq3 K a b H Q := by
    rintro ⟨h1, h2, h3⟩
    unfold okEq at h1 h2
    rw [Bool.and_eq_true] at h1 h2
    exact .inr ⟨_, _, Dp_of x rx h1.1, Dp_of y ry h2.1, h1.2, h2.2, fe (.bl _) _ G H .refl rfl rg h3⟩
  cases x with
  | str i =>
    cases y with
    | str j =>
      obtain rfl : a = V.str i := rx
      obtain rfl : b = V.str j := ry
      exact .inl ⟨rfl, by rw [dec_str]; exact fe (.bl _) _ G H .refl rfl rg h⟩
    | _ => exact gen h
  | _ => exact gen h
theorem lift_ne {K : PySem.W.Frag} : Lift2 K (rNe3 K) fNe := by
  intro x y a b H G R Q rx ry rg h fe
  have gen : okEq x = true ∧ okEq y = true ∧ R (.bl (!eq3 x y)) G → rNe3 K a b H Q := by
    rintro ⟨h1, h2, h3⟩
    unfold okEq at h1 h2
    rw [Bool.and_eq_true] at h1 h2
    exact .inr ⟨_, _, Dp_of x rx h1.1, Dp_of y ry h2.1, h1.2, h2.2, fe (.bl _) _ G H .refl rfl rg h3⟩
  cases x with
  | str i =>
    cases y with
    | str j =>
      obtain rfl : a = V.str i := rx
      obtain rfl : b = V.str j := ry
      exact .inl ⟨rfl, by rw [dec_str]; exact fe (.bl _) _ G H .refl rfl rg h⟩
    | _ => exact gen h
  | _ => exact gen h
def isNon : D → Bool
  | .non => true
  | _ => false
def fIsN : F2 := fun x y G R => y = .non ∧ R (.bl (isNon x)) G
def fNotN : F2 := fun x y G R => y = .non ∧ R (.bl (!isNon x)) G
theorem isNon_V {K : PySem.W.Frag} {H : Hp} {G : GH} {x : D} {a : V} (r : Rep K H G x a) : decide (a = .non) = isNon x := by
  cases x with
  | non => rw [show a = .non from r]; rfl
  | bl _ => rw [show a = .bl _ from r]; rfl
  | int _ => rw [show a = .int _ from r]; rfl
  | str _ => rw [show a = .str _ from r]; rfl
  | ty _ => rw [show a = .ty _ from r]; rfl
  | ref _ => rw [show a = .ref _ from r]; rfl
  | tup _ => obtain ⟨p, vs, rfl, _⟩ := r; rfl
  | lst _ => obtain ⟨p, vs, rfl, _⟩ := r; rfl
  | lsx _ => obtain ⟨p, vs, rfl, _⟩ := r; rfl
  | dct _ _ => obtain ⟨p, vs, rfl, _⟩ := r; rfl
  | ins _ _ _ => obtain ⟨p, dx, vs, rfl, _⟩ := r; rfl
  | tpf _ => obtain ⟨p, vs, o, rfl, _⟩ := r; rfl
  | exc _ _ _ _ => obtain ⟨kvs, rfl, _⟩ := r; rfl
theorem lift_isN {K : PySem.W.Frag} : Lift2 K (fun x y H Q => y = .non ∧ Q (.bl (decide (x = .non))) H) fIsN := by
  intro x y a b H G R Q rx ry rg ⟨h1, h2⟩ fe
  subst h1
  exact ⟨ry, by rw [isNon_V rx]; exact fe (.bl _) _ G H .refl rfl rg h2⟩
theorem lift_notN {K : PySem.W.Frag} : Lift2 K (fun x y H Q => y = .non ∧ Q (.bl (!decide (x = .non))) H) fNotN := by
  intro x y a b H G R Q rx ry rg ⟨h1, h2⟩ fe
  subst h1
  exact ⟨ry, by rw [isNon_V rx]; exact fe (.bl _) _ G H .refl rfl rg h2⟩
def flatD : D → Bool
  | .non => true
  | .bl _ => true
  | .int _ => true
  | .str _ => true
  | _ => false
def eqF : D → D → Bool
  | .non, .non => true
  | .bl a, .bl b => a == b
  | .bl a, .int b => (if a then 1 else 0) == b
  | .int a, .bl b => a == (if b then 1 else 0)
  | .int a, .int b => a == b
  | .str a, .str b => a == b
  | _, _ => false
theorem flat_V {K : PySem.W.Frag} {H : Hp} {G : GH} {x : D} {a : V} (r : Rep K H G x a) (f : flatD x = true) : flatV a = true := by
  cases x with
  | non => rw [show a = .non from r]; rfl
  | bl _ => rw [show a = .bl _ from r]; rfl
  | int _ => rw [show a = .int _ from r]; rfl
  | str _ => rw [show a = .str _ from r]; rfl
  | _ => cases f
theorem eqF_V {K : PySem.W.Frag} {H : Hp} {G : GH} {x y : D} {a b : V} (r : Rep K H G x a) (s : Rep K H G y b) (f : flatD x = true) (g : flatD y = true) : eqV a b = eqF x y := by
  cases x with
  | non => rw [show a = .non from r]; cases y with
    | non => rw [show b = .non from s]; rfl
    | bl _ => rw [show b = .bl _ from s]; rfl
    | int _ => rw [show b = .int _ from s]; rfl
    | str _ => rw [show b = .str _ from s]; rfl
    | _ => cases g
  | bl _ => rw [show a = .bl _ from r]; cases y with
    | non => rw [show b = .non from s]; rfl
    | bl _ => rw [show b = .bl _ from s]; rfl
    | int _ => rw [show b = .int _ from s]; rfl
    | str _ => rw [show b = .str _ from s]; rfl
    | _ => cases g
  | int _ => rw [show a = .int _ from r]; cases y with
    | non => rw [show b = .non from s]; rfl
    | bl _ => rw [show b = .bl _ from s]; rfl
    | int _ => rw [show b = .int _ from s]; rfl
    | str _ => rw [show b = .str _ from s]; rfl
    | _ => cases g
  | str _ => rw [show a = .str _ from r]; cases y with
    | non => rw [show b = .non from s]; rfl
    | bl _ => rw [show b = .bl _ from s]; rfl
    | int _ => rw [show b = .int _ from s]; rfl
    | str _ => rw [show b = .str _ from s]; rfl
    | _ => cases g
  | _ => cases f
theorem flatL_V {K : PySem.W.Frag} {H : Hp} {G : GH} : ∀ {xs : List D} {vs : List V}, RepL K H G xs vs → xs.all flatD = true → vs.all flatV = true
  | [], _, r, _ => by rw [show _ = _ from r]; rfl
  | x :: xs, _, ⟨v, u, q, a, t⟩, h => by
    rw [List.all_cons, Bool.and_eq_true] at h
    rw [q, List.all_cons, flat_V a h.1, flatL_V t h.2]; rfl
def inF (x : D) (xs : List D) : Bool := xs.any fun y => eqF y x
theorem inF_V {K : PySem.W.Frag} {H : Hp} {G : GH} {x : D} {a : V} (rx : Rep K H G x a) (fx : flatD x = true) : ∀ {xs : List D} {vs : List V}, RepL K H G xs vs → xs.all flatD = true → inV a vs = inF x xs
  | [], _, r, _ => by rw [show _ = _ from r]; rfl
  | y :: ys, _, ⟨v, u, q, b, t⟩, h => by
    rw [List.all_cons, Bool.and_eq_true] at h
    have ih := inF_V rx fx t h.2
    unfold inV inF at ih ⊢
    rw [q, List.any_cons, List.any_cons, eqF_V b rx h.1 fx, ih]
def fIn (neg : Bool) : F2 := fun x y G R => ∃ xs, asS G y = some xs ∧ flatD x = true ∧ xs.all flatD = true ∧ R (.bl (if neg then !inF x xs else inF x xs)) G
theorem lift_in {K : PySem.W.Frag} {neg : Bool} : Lift2 K (rIn K neg) (fIn neg) := by
  intro x y a b H G R Q rx ry rg ⟨xs, h1, h2, h3, h4⟩ fe
  obtain ⟨p, vs, rfl, sq, rl⟩ := asS_at ry rg h1
  refine ⟨p, vs, rfl, sq, flat_V rx h2, flatL_V rl h3, ?_⟩
  rw [inF_V rx h2 rl h3]
  exact fe (.bl _) _ G H .refl rfl rg h4

/-! ### isinstance -/
/-- the class of a thing -/
def tyD (G : GH) : D → Option Value
  | .non => some (.type "NoneType")
  | .bl _ => some (.type "bool")
  | .int _ => some (.type "int")
  | .str _ => some (.type "str")
  | .tup _ => some (.type "tuple")
  | .lst _ => some (.type "list")
  | .lsx _ => some (.type "list")
  | .dct _ _ => some (.type "dict")
  | .ref p => match G p with
    | some (.lst _) => some (.type "list")
    | some (.dct _ _) => some (.type "dict")
    | _ => none
  | _ => none
theorem tyD_X {K : PySem.W.Frag} {H : Hp} {G : GH} {x : D} {a : V} {t : Value} (r : Rep K H G x a) (g : RG K H G) (h : tyD G x = some t) : TyX K H a t := by
  cases x with
  | non => cases h; rw [show a = .non from r]; exact .base .non
  | bl b => cases h; rw [show a = .bl b from r]; exact .base (.bl b)
  | int b => cases h; rw [show a = .int b from r]; exact .base (.int b)
  | str b => cases h; rw [show a = .str b from r]; exact .base (.str b)
  | tup xs =>
    cases h
    obtain ⟨p, vs, rfl, ⟨_, k | ⟨o, k⟩⟩ | ⟨o, its, n, k, c, _⟩, _⟩ := r
    · exact .base (.tup k)
    · exact .fTuple k
    · exact .kTuple k c
  | lst xs =>
    cases h
    obtain ⟨p, vs, rfl, _, k, _⟩ := r
    exact .base (.lst k)
  | lsx xs =>
    cases h
    obtain ⟨p, vs, rfl, ⟨_, k | ⟨o, k⟩⟩ | ⟨o, its, n, k, c, _⟩, _⟩ := r
    · exact .base (.lst k)
    · exact .base (.frz k)
    · exact .kList k c
  | dct ks xs =>
    cases h
    obtain ⟨p, vs, rfl, _, k, _⟩ := r
    exact .base (.dK k)
  | ref p =>
    obtain rfl : a = .ref p := r
    simp only [tyD] at h
    split at h
    · rename_i xs e
      cases h
      obtain ⟨vs, k, _⟩ := g p _ e
      exact .base (.lst k)
    · rename_i ks xs e
      cases h
      obtain ⟨vs, k, _⟩ := g p _ e
      exact .base (.dK k)
    · cases h
  | _ => cases h
def clsD : D → Option Value
  | .ty n => some (.type n)
  | .ref C => some (.ref C)
  | _ => none
theorem clsD_V {K : PySem.W.Frag} {H : Hp} {G : GH} {x : D} {a : V} {t : Value} (r : Rep K H G x a) (h : clsD x = some t) : ClsV a t := by
  cases x <;> simp only [clsD] at h <;> try cases h
  · rw [show a = .ty _ from r]; exact .ty _
  · rw [show a = .ref _ from r]; exact .own _
def fIsi (K : PySem.W.Frag) : FA := fun xs G R => match xs with
  | [x, .tup cs] => ∃ t us b, tyD G x = some t ∧ cs.mapM clsD = some us ∧ PySem.W.kitAny K t us = some b ∧ R (.bl b) G
  | [x, c] => ∃ t u b, tyD G x = some t ∧ clsD c = some u ∧ PySem.W.kitOne K t u = some b ∧ R (.bl b) G
  | _ => False
def rIsiA (K : PySem.W.Frag) : List V → Hp → VK → Prop := fun xs H Q => ∃ (x : V) (tp : Addr) (cs : List V) (t : Value) (us : List Value) (b : Bool), xs = [x, .ref tp] ∧ SqT K H tp cs ∧ Paired ClsV cs us ∧ TyX K H x t ∧ PySem.W.kitAny K t us = some b ∧ Q (.bl b) H
theorem call_isiA {X : Cx} : CallR X (.builtin "isinstance") (rIsiA X.K) := by
  intro pins s σ H xs us Q I r h
  obtain ⟨x, tp, cs, t, ws, b, rfl, hT, kk, ty, e, q⟩ := h
  obtain ⟨u1, u2, rfl, r1, r2⟩ := vals2 r
  obtain rfl : u2 = Value.ref tp := r2
  obtain ⟨P, Z, p, hx⟩ := kit_of I r1 ty
  obtain ⟨its, rv, ⟨ob, g1, g2, n, g3⟩, _⟩ := I.tuple hT
  obtain rfl := ClsV.all kk rv
  obtain ⟨oc, od, dt, sl⟩ := ob
  simp only at g2 g3
  subst g2 g3
  exact PySem.W.kia_tup Z I.kIn p g1 e hx fun tk => ⟨.bl b, H, I.tok tk, rfl, q⟩
def rIsi3 (K : PySem.W.Frag) : List V → Hp → VK → Prop := fun xs H Q => rIsi K xs H Q ∨ rIsiA K xs H Q
theorem call_isi3 {X : Cx} : CallR X (.builtin "isinstance") (rIsi3 X.K) := CallR.or call_isi call_isiA
theorem clsL_V {K : PySem.W.Frag} {H : Hp} {G : GH} : ∀ {cs : List D} {vs : List V} {us : List Value}, RepL K H G cs vs → cs.mapM clsD = some us → Paired ClsV vs us
  | [], _, us, r, h => by
    rw [show _ = _ from r]
    simp only [List.mapM_nil] at h
    cases h
    exact .nil
  | c :: cs, _, us, ⟨v, u, q, a, t⟩, h => by
    rw [List.mapM_cons] at h
    cases h1 : clsD c with
    | none => rw [h1] at h; cases h
    | some x =>
      cases h2 : cs.mapM clsD with
      | none => rw [h1, h2] at h; cases h
      | some xs =>
        rw [h1, h2] at h
        cases h
        rw [q]
        exact .cons (clsD_V a h1) (clsL_V t h2)
theorem lift_isi {K : PySem.W.Frag} : LiftC K (rIsi3 K) (fIsi K) := by
  intro xs vs H G R Q r g h fe
  match xs, r, h with
  | [x, c], ⟨v1, r1, e1, a1, v2, r2, e2, a2, e3⟩, h =>
    subst e3 e2 e1
    have one : (∃ t u b, tyD G x = some t ∧ clsD c = some u ∧ PySem.W.kitOne K t u = some b ∧ R (.bl b) G) → rIsi3 K [v1, v2] H Q := by
      rintro ⟨t, u, b, q1, q2, q3, q4⟩
      exact .inl ⟨v1, v2, t, u, b, rfl, clsD_V a2 q2, tyD_X a1 g q1, q3, fe (.bl b) _ G H .refl rfl g q4⟩
    cases c with
    | tup cs =>
      obtain ⟨t, us, b, q1, q2, q3, q4⟩ := h
      obtain ⟨p, ws, rfl, k, rl⟩ := a2
      exact .inr ⟨v1, p, ws, t, us, b, rfl, k.sq, clsL_V rl q2, tyD_X a1 g q1, q3, fe (.bl b) _ G H .refl rfl g q4⟩
    | _ => exact one h
  | [], _, h => exact False.elim h
  | [_], _, h => exact False.elim (by cases ‹D› <;> exact h)
  | _ :: y :: _ :: _, _, h => exact False.elim (by cases y <;> exact h)

/-! ### other built-in functions -/
def fLen : FA := fun xs G R => match xs with
  | [.str y] => y.length ≤ sizeLine ∧ R (.int y.length) G
  | [x] => ∃ ds, asS G x = some ds ∧ R (.int ds.length) G
  | _ => False
theorem lift_len {K : PySem.W.Frag} : LiftC K (fun xs H Q => ∃ x n, xs = [x] ∧ LenV K x H n ∧ Q (.int n) H) fLen := by
  intro xs vs H G R Q r g h fe
  match xs, r, h with
  | [], _, h => exact False.elim h
  | [x], ⟨v, r1, e1, a1, e2⟩, h =>
    subst e2 e1
    have seq : (∃ ds, asS G x = some ds ∧ R (.int ds.length) G) → ∃ y n, [v] = [y] ∧ LenV K y H n ∧ Q (.int n) H := by
      rintro ⟨ds, q1, q2⟩
      obtain ⟨p, ws, rfl, sq, rl⟩ := asS_at a1 g q1
      refine ⟨_, ds.length, rfl, ?_, fe (.int _) _ G H .refl rfl g q2⟩
      rcases sq with sq | sq
      · exact .inl ⟨ws, sq, rl.length.symm⟩
      · exact .inr ⟨ws, sq, rl.length.symm⟩
    cases x with
    | str y =>
      obtain rfl : v = V.str y := a1
      exact ⟨_, y.length, rfl, ⟨h.1, rfl⟩, fe (.int _) _ G H .refl rfl g h.2⟩
    | _ => exact seq h
  | x :: y :: zs, _, h => cases x <;> exact False.elim h
def fAbs : FA := fun xs G R => match xs with
  | [.int i] => R (.int (if i < 0 then -i else i)) G
  | _ => False
theorem RepL.one_inv {K : PySem.W.Frag} {H : Hp} {G : GH} {x : D} {vs : List V} (r : RepL K H G [x] vs) : ∃ v, vs = [v] ∧ Rep K H G x v := by
  obtain ⟨v, u, e, a, e2⟩ := r
  exact ⟨v, by rw [e, show u = [] from e2], a⟩
theorem lift_abs {K : PySem.W.Frag} : LiftC K (fun xs H Q => ∃ i, xs = [.int i] ∧ Q (.int (if i < 0 then -i else i)) H) fAbs := by
  intro xs vs H G R Q r g h fe
  unfold fAbs at h
  split at h
  · obtain ⟨v, rfl, a⟩ := r.one_inv
    exact ⟨_, by rw [show v = _ from a], fe (.int _) _ G H .refl rfl g h⟩
  · exact h.elim
def fInt : FA := fun xs G R => match xs with
  | [.int i] => R (.int i) G
  | [.bl b] => R (.int (if b then 1 else 0)) G
  | _ => False
theorem lift_int {K : PySem.W.Frag} : LiftC K (fun xs H Q => (∃ i, xs = [.int i] ∧ Q (.int i) H) ∨ ∃ k, xs = [.bl k] ∧ Q (.int (if k then 1 else 0)) H) fInt := by
  intro xs vs H G R Q r g h fe
  unfold fInt at h
  split at h
  · obtain ⟨v, rfl, a⟩ := r.one_inv
    exact .inl ⟨_, by rw [show v = _ from a], fe (.int _) _ G H .refl rfl g h⟩
  · obtain ⟨v, rfl, a⟩ := r.one_inv
    exact .inr ⟨_, by rw [show v = _ from a], fe (.int _) _ G H .refl rfl g h⟩
  · exact h.elim
/-- list(x): a new list, to be changed or not -/
def fListO : FA := fun xs G R => ∃ x ds, xs = [x] ∧ asS G x = some ds ∧ ∀ p, G p = none → R (.ref p) (gset G p (.lst ds))
def fList : FA := fun xs G R => ∃ x ds, xs = [x] ∧ asS G x = some ds ∧ R (.lst ds) G
theorem lift_listO {K : PySem.W.Frag} : LiftC K (fun xs H Q => ∃ p ys, xs = [.ref p] ∧ (SqL K H p ys ∨ SqT K H p ys) ∧ ∀ l, H l = none → Q (.ref l) (upd H l (.lst ys))) fListO := by
  rintro xs vs H G R Q r g ⟨x, ds, rfl, h1, h2⟩ fe
  obtain ⟨v, rfl, a⟩ := r.one_inv
  obtain ⟨p, ws, rfl, sq, rl⟩ := asS_at a g h1
  exact ⟨p, ws, rfl, sq, fin_lstO rl g fe h2⟩
theorem lift_list {K : PySem.W.Frag} : LiftC K (fun xs H Q => ∃ p ys, xs = [.ref p] ∧ (SqL K H p ys ∨ SqT K H p ys) ∧ ∀ l, H l = none → Q (.ref l) (upd H l (.lst ys))) fList := by
  rintro xs vs H G R Q r g ⟨x, ds, rfl, h1, h2⟩ fe
  obtain ⟨v, rfl, a⟩ := r.one_inv
  obtain ⟨p, ws, rfl, sq, rl⟩ := asS_at a g h1
  exact ⟨p, ws, rfl, sq, fin_lst rl g fe h2⟩
def fTuple : FA := fun xs G R => match xs with
  | [.tup ds] => R (.tup ds) G
  | [x] => ∃ ds, asL G x = some ds ∧ R (.tup ds) G
  | _ => False
theorem lift_tuple {K : PySem.W.Frag} : LiftC K (fun xs H Q => ∃ p ys, xs = [.ref p] ∧ ((SqL K H p ys ∧ ∀ l, H l = none → Q (.ref l) (upd H l (.tup ys))) ∨ (SqT K H p ys ∧ Q (.ref p) H))) fTuple := by
  intro xs vs H G R Q r g h fe
  match xs, r, h with
  | [], _, h => exact False.elim h
  | [x], r, h =>
    obtain ⟨v, rfl, a⟩ := r.one_inv
    have lst : (∃ ds, asL G x = some ds ∧ R (.tup ds) G) → ∃ p ys, [v] = [V.ref p] ∧ ((SqL K H p ys ∧ ∀ l, H l = none → Q (.ref l) (upd H l (.tup ys))) ∨ (SqT K H p ys ∧ Q (.ref p) H)) := by
      rintro ⟨ds, h1, h2⟩
      obtain ⟨p, ws, rfl, sq, rl⟩ := asL_at a g h1
      exact ⟨p, ws, rfl, .inl ⟨sq, fin_tup rl g fe h2⟩⟩
    cases x with
    | tup ds =>
      have a' := a
      obtain ⟨p, ws, rfl, k, rl⟩ := a
      exact ⟨p, ws, rfl, .inr ⟨k.sq, fe (.tup ds) _ G H .refl a' g h⟩⟩
    | _ => exact lst h
  | x :: y :: zs, _, h => cases x <;> exact False.elim h
/-- all, any of a list of truths -/
def bools : List D → Option (List Bool)
  | [] => some []
  | .bl b :: r => (bools r).map (b :: ·)
  | _ :: _ => none
theorem bools_V {K : PySem.W.Frag} {H : Hp} {G : GH} : ∀ {xs : List D} {vs : List V} {bs : List Bool}, RepL K H G xs vs → bools xs = some bs → vs = bs.map V.bl
  | [], _, bs, r, h => by cases h; rw [show _ = _ from r]; rfl
  | x :: xs, _, bs, ⟨v, u, q, a, t⟩, h => by
    cases x with
    | bl b =>
      obtain ⟨cs, h1, rfl⟩ := Option.map_eq_some_iff.mp (show (bools xs).map (b :: ·) = some bs from h)
      rw [q, show v = .bl b from a, bools_V t h1]; rfl
    | _ => cases h
theorem bools_map : ∀ bs : List Bool, bools (bs.map D.bl) = some bs
  | [] => rfl
  | b :: r => by show (bools (r.map D.bl)).map (b :: ·) = _; rw [bools_map r]; rfl
def fAll : FA := fun xs G R => ∃ x ds bs, xs = [x] ∧ asL G x = some ds ∧ bools ds = some bs ∧ R (.bl (bs.all id)) G
def fAny : FA := fun xs G R => ∃ x ds bs, xs = [x] ∧ asL G x = some ds ∧ bools ds = some bs ∧ R (.bl (bs.any id)) G
theorem lift_all {K : PySem.W.Frag} : LiftC K (rAll K) fAll := by
  rintro xs vs H G R Q r g ⟨x, ds, bs, rfl, h1, h2, h3⟩ fe
  obtain ⟨v, rfl, a⟩ := r.one_inv
  obtain ⟨p, ws, rfl, sq, rl⟩ := asL_at a g h1
  exact ⟨p, bs, rfl, by rw [← bools_V rl h2]; exact sq, fe (.bl _) _ G H .refl rfl g h3⟩
theorem lift_any {K : PySem.W.Frag} : LiftC K (rAny K) fAny := by
  rintro xs vs H G R Q r g ⟨x, ds, bs, rfl, h1, h2, h3⟩ fe
  obtain ⟨v, rfl, a⟩ := r.one_inv
  obtain ⟨p, ws, rfl, sq, rl⟩ := asL_at a g h1
  exact ⟨p, bs, rfl, by rw [← bools_V rl h2]; exact sq, fe (.bl _) _ G H .refl rfl g h3⟩
/-- intsD -/
def intsD : List D → Option (List Int)
  | [] => some []
  | .int b :: r => (intsD r).map (b :: ·)
  | _ :: _ => none
theorem ints_V {K : PySem.W.Frag} {H : Hp} {G : GH} : ∀ {xs : List D} {vs : List V} {bs : List Int}, RepL K H G xs vs → intsD xs = some bs → vs = bs.map V.int
  | [], _, bs, r, h => by cases h; rw [show _ = _ from r]; rfl
  | x :: xs, _, bs, ⟨v, u, q, a, t⟩, h => by
    cases x with
    | int b =>
      obtain ⟨cs, h1, rfl⟩ := Option.map_eq_some_iff.mp (show (intsD xs).map (b :: ·) = some bs from h)
      rw [q, show v = .int b from a, ints_V t h1]; rfl
    | _ => cases h
theorem ints_map : ∀ bs : List Int, intsD (bs.map D.int) = some bs
  | [] => rfl
  | b :: r => by show (intsD (r.map D.int)).map (b :: ·) = _; rw [ints_map r]; rfl
def fMax : FA := fun xs G R => match xs with
  | [.int i, .int j] => R (.int (if j > i then j else i)) G
  | [x] => ∃ ds ns, asL G x = some ds ∧ intsD ds = some ns ∧ 0 < ns.length ∧ ∀ m, m ∈ ns → (∀ y, y ∈ ns → y ≤ m) → R (.int m) G
  | _ => False
def rMax3 (K : PySem.W.Frag) : List V → Hp → VK → Prop := fun xs H Q => (∃ i j, xs = [.int i, .int j] ∧ Q (.int (if j > i then j else i)) H) ∨ rMax K xs H Q
theorem call_max3 {X : Cx} (hc : X.calm = true) : CallR X (.builtin "max") (rMax3 X.K) := CallR.or (call_max2 hc) (cr_max hc)
theorem lift_max {K : PySem.W.Frag} : LiftC K (rMax3 K) fMax := by
  intro xs vs H G R Q r g h fe
  unfold fMax at h
  split at h
  · obtain ⟨v, u, e, a, v2, u2, e2, a2, e3⟩ := r
    refine .inl ⟨_, _, ?_, fe (.int _) _ G H .refl rfl g h⟩
    rw [e, e2, e3, show v = _ from a, show v2 = _ from a2]
  · obtain ⟨ds, ns, h1, h2, h3, h4⟩ := h
    obtain ⟨v, rfl, a⟩ := r.one_inv
    obtain ⟨p, ws, rfl, sq, rl⟩ := asL_at a g h1
    exact .inr ⟨p, ns, rfl, by rw [← ints_V rl h2]; exact sq, h3, fun m hm hy => fe (.int _) _ G H .refl rfl g (h4 m hm hy)⟩
  · exact h.elim
def fMin : FA := fun xs G R => match xs with
  | [.int i, .int j] => R (.int (if j < i then j else i)) G
  | _ => False
theorem lift_min {K : PySem.W.Frag} : LiftC K (fun xs H Q => ∃ i j, xs = [.int i, .int j] ∧ Q (.int (if j < i then j else i)) H) fMin := by
  intro xs vs H G R Q r g h fe
  unfold fMin at h
  split at h
  · obtain ⟨v, u, e, a, v2, u2, e2, a2, e3⟩ := r
    refine ⟨_, _, ?_, fe (.int _) _ G H .refl rfl g h⟩
    rw [e, e2, e3, show v = _ from a, show v2 = _ from a2]
  · exact h.elim
def fSum : FA := fun xs G R => ∃ x ds ns, xs = [x] ∧ asL G x = some ds ∧ intsD ds = some ns ∧ R (.int ns.sum) G
theorem lift_sum {K : PySem.W.Frag} : LiftC K (rSum K) fSum := by
  rintro xs vs H G R Q r g ⟨x, ds, bs, rfl, h1, h2, h3⟩ fe
  obtain ⟨v, rfl, a⟩ := r.one_inv
  obtain ⟨p, ws, rfl, sq, rl⟩ := asL_at a g h1
  exact ⟨p, bs, rfl, by rw [← ints_V rl h2]; exact sq, fe (.int _) _ G H .refl rfl g h3⟩
def fSorted : FA := fun xs G R => ∃ x ds ns, xs = [x] ∧ asL G x = some ds ∧ intsD ds = some ns ∧ ∀ ns' : List Int, ns'.Perm ns → ns'.Pairwise (· ≤ ·) → R (.lst (ns'.map D.int)) G
theorem lift_sorted {K : PySem.W.Frag} : LiftC K (rSortedI K) fSorted := by
  rintro xs vs H G R Q r g ⟨x, ds, bs, rfl, h1, h2, h3⟩ fe
  obtain ⟨v, rfl, a⟩ := r.one_inv
  obtain ⟨p, ws, rfl, sq, rl⟩ := asL_at a g h1
  refine ⟨p, bs, rfl, by rw [← ints_V rl h2]; exact sq, fun ns' q p1 p2 hq => ?_⟩
  exact fin_lst (RepL.ints) g fe (h3 ns' p1 p2) q hq
end L3

set_option Elab.async false
set_option linter.all false
set_option maxRecDepth 100000
namespace L3
open PySem PySem.Spec L2
open PyProof.Rows hiding St

/-! ### statements -/
def wSeq (a b : S3) : S3 := fun E env G => a { E with nx := fun env' G' => b E env' G' } env G
def wNext : S3 := fun E env G => E.nx env G
def wRet (w : W3) : S3 := fun E env G => w env G E.rt E.ex
def wRetN : S3 := fun E _ G => E.rt .non G
def wExpr (w : W3) : S3 := fun E env G => w env G (fun _ G1 => E.nx env G1) E.ex
def wIfS (t : T3) (a b : S3) : S3 := fun E env G => t env G (fun c G1 => if c = true then a E env G1 else b E env G1) E.ex
def wSet (i : Nat) (w : W3) : S3 := fun E env G => w env G (fun d G1 => E.nx (env.set i (some d)) G1) E.ex
def wBrk : S3 := fun E env G => E.bk env G
def wCnt : S3 := fun E env G => E.ct env G
section
variable {K : PySem.W.Frag} {W : WX} {Q : Ends} {σ : St} {H : Hp}
theorem upS_go {env : Env3} {G : GH} {E : E3} {w : S3} (re : REnv K H G env σ) (rg : RG K H G) (h : w E env G) (f : FinS K W H G E Q) : upS K W w Q σ H := ⟨env, G, E, re, rg, h, f⟩
variable {X : Cx} {st : Stmt} {rest : List Stmt} {a b : S3} {e : Expr} {w : W3} {pos : Pos}
theorem s_nil : PSs X [] (upS X.K W wNext) := PSs.imp pss_nil fun D σ H ⟨env, G, E, re, rg, h, f⟩ => f.nx env σ G H .refl re rg h
theorem s_cons (h1 : PS X st (upS X.K W a)) (h2 : PSs X rest (upS X.K W b)) : PSs X (st :: rest) (upS X.K W (wSeq a b)) := PSs.imp (pss_cons h1 h2) fun D σ H ⟨env, G, E, re, rg, h, f⟩ => by
  refine upS_go re rg h ⟨fun env' σ' G' H' e' re' rg' h' => ?_, f.rt, f.bk, f.ct, f.ex⟩
  exact upS_go re' rg' h' (f.ext e')
theorem s_one (h1 : PS X st (upS X.K W a)) : PSs X [st] (upS X.K W a) := pss_one h1
theorem s_pass : PS X (.Pass pos) (upS X.K W wNext) := PS.imp ps_pass fun D σ H ⟨env, G, E, re, rg, h, f⟩ => f.nx env σ G H .refl re rg h
theorem s_break : PS X (.Break pos) (upS X.K W wBrk) := PS.imp ps_break fun D σ H ⟨env, G, E, re, rg, h, f⟩ => f.bk env σ G H .refl re rg h
theorem s_continue : PS X (.Continue pos) (upS X.K W wCnt) := PS.imp ps_continue fun D σ H ⟨env, G, E, re, rg, h, f⟩ => f.ct env σ G H .refl re rg h
theorem s_ret (he : PE X e (up X.K W w)) : PS X (.Return (some e) pos) (upS X.K W (wRet w)) := PS.imp (ps_ret he) fun D σ H ⟨env, G, E, re, rg, h, f⟩ => up_go re rg h f.ex f.rt
theorem s_retN : PS X (.Return none pos) (upS X.K W wRetN) := PS.imp ps_retN fun D σ H ⟨env, G, E, re, rg, h, f⟩ => f.rt .non _ G H .refl rfl rg h
theorem s_expr (he : PE X e (up X.K W w)) (hs : swapsWith e none pos.line X.env = pure false := by rfl) : PS X (.Expr e pos) (upS X.K W (wExpr w)) := PS.imp (ps_expr he hs) fun D σ H ⟨env, G, E, re, rg, h, f⟩ =>
  up_go re rg h f.ex fun d v G1 H1 e1 rd rg1 h1 => f.nx env σ G1 H1 e1 (re.ext e1) rg1 h1
theorem s_if {c : Expr} {ba bb : List Stmt} {t : T3} (hc : PT X c (upT X.K W t)) (ha : PSs X ba (upS X.K W a)) (hb : PSs X bb (upS X.K W b)) : PS X (.If c ba bb pos) (upS X.K W (wIfS t a b)) := PS.imp (ps_if hc ha hb) fun D σ H ⟨env, G, E, re, rg, h, f⟩ =>
  upT_go re rg h f.ex fun c G1 H1 e1 rg1 h1 => by
    cases c with
    | true => exact upS_go (re.ext e1) rg1 h1 (f.ext e1)
    | false => exact upS_go (re.ext e1) rg1 h1 (f.ext e1)
theorem s_set (i : Nat) {x : Str} {pos' : Pos} (hN : X.N.Nodup) (hi : X.N[i]? = some x) (hx : Loc X.env.scope x) (hf : X.fn x = true) (he : PE X e (up X.K W w)) (hs : swapsWith e (some (.Name x pos')) pos.line X.env = pure false := by rfl) :
    PS X (.Assign [.Name x pos'] e pos) (upS X.K W (wSet i w)) := PS.imp (ps_set hN hi hx he hs (.inl hf)) fun D σ H ⟨env, G, E, re, rg, h, f⟩ =>
  up_go re rg h f.ex fun d v G1 H1 e1 rd rg1 h1 => f.nx _ _ G1 H1 e1 ((re.ext e1).set rd i) rg1 h1
end

/-! ### targets -/
abbrev G3 := D → Env3 → GH → (Env3 → GH → Prop) → Prop
abbrev Gs3 := List D → Env3 → GH → (Env3 → GH → Prop) → Prop
/-- σ' is σ but for the slots js -/
def But (js : List Nat) (σ σ' : St) : Prop := σ'.length = σ.length ∧ ∀ i, i ∉ js → σ'[i]? = σ[i]?
theorem But.refl {js : List Nat} {σ : St} : But js σ σ := ⟨rfl, fun _ _ => rfl⟩
theorem But.trans {js ks : List Nat} {σ σ' σ2 : St} (a : But js σ σ') (b : But ks σ' σ2) : But (js ++ ks) σ σ2 := ⟨b.1.trans a.1, fun i h => by
  rw [List.mem_append, not_or] at h
  exact (b.2 i h.2).trans (a.2 i h.1)⟩
def upG (K : PySem.W.Frag) (js : List Nat) (g : G3) : TG := fun v σ H Q => ∃ d env G R, Rep K H G d v ∧ REnv K H G env σ ∧ RG K H G ∧ g d env G R ∧
  ∀ env' σ' G' H', But js σ σ' → Ext G H G' H' → REnv K H' G' env' σ' → RG K H' G' → R env' G' → Q σ' H'
def upGs (K : PySem.W.Frag) (js : List Nat) (g : Gs3) : TGs := fun vs σ H Q => ∃ ds env G R, RepL K H G ds vs ∧ REnv K H G env σ ∧ RG K H G ∧ g ds env G R ∧
  ∀ env' σ' G' H', But js σ σ' → Ext G H G' H' → REnv K H' G' env' σ' → RG K H' G' → R env' G' → Q σ' H'
def gN (i : Nat) : G3 := fun d env G R => R (env.set i (some d)) G
def gsN : Gs3 := fun ds env G R => ds = [] ∧ R env G
def gsC (g : G3) (r : Gs3) : Gs3 := fun ds env G R => match ds with
  | d :: t => g d env G fun env' G' => r t env' G' R
  | [] => False
def gT (n : Nat) (r : Gs3) : G3 := fun d env G R => ∃ ds, asT d = some ds ∧ ds.length = n ∧ r ds env G R
section
variable {X : Cx} {pos : Pos} {js ks : List Nat}
theorem PG.imp {e : Expr} {t t' : TG} (h : PG X e t) (f : ∀ v σ H Q, t' v σ H Q → t v σ H Q) : PG X e t' := ⟨fun pins s σ H v u Q I r q => h.run pins s σ H v u Q I r (f _ _ _ _ q)⟩
theorem PGs.imp {e : List Expr} {t t' : TGs} (h : PGs X e t) (f : ∀ v σ H Q, t' v σ H Q → t v σ H Q) : PGs X e t' := ⟨fun pins s σ H v u Q I r q => h.run pins s σ H v u Q I r (f _ _ _ _ q)⟩
theorem g_name (i : Nat) {x : Str} (hN : X.N.Nodup) (hi : X.N[i]? = some x) (hx : Loc X.env.scope x) (hf : X.fn x = true ∨ X.env.scope.names.lookup x = some .local := by first | exact .inl rfl | exact .inr rfl) : PG X (.Name x pos) (upG X.K [i] (gN i)) :=
  PG.imp (pg_name hN hi hx hf) fun v σ H Q ⟨d, env, G, R, rd, re, rg, h, f⟩ => f _ _ G H ⟨List.length_set, fun j hj => List.getElem?_set_ne (fun e => hj (by simp [e]))⟩ .refl (re.set rd i) rg h
theorem gs_nil : PGs X [] (upGs X.K [] gsN) := PGs.imp pgs_nil fun v σ H Q ⟨ds, env, G, R, rd, re, rg, ⟨h1, h⟩, f⟩ => by
  subst h1
  exact ⟨rd, f _ _ G H .refl .refl re rg h⟩
theorem gs_cons {e : Expr} {es : List Expr} {g : G3} {r : Gs3} (h1 : PG X e (upG X.K js g)) (h2 : PGs X es (upGs X.K ks r)) (hs : (assignEach (e :: es) X.env).map (·.2) = assign e X.env :: (assignEach es X.env).map (·.2) := by rfl) :
    PGs X (e :: es) (upGs X.K (js ++ ks) (gsC g r)) := PGs.imp (pgs_cons h1 h2 hs) fun v σ H Q ⟨ds, env, G, R, rd, re, rg, h, f⟩ => by
  match ds, rd, h with
  | d :: t, ⟨v, u, q, a, b⟩, h =>
    refine ⟨v, u, q, d, env, G, _, a, re, rg, h, fun env' σ' G' H' n e1 re1 rg1 h1 => ?_⟩
    exact ⟨t, env', G', R, RepL.ext e1 t b, re1, rg1, h1, fun env2 σ2 G2 H2 n2 e2 re2 rg2 h2 => f env2 σ2 G2 H2 (n.trans n2) (e1.trans e2) re2 rg2 h2⟩
theorem g_tup {es : List Expr} {k n : Nat} {r : Gs3} (hc : X.calm = true) (h : PGs X es (upGs X.K js r)) (hn : (assignEach es X.env).length = n := by rfl) (hst : (assignEach es X.env).findIdx? (·.1) = none := by rfl) :
    PG X (.Tuple es k pos) (upG X.K js (gT n r)) := PG.imp (pg_tup hc h hn hst) fun v σ H Q ⟨d, env, G, R, rd, re, rg, ⟨ds, h1, h2, h3⟩, f⟩ => by
  obtain ⟨a, vs, e1, sq, rl⟩ := asT_at rd h1
  exact ⟨a, vs, e1, sq, rl.length.trans h2, ds, env, G, R, rl, re, rg, h3, f⟩
/-- target = e -/
def wAsg (w : W3) (g : G3) : S3 := fun E env G => w env G (fun d G1 => g d env G1 E.nx) E.ex
variable {W : WX} {e tg : Expr} {w : W3}
theorem s_asg {g : G3} (he : PE X e (up X.K W w)) (hg : PG X tg (upG X.K js g)) (hs : swapsWithSole [tg] e pos.line X.env = pure false := by rfl) (hw : swappedStores [tg] e X.env = pure none := by rfl)
    (h1 : (assignEach [tg] X.env).map (·.2) = [assign tg X.env] := by rfl) : PS X (.Assign [tg] e pos) (upS X.K W (wAsg w g)) := PS.imp (ps_asg he hg hs hw h1) fun D σ H ⟨env, G, E, re, rg, h, f⟩ =>
  up_go re rg h f.ex fun d v G1 H1 e1 rd rg1 h1 => ⟨d, env, G1, _, rd, re.ext e1, rg1, h1, fun env' σ' G' H' _ e2 re2 rg2 h2 => f.nx env' σ' G' H' (e1.trans e2) re2 rg2 h2⟩
/-- a, b = x, y -/
def wPar (i j : Nat) (ar : A3) : S3 := fun E env G => ar env G (fun ds G1 => match ds with
  | [x, y] => E.nx ((env.set i (some x)).set j (some y)) G1
  | _ => False) E.ex
theorem s_par (i j : Nat) {x y : Str} {a b : Expr} {ar : A3} {px py pt : Pos} {kt k2 pt2} (hc : X.calm = true) (hN : X.N.Nodup) (hi : X.N[i]? = some x) (hj : X.N[j]? = some y) (hij : i ≠ j)
    (hx : X.env.scope.names.lookup x = some .local) (hy : X.env.scope.names.lookup y = some .local) (ha : PA X [a, b] (upA X.K W ar))
    (hw : swappedStores [.Tuple [.Name x px, .Name y py] kt pt] (.Tuple [a, b] k2 pt2) X.env = pure (some [x, y]))
    (hs : swapsWithSole [.Tuple [.Name x px, .Name y py] kt pt] (.Tuple [a, b] k2 pt2) pos.line X.env = pure false := by rfl) :
    PS X (.Assign [.Tuple [.Name x px, .Name y py] kt pt] (.Tuple [a, b] k2 pt2) pos) (upS X.K W (wPar i j ar)) := PS.imp (ps_par hc hN hi hj hij hx hy ha hw hs) fun D σ H ⟨env, G, E, re, rg, h, f⟩ =>
  upA_go re rg h f.ex fun ds vs G1 H1 e1 rd rg1 h1 => by
    match ds, rd, h1 with
    | [x, y], ⟨v, r1, q1, a1, v2, r2, q2, a2, q3⟩, h1 =>
      have q3 : r2 = [] := q3
      subst q3 q2 q1
      exact ⟨v, v2, rfl, f.nx _ _ G1 H1 e1 (((re.ext e1).set a1 i).set a2 j) rg1 h1⟩
/-- name op= e -/
def wAug (i : Nat) (w : W3) (fo : F2) : S3 := fun E env G => ∃ x, at3 env i = some x ∧ w env G (fun y G1 => fo x y G1 fun z G2 => E.nx (env.set i (some z)) G2) E.ex
theorem s_aug (i : Nat) {x : Str} {op : Operator} {ti : TIp} {fo : F2} {pos' : Pos} (hN : X.N.Nodup) (hi : X.N[i]? = some x) (hx : Loc X.env.scope x) (hf : X.fn x = true) (he : PE X e (up X.K W w)) (ho : PIp X op ti) (hl : Lift2 X.K ti fo) :
    PS X (.AugAssign (.Name x pos') op e pos) (upS X.K W (wAug i w fo)) := PS.imp (ps_aug hN hi hx he ho (.inl hf)) fun D σ H ⟨env, G, E, re, rg, ⟨d, h1, h⟩, f⟩ => by
  obtain ⟨v, e1, rv⟩ := re.get h1
  refine ⟨v, e1, up_go re rg h f.ex fun y b G1 H1 x1 ry rg1 q1 => ?_⟩
  refine hl d y v b H1 G1 _ _ (rv.ext x1) ry rg1 q1 fun z c G2 H2 x2 rz rg2 q2 => ?_
  exact f.nx _ _ G2 H2 (x1.trans x2) (((re.ext x1).ext x2).set rz i) rg2 q2
/-- o[i] = v -/
def setI3 (o : D) (i v : D) (G : GH) (R : GH → Prop) : Prop := match o, i with
  | .ref p, .int k => ∃ xs j, G p = some (.lst xs) ∧ L2.ixN xs.length k = some j ∧ R (gset G p (.lst (xs.set j v)))
  | _, _ => False
def gSb (o i : W3) : G3 := fun d env G R => o env G (fun x G1 => i env G1 (fun k G2 => setI3 x k d G2 fun G3 => R env G3) (fun _ _ _ _ => False)) (fun _ _ _ _ => False)
theorem g_sub {o i : Expr} {wo wi : W3} (ho : PE X o (up X.K (fun _ _ _ _ => False) wo)) (hi : PE X i (up X.K (fun _ _ _ _ => False) wi))
    (ha : ∀ v, assign (.Subscript o i pos) X.env v = (holding [v] (eval o X.env) >>= fun ov => holding [v, ov] (eval i X.env) >>= fun iv => standAt pos >>= fun _ => holding [v, ov, iv] (setItem ov iv v) >>= fun _ => release [v, ov, iv] []) := by intro _; rfl) :
    PG X (.Subscript o i pos) (upG X.K [] (gSb wo wi)) := PG.imp (pg_sub ho hi set_list ha) fun v σ H Q ⟨d, env, G, R, rd, re, rg, h, f⟩ => by
  have nox : ∀ {H : Hp} {G : GH}, FinX X.K (fun _ _ _ _ => False) H G (fun _ _ _ _ => False) := fun {H G} _ _ _ _ _ _ _ _ _ _ _ z => z.elim
  refine up_go re rg h nox fun x a G1 H1 e1 rx rg1 h1 => ?_
  refine up_go (re.ext e1) rg1 h1 nox fun k b G2 H2 e2 rk rg2 h2 => ?_
  have rx2 := rx.ext e2
  cases x <;> cases k <;> simp only [setI3] at h2
  rename_i p kk
  obtain ⟨xs, j, g1, g2, g3⟩ := h2
  obtain rfl : a = V.ref p := rx2
  obtain rfl : b = V.int kk := rk
  obtain ⟨vs, k1, rl⟩ := rg2 p _ g1
  have e12 := e1.trans e2
  have ew : Ext G2 H2 (gset G2 p (.lst (xs.set j d))) (upd H2 p (.lst (vs.set j v))) := .write g1
  refine ⟨p, vs, kk, j, rfl, rfl, k1, by rw [rl.length]; exact g2, ?_⟩
  refine f env σ _ _ .refl (e12.trans ew) ((re.ext e12).ext ew) ?_ g3
  exact rg2.write (go := .lst (xs.set j d)) g1 ⟨vs.set j v, upd_same, RepL.ext ew _ ((rl.set (rd.ext e12)) j)⟩
end
end L3

set_option Elab.async false
set_option linter.all false
set_option maxRecDepth 100000
namespace L3
open PySem PySem.Spec L2
open PyProof.Rows hiding St
open RZ

/-! ### what is walked -/
structure ItD (K : PySem.W.Frag) (J : It) (ds : List D) (st : GH → Prop) (G0 : GH) (H0 : Hp) : Prop where
  go : ∀ i G H, Ext G0 H0 G H → RG K H G → st G → i < ds.length → J.go i H
  stop : ∀ G H, Ext G0 H0 G H → RG K H G → st G → J.stop ds.length H
  yld : ∀ i G H x H', Ext G0 H0 G H → RG K H G → st G → i < ds.length → J.yld i H x H' → ∃ d, ds[i]? = some d ∧ Ext G H G H' ∧ Rep K H' G d x ∧ RG K H' G
abbrev I3 := Env3 → GH → (List D → (GH → Prop) → GH → Prop) → X3 → Prop
def upI (K : PySem.W.Frag) (W : WX) (wi : I3) : TI := fun σ H R => ∃ env G R3 Ex, REnv K H G env σ ∧ RG K H G ∧ wi env G R3 Ex ∧ FinX K W H G Ex ∧
  ∀ J H1 G1 ds st, Ext G H G1 H1 → RG K H1 G1 → ItD K J ds st G1 H1 → R3 ds st G1 → R J H1
/-- how a list stays while it is walked -/
def stL (x : D) (ds : List D) : GH → Prop := fun G => match x with
  | .ref p => G p = some (.lst ds)
  | _ => True
/-- a list, a tuple, walked -/
def iSeq (w : W3) : I3 := fun env G R Ex => w env G (fun x G1 => match x with
  | .tup ds => R ds (fun _ => True) G1
  | x => ∃ ds, asL G1 x = some ds ∧ R ds (stL x ds) G1) Ex
section
variable {K : PySem.W.Frag} {G : GH} {H : Hp}
theorem RepL.getV {ds : List D} {vs : List V} {i : Nat} {v : V} (r : RepL K H G ds vs) (h : vs[i]? = some v) : ∃ d, ds[i]? = some d ∧ Rep K H G d v := by
  have hi : i < ds.length := by rw [← r.length]; exact (List.getElem?_eq_some_iff.mp h).1
  obtain ⟨u, h1, h2⟩ := r.get (List.getElem?_eq_getElem hi)
  rw [h] at h1
  cases h1
  exact ⟨_, List.getElem?_eq_getElem hi, h2⟩
theorem itd_tup {a : Addr} {ds : List D} {vs : List V} (k : TuO K H G a vs) (rl : RepL K H G ds vs) : ItD K (Itt K a) ds (fun _ => True) G H where
  go := fun i G' H' e g _ hi => ⟨vs, _, (k.ext e).sq, List.getElem?_eq_getElem (by rw [rl.length]; exact hi)⟩
  stop := fun G' H' e g _ => ⟨vs, (k.ext e).sq, Nat.le_of_eq rl.length⟩
  yld := fun i G' H' x H2 e g _ hi ⟨e1, h⟩ => by
    subst e1
    obtain ⟨d, h1, h2⟩ := (RepL.ext e ds rl).getV (h vs (k.ext e).sq)
    exact ⟨d, h1, .refl, h2, g⟩
theorem list_stays {x : D} {v : V} {ds : List D} {G' : GH} {H' : Hp} (r : Rep K H G x v) (g : RG K H G) (h : asL G x = some ds) (e : Ext G H G' H') (g' : RG K H' G') (st : stL x ds G') : asL G' x = some ds := by
  cases x with
  | ref p =>
    have st' : G' p = some (.lst ds) := st
    simp only [asL]
    rw [st']
  | _ => exact h
theorem itd_list {x : D} {a : Addr} {ds : List D} (r : Rep K H G x (.ref a)) (g : RG K H G) (h : asL G x = some ds) : ItD K (Itl K a) ds (stL x ds) G H where
  go := fun i G' H' e g' st hi => by
    obtain ⟨p, vs, q, sq, rl⟩ := asL_at (r.ext e) g' (list_stays r g h e g' st)
    cases q
    exact ⟨vs, _, sq, List.getElem?_eq_getElem (by rw [rl.length]; exact hi)⟩
  stop := fun G' H' e g' st => by
    obtain ⟨p, vs, q, sq, rl⟩ := asL_at (r.ext e) g' (list_stays r g h e g' st)
    cases q
    exact ⟨vs, sq, Nat.le_of_eq rl.length⟩
  yld := fun i G' H' x H2 e g' st hi ⟨e1, hy⟩ => by
    subst e1
    obtain ⟨p, vs, q, sq, rl⟩ := asL_at (r.ext e) g' (list_stays r g h e g' st)
    cases q
    obtain ⟨d, h1, h2⟩ := rl.getV (hy vs sq)
    exact ⟨d, h1, .refl, h2, g'⟩
theorem itd_range {lo : Int} {n : Nat} : ItD K (Itr lo n) ((List.range n).map fun i : Nat => D.int (lo + i)) (fun _ => True) G H where
  go := fun i G' H' e g' st hi => by simpa [Itr] using hi
  stop := fun G' H' e g' st => by simp [Itr]
  yld := fun i G' H' x H2 e g' st hi ⟨e1, hy⟩ => by
    subst e1 hy
    rw [List.length_map, List.length_range] at hi
    exact ⟨.int (lo + i), by simp [hi], .refl, rfl, g'⟩
theorem itd_str {x : Str} : ItD K (Its x) (x.cps.toList.map fun c => D.str ⟨#[c]⟩) (fun _ => True) G H where
  go := fun i G' H' e g' st hi => by simpa [Its] using hi
  stop := fun G' H' e g' st => by simp [Its]
  yld := fun i G' H' v H2 e g' st hi ⟨e1, c, hc, hy⟩ => by
    subst e1 hy
    exact ⟨.str ⟨#[c]⟩, by rw [List.getElem?_map, Array.getElem?_toList, hc]; rfl, .refl, rfl, g'⟩
def zipD (xs ys : List D) : List D := List.zipWith (fun a b => D.tup [a, b]) xs ys
theorem zip_get {xs ys : List D} {i : Nat} {a b : D} (h1 : xs[i]? = some a) (h2 : ys[i]? = some b) : (zipD xs ys)[i]? = some (.tup [a, b]) := by
  unfold zipD; rw [List.getElem?_zipWith, h1, h2]
theorem pair_alloc {x y : D} {a b : V} {T : Addr} (r1 : Rep K H G x a) (r2 : Rep K H G y b) (g : RG K H G) (hT : H T = none) :
    Ext G H G (upd H T (.tup [a, b])) ∧ Rep K (upd H T (.tup [a, b])) G (.tup [x, y]) (.ref T) ∧ RG K (upd H T (.tup [a, b])) G :=
  have e : Ext G H G (upd H T (.tup [a, b])) := .alloc hT (g.fresh hT)
  ⟨e, ⟨T, [a, b], rfl, .inl ⟨g.fresh hT, .inl upd_same⟩, .cons (r1.ext e) (.cons (r2.ext e) .nil)⟩, g.alloc hT⟩
theorem itd_zip {x y : D} {a b : Addr} {xs ys : List D} (r : Rep K H G x (.ref a)) (s : Rep K H G y (.ref b)) (g : RG K H G) (h : asL G x = some xs) (k : asL G y = some ys) : ItD K (Itz K a b) (zipD xs ys) (fun G => stL x xs G ∧ stL y ys G) G H where
  go := fun i G' H' e g' st hi => by
    obtain ⟨p, vs, q, sq, rl⟩ := asL_at (r.ext e) g' (list_stays r g h e g' st.1)
    cases q
    obtain ⟨p, us, q, sq2, rl2⟩ := asL_at (s.ext e) g' (list_stays s g k e g' st.2)
    cases q
    unfold zipD at hi
    rw [List.length_zipWith] at hi
    exact ⟨vs, us, _, _, sq, sq2, List.getElem?_eq_getElem (by rw [rl.length]; omega), List.getElem?_eq_getElem (by rw [rl2.length]; omega)⟩
  stop := fun G' H' e g' st => by
    obtain ⟨p, vs, q, sq, rl⟩ := asL_at (r.ext e) g' (list_stays r g h e g' st.1)
    cases q
    obtain ⟨p, us, q, sq2, rl2⟩ := asL_at (s.ext e) g' (list_stays s g k e g' st.2)
    cases q
    refine ⟨vs, us, sq, sq2, ?_⟩
    unfold zipD
    rw [List.length_zipWith, rl.length, rl2.length]
    omega
  yld := fun i G' H' v H2 e g' st hi ⟨T, x1, y1, e1, hT, e2, hx, hy⟩ => by
    subst e1 e2
    obtain ⟨p, vs, q, sq, rl⟩ := asL_at (r.ext e) g' (list_stays r g h e g' st.1)
    cases q
    obtain ⟨p, us, q, sq2, rl2⟩ := asL_at (s.ext e) g' (list_stays s g k e g' st.2)
    cases q
    obtain ⟨d1, h1, w1⟩ := rl.getV (hx vs sq)
    obtain ⟨d2, h2, w2⟩ := rl2.getV (hy us sq2)
    exact ⟨.tup [d1, d2], zip_get h1 h2, pair_alloc w1 w2 g' hT⟩
theorem itd_zipT {a b : Addr} {xs ys : List D} {vs us : List V} (k : TuO K H G a vs) (rl : RepL K H G xs vs) (k2 : TuO K H G b us) (rl2 : RepL K H G ys us) : ItD K (ItzT K a b) (zipD xs ys) (fun _ => True) G H where
  go := fun i G' H' e g' st hi => by
    unfold zipD at hi
    rw [List.length_zipWith] at hi
    exact ⟨vs, us, _, _, (k.ext e).sq, (k2.ext e).sq, List.getElem?_eq_getElem (by rw [rl.length]; omega), List.getElem?_eq_getElem (by rw [rl2.length]; omega)⟩
  stop := fun G' H' e g' st => by
    refine ⟨vs, us, (k.ext e).sq, (k2.ext e).sq, ?_⟩
    unfold zipD
    rw [List.length_zipWith, rl.length, rl2.length]
    omega
  yld := fun i G' H' v H2 e g' st hi ⟨T, x1, y1, e1, hT, e2, hx, hy⟩ => by
    subst e1 e2
    obtain ⟨d1, h1, w1⟩ := (RepL.ext e xs rl).getV (hx vs (k.ext e).sq)
    obtain ⟨d2, h2, w2⟩ := (RepL.ext e ys rl2).getV (hy us (k2.ext e).sq)
    exact ⟨.tup [d1, d2], zip_get h1 h2, pair_alloc w1 w2 g' hT⟩
def enumD (xs : List D) : List D := xs.zipIdx.map fun p => .tup [.int p.2, p.1]
theorem itd_enum {x : D} {a : Addr} {ds : List D} (r : Rep K H G x (.ref a)) (g : RG K H G) (h : asL G x = some ds) : ItD K (Ite K a) (enumD ds) (stL x ds) G H where
  go := fun i G' H' e g' st hi => by
    obtain ⟨p, vs, q, sq, rl⟩ := asL_at (r.ext e) g' (list_stays r g h e g' st)
    cases q
    unfold enumD at hi
    rw [List.length_map, List.length_zipIdx] at hi
    exact ⟨vs, _, sq, List.getElem?_eq_getElem (by rw [rl.length]; exact hi)⟩
  stop := fun G' H' e g' st => by
    obtain ⟨p, vs, q, sq, rl⟩ := asL_at (r.ext e) g' (list_stays r g h e g' st)
    cases q
    refine ⟨vs, sq, ?_⟩
    unfold enumD
    rw [List.length_map, List.length_zipIdx]
    exact Nat.le_of_eq rl.length
  yld := fun i G' H' v H2 e g' st hi ⟨T, y, e1, hT, e2, hy⟩ => by
    subst e1 e2
    obtain ⟨p, vs, q, sq, rl⟩ := asL_at (r.ext e) g' (list_stays r g h e g' st)
    cases q
    obtain ⟨d, h1, h2⟩ := rl.getV (hy vs sq)
    refine ⟨.tup [.int i, d], ?_, pair_alloc (x := .int (i : Nat)) rfl h2 g' hT⟩
    unfold enumD
    rw [List.getElem?_map, List.getElem?_zipIdx, h1]
    simp
end
section
variable {X : Cx} {W : WX} {tg l : Expr} {w w2 : W3} {p pos tpos : Pos}
theorem PI.imp {tg e : Expr} {t t' : TI} (h : PI X tg e t) (f : ∀ σ H R, t' σ H R → t σ H R) : PI X tg e t' := ⟨fun pins s σ H R I q => h.run pins s σ H R I (f _ _ _ q)⟩
/-- a list walked; a tuple walked -/
def iLst (w : W3) : I3 := fun env G R Ex => w env G (fun x G1 => ∃ ds, asL G1 x = some ds ∧ R ds (stL x ds) G1) Ex
def iTpl (w : W3) : I3 := fun env G R Ex => w env G (fun x G1 => ∃ ds, asT x = some ds ∧ R ds (fun _ => True) G1) Ex
theorem i_lst (hl : PE X l (up X.K W w)) : PI X tg l (upI X.K W (iLst w)) := PI.imp (pi_list hl) fun σ H R ⟨env, G, R3, Ex, re, rg, h, fx, f⟩ => by
  refine up_go re rg h fx fun x v G1 H1 e1 rx rg1 ⟨ds, h1, h2⟩ => ?_
  obtain ⟨a, vs, rfl, sq, rl⟩ := asL_at rx rg1 h1
  exact ⟨a, rfl, ⟨vs, sq⟩, f _ H1 G1 ds _ e1 rg1 (itd_list rx rg1 h1) h2⟩
theorem i_tpl (hl : PE X l (up X.K W w)) : PI X tg l (upI X.K W (iTpl w)) := PI.imp (pi_tup hl) fun σ H R ⟨env, G, R3, Ex, re, rg, h, fx, f⟩ => by
  refine up_go re rg h fx fun x v G1 H1 e1 rx rg1 ⟨ds, h1, h2⟩ => ?_
  cases x <;> simp only [asT] at h1 <;> try cases h1
  obtain ⟨a, vs, rfl, k, rl⟩ := rx
  exact ⟨a, rfl, ⟨vs, k.sq⟩, f _ H1 G1 ds _ e1 rg1 (itd_tup k rl) h2⟩
def iRg1 (w : W3) : I3 := fun env G R Ex => w env G (fun x G1 => ∃ j : Int, x = .int j ∧ -(2 ^ 62) ≤ j ∧ j < 2 ^ 62 ∧ R ((List.range j.toNat).map fun i : Nat => D.int (0 + i)) (fun _ => True) G1) Ex
theorem i_rg1 {a : Expr} (hm : X.mg "range" = none) (ha : PE X a (up X.K W w)) (hg : Gl X "range" := by rfl) (hs : starEach [a] X.env = [(false, eval a X.env)] := by rfl) : PI X tg (.Call (.Name "range" p) [a] [] pos) (upI X.K W (iRg1 w)) :=
  PI.imp (pi_range1 hg hm (pa_cons ha pa_nil hs) hs) fun σ H R ⟨env, G, R3, Ex, re, rg, h, fx, f⟩ => by
    refine up_go re rg h fx fun x v G1 H1 e1 rx rg1 ⟨j, h1, h2, h3, h4⟩ => ?_
    subst h1
    obtain rfl : v = V.int j := rx
    exact ⟨j, rfl, h2, h3, f _ H1 G1 _ _ e1 rg1 itd_range h4⟩
def iRg2 (w w2 : W3) : I3 := fun env G R Ex => w env G (fun x G1 => w2 env G1 (fun y G2 => ∃ i j : Int, x = .int i ∧ y = .int j ∧ (-(2 ^ 62) ≤ i ∧ i < 2 ^ 62 ∧ -(2 ^ 62) ≤ j ∧ j < 2 ^ 62) ∧ R ((List.range (j - i).toNat).map fun k : Nat => D.int (i + k)) (fun _ => True) G2) Ex) Ex
theorem i_rg2 {a b : Expr} (hm : X.mg "range" = none) (ha : PE X a (up X.K W w)) (hb : PE X b (up X.K W w2)) (hg : Gl X "range" := by rfl) (hs : starEach [a, b] X.env = [(false, eval a X.env), (false, eval b X.env)] := by rfl) (hs2 : starEach [b] X.env = [(false, eval b X.env)] := by rfl) :
    PI X tg (.Call (.Name "range" p) [a, b] [] pos) (upI X.K W (iRg2 w w2)) :=
  PI.imp (pi_range2 hg hm (pa_cons ha (pa_cons hb pa_nil hs2) (by rw [hs, hs2])) hs hs2) fun σ H R ⟨env, G, R3, Ex, re, rg, h, fx, f⟩ => by
    refine up_go re rg h fx fun x v G1 H1 e1 rx rg1 h1 => ?_
    refine up_go (re.ext e1) rg1 h1 (fx.ext e1) fun y u G2 H2 e2 ry rg2 ⟨i, j, q1, q2, q3, q4⟩ => ?_
    subst q1 q2
    obtain rfl : v = V.int i := rx
    obtain rfl : u = V.int j := ry
    exact ⟨i, j, rfl, q3, f _ H2 G2 _ _ (e1.trans e2) rg2 itd_range q4⟩
def iStr3 (w : W3) : I3 := fun env G R Ex => w env G (fun x G1 => ∃ z, x = .str z ∧ R (z.cps.toList.map fun c => D.str ⟨#[c]⟩) (fun _ => True) G1) Ex
theorem i_str (hl : PE X l (up X.K W w)) : PI X tg l (upI X.K W (iStr3 w)) := PI.imp (pi_str hl) fun σ H R ⟨env, G, R3, Ex, re, rg, h, fx, f⟩ => by
  refine up_go re rg h fx fun x v G1 H1 e1 rx rg1 ⟨z, h1, h2⟩ => ?_
  subst h1
  obtain rfl : v = V.str z := rx
  exact ⟨z, rfl, f _ H1 G1 _ _ e1 rg1 itd_str h2⟩
/-- zip of two lists or of two tuples -/
def iZp (w w2 : W3) : I3 := fun env G R Ex => w env G (fun x G1 => w2 env G1 (fun y G2 => (∃ xs ys, asT x = some xs ∧ asT y = some ys ∧ R (zipD xs ys) (fun _ => True) G2) ∨
  (∃ xs ys, asL G2 x = some xs ∧ asL G2 y = some ys ∧ R (zipD xs ys) (fun G => stL x xs G ∧ stL y ys G) G2)) Ex) Ex
theorem i_zip {a b : Expr} {elts : List Expr} {kk : Nat} (hm : X.mg "zip" = none) (ha : PE X a (up X.K W w)) (hb : PE X b (up X.K W w2)) (hg : Gl X "zip" := by rfl) (hs : starEach [a, b] X.env = (false, eval a X.env) :: starEach [b] X.env := by rfl)
    (hs2 : starEach [b] X.env = (false, eval b X.env) :: starEach [] X.env := by rfl) (hpl : (backTo pos (starEach [b] X.env)).any (·.1) = false := by rfl) : PI X (.Tuple elts kk tpos) (.Call (.Name "zip" p) [a, b] [] pos) (upI X.K W (iZp w w2)) :=
  PI.imp (pi_zipA hg hm (pa_cons ha (pa_cons hb pa_nil hs2) hs) hs hpl) fun σ H R ⟨env, G, R3, Ex, re, rg, h, fx, f⟩ => by
    refine up_go re rg h fx fun x v G1 H1 e1 rx rg1 h1 => ?_
    refine up_go (re.ext e1) rg1 h1 (fx.ext e1) fun y u G2 H2 e2 ry rg2 h2 => ?_
    have rx2 := rx.ext e2
    rcases h2 with ⟨xs, ys, q1, q2, q3⟩ | ⟨xs, ys, q1, q2, q3⟩
    · cases x <;> simp only [asT] at q1 <;> try cases q1
      cases y <;> simp only [asT] at q2 <;> try cases q2
      obtain ⟨a, vs, rfl, k, rl⟩ := rx2
      obtain ⟨b, us, rfl, k2, rl2⟩ := ry
      exact ⟨a, b, vs, us, rfl, .inr ⟨k.sq, k2.sq, f _ H2 G2 _ _ (e1.trans e2) rg2 (itd_zipT k rl k2 rl2) q3⟩⟩
    · obtain ⟨a, vs, rfl, sq, rl⟩ := asL_at rx2 rg2 q1
      obtain ⟨b, us, rfl, sq2, rl2⟩ := asL_at ry rg2 q2
      exact ⟨a, b, vs, us, rfl, .inl ⟨sq, sq2, f _ H2 G2 _ _ (e1.trans e2) rg2 (itd_zip rx2 ry rg2 q1 q2) q3⟩⟩
def iEn (w : W3) : I3 := fun env G R Ex => w env G (fun x G1 => ∃ ds, asL G1 x = some ds ∧ R (enumD ds) (stL x ds) G1) Ex
theorem i_enum {a : Expr} {elts : List Expr} {kk : Nat} (hm : X.mg "enumerate" = none) (ha : PE X a (up X.K W w)) (hg : Gl X "enumerate" := by rfl) (hs : starEach [a] X.env = [(false, eval a X.env)] := by rfl) :
    PI X (.Tuple elts kk tpos) (.Call (.Name "enumerate" p) [a] [] pos) (upI X.K W (iEn w)) :=
  PI.imp (pi_enum hg hm (pa_cons ha pa_nil hs) hs) fun σ H R ⟨env, G, R3, Ex, re, rg, h, fx, f⟩ => by
    refine up_go re rg h fx fun x v G1 H1 e1 rx rg1 ⟨ds, h1, h2⟩ => ?_
    obtain ⟨a, vs, rfl, sq, rl⟩ := asL_at rx rg1 h1
    exact ⟨a, vs, rfl, sq, f _ H1 G1 _ _ e1 rg1 (itd_enum rx rg1 h1) h2⟩
end

/-! ### for, while -/
def lp (st : GH → Prop) (g : G3) (b : S3) (E : E3) : List D → Env3 → GH → Prop
  | [], env, G => st G ∧ E.nx env G
  | d :: r, env, G => st G ∧ g d env G fun env1 G1 => b { E with nx := fun env2 G2 => lp st g b E r env2 G2, ct := fun env2 G2 => lp st g b E r env2 G2, bk := E.nx } env1 G1
def wFor (it : I3) (g : G3) (b : S3) : S3 := fun E env G => it env G (fun ds st G1 => lp st g b E ds env G1) E.ex
theorem lp_st {st : GH → Prop} {g : G3} {b : S3} {E : E3} {ds : List D} {env : Env3} {G : GH} (h : lp st g b E ds env G) : st G := by cases ds <;> exact h.1
section
variable {X : Cx} {W : WX} {tg iter : Expr} {body : List Stmt} {js : List Nat} {it : I3} {g : G3} {b : S3} {pos : Pos}
theorem s_for (hp : PassesOwn (model X.prog X.w) X.A X.env X.xe) (hc : X.calm = true) (hi : PI X tg iter (upI X.K W it)) (hg : PG X tg (upG X.K js g)) (hb : PSs X body (upS X.K W b)) (hs : ∀ x, foldedSetIterable iter X.env x = pure x := by intro _; rfl) :
    PS X (.For tg iter body [] pos) (upS X.K W (wFor it g b)) := PS.imp (ps_for hp hc hi hg hb hs) fun D σ H ⟨env, G, E, re, rg, h, f⟩ => by
  refine ⟨env, G, _, E.ex, re, rg, h, f.ex, fun J H1 G1 ds st e1 rg1 iJ h1 => ?_⟩
  refine ⟨fun i m σ' H' => ∃ env' G', m = ds.length - i ∧ i ≤ ds.length ∧ REnv X.K H' G' env' σ' ∧ RG X.K H' G' ∧ Ext G1 H1 G' H' ∧ lp st g b E (ds.drop i) env' G', ⟨ds.length, env, G1, by simp, Nat.zero_le _, re.ext e1, rg1, .refl, h1⟩, ?_⟩
  rintro i m σ' H' ⟨env', G', rfl, hi, re', rg', e', h'⟩
  by_cases hlt : i < ds.length
  · right
    have hd : ds.drop i = ds[i] :: ds.drop (i + 1) := (List.getElem_cons_drop hlt).symm
    refine ⟨iJ.go i G' H' e' rg' (lp_st h') hlt, fun σ2 H2 => ∃ env2 G2, REnv X.K H2 G2 env2 σ2 ∧ RG X.K H2 G2 ∧ Ext G1 H1 G2 H2 ∧ lp st g b E (ds.drop (i + 1)) env2 G2, ?_, ?_⟩
    · rintro σ2 H2 ⟨env2, G2, a1, a2, a3, a4⟩
      exact ⟨ds.length - (i + 1), by omega, env2, G2, rfl, hlt, a1, a2, a3, a4⟩
    · intro x H2 hy
      obtain ⟨d, q1, q2, q3, q4⟩ := iJ.yld i G' H' x H2 e' rg' (lp_st h') hlt hy
      rw [hd] at h'
      rw [List.getElem?_eq_getElem hlt] at q1
      obtain rfl := Option.some.inj q1
      refine ⟨_, env', G', _, q3, re'.ext q2, q4, h'.2, fun env2 σ2 G2 H3 _ e2 re2 rg2 h2 => ?_⟩
      have e3 := (e'.trans q2).trans e2
      have f2 := f.ext (e1.trans e3)
      exact upS_go re2 rg2 h2 ⟨fun env3 σ3 G3 H4 e4 re4 rg4 h4 => ⟨env3, G3, re4, rg4, e3.trans e4, h4⟩, f2.rt, f2.nx, fun env3 σ3 G3 H4 e4 re4 rg4 h4 => ⟨env3, G3, re4, rg4, e3.trans e4, h4⟩, f2.ex⟩
  · left
    have ei : i = ds.length := by omega
    subst ei
    rw [List.drop_length] at h'
    exact ⟨iJ.stop G' H' e' rg' h'.1, f.nx env' σ' G' H' (e1.trans e') re' rg' h'.2⟩
def whl (t : T3) (b : S3) (E : E3) : Nat → Env3 → GH → Prop
  | 0, _, _ => False
  | n + 1, env, G => t env G (fun c G1 => if c = true then b { E with nx := whl t b E n, ct := whl t b E n, bk := E.nx } env G1 else E.nx env G1) E.ex
def wWhile (t : T3) (b : S3) : S3 := fun E env G => ∃ n, whl t b E n env G
theorem s_while {c : Expr} {t : T3} (hp : PassesOwn (model X.prog X.w) X.A X.env X.xe) (hc : PT X c (upT X.K W t)) (hb : PSs X body (upS X.K W b)) : PS X (.While c body [] pos) (upS X.K W (wWhile t b)) := PS.imp (ps_while hp hc hb) fun D σ H ⟨env, G, E, re, rg, ⟨n, h⟩, f⟩ => by
  refine ⟨fun m σ' H' => ∃ env' G', REnv X.K H' G' env' σ' ∧ RG X.K H' G' ∧ Ext G H G' H' ∧ whl t b E m env' G', ⟨n, env, G, re, rg, .refl, h⟩, ?_⟩
  rintro m σ' H' ⟨env', G', re', rg', e', h'⟩
  cases m with
  | zero => exact h'.elim
  | succ m =>
    refine upT_go re' rg' h' (f.ex.ext e') fun c G1 H1 e1 rg1 h1 => ?_
    have f2 := f.ext (e'.trans e1)
    cases c with
    | false => exact f2.nx env' σ' G1 H1 .refl (re'.ext e1) rg1 h1
    | true =>
      refine ⟨fun σ2 H2 => ∃ env2 G2, REnv X.K H2 G2 env2 σ2 ∧ RG X.K H2 G2 ∧ Ext G H G2 H2 ∧ whl t b E m env2 G2, fun σ2 H2 q => ⟨m, Nat.lt_succ_self m, q⟩, ?_⟩
      exact upS_go (re'.ext e1) rg1 h1 ⟨fun env3 σ3 G3 H4 e4 re4 rg4 h4 => ⟨env3, G3, re4, rg4, (e'.trans e1).trans e4, h4⟩, f2.rt, f2.nx, fun env3 σ3 G3 H4 e4 re4 rg4 h4 => ⟨env3, G3, re4, rg4, (e'.trans e1).trans e4, h4⟩, f2.ex⟩
end

/-! ### list comprehensions -/
def wipe3 (env : Env3) : List Nat → Env3
  | [] => env
  | v :: vs => (wipe3 env vs).set v none
theorem REnv.wipe {K : PySem.W.Frag} {H : Hp} {G : GH} {env : Env3} {σ : St} (r : REnv K H G env σ) : ∀ vs : List Nat, REnv K H G (wipe3 env vs) (L2.wipe σ vs)
  | [] => r
  | v :: vs => (REnv.wipe r vs).unset v
theorem wipe_get {σ : St} {i : Nat} : ∀ {vs : List Nat}, (L2.wipe σ vs)[i]? = if i ∈ vs then (if i < σ.length then some none else none) else σ[i]?
  | [] => by simp [L2.wipe]
  | v :: vs => by
    have ih := wipe_get (σ := σ) (i := i) (vs := vs)
    unfold L2.wipe
    by_cases h : v = i
    · subst h
      by_cases hl : v < σ.length
      · rw [List.getElem?_set_self (by rw [wipe_length]; exact hl)]; simp [hl]
      · rw [List.getElem?_eq_none (by rw [List.length_set, wipe_length]; omega)]; simp [hl]
    · rw [List.getElem?_set_ne h, ih]
      by_cases hi : i ∈ vs
      · simp [hi]
      · have : ¬ i = v := fun e => h e.symm
        simp [hi, this]
theorem But.wipe {js vs : List Nat} {σ σ' : St} (b : But js σ σ') (h : ∀ i ∈ js, i ∈ vs) : L2.wipe σ' vs = L2.wipe σ vs := by
  apply List.ext_getElem?
  intro i
  rw [wipe_get, wipe_get, b.1]
  by_cases hi : i ∈ vs
  · simp only [hi, if_true]
  · simp only [hi, if_false]
    exact b.2 i fun z => hi (h i z)
theorem wipe_wipe {σ : St} {vs us : List Nat} (h : ∀ i ∈ us, i ∈ vs) : L2.wipe (L2.wipe σ us) vs = L2.wipe σ vs := by
  apply List.ext_getElem?
  intro i
  rw [wipe_get (σ := L2.wipe σ us), wipe_get (σ := σ) (vs := vs), wipe_length]
  by_cases hi : i ∈ vs
  · rw [if_pos hi, if_pos hi]
  · rw [if_neg hi, if_neg hi, wipe_get, if_neg fun z => hi (h i z)]
abbrev noX : X3 := fun _ _ _ _ => False
abbrev W0 : WX := fun _ _ _ _ => False
/-- D the list so far, acc its items -/
def lc (st : GH → Prop) (g : G3) (tt : T3) (te : W3) (env : Env3) (D0 : Addr) (R : List D → GH → Prop) : List D → List D → GH → Prop
  | [], acc, G => st G ∧ G D0 = some (.lst acc) ∧ R acc G
  | d :: r, acc, G => st G ∧ G D0 = some (.lst acc) ∧ g d env G fun env2 G2 => tt env2 G2 (fun c G3 => if c = true then te env2 G3 (fun y G4 => G4 D0 = some (.lst acc) ∧ acc.length < sizeLine ∧ lc st g tt te env D0 R r (acc ++ [y]) (gset G4 D0 (.lst (acc ++ [y])))) noX
      else lc st g tt te env D0 R r acc G3) noX
/-- the new list is not changed later / is -/
def wLc (it : I3) (g : G3) (tt : T3) (te : W3) (vs : List Nat) : W3 := fun env G R Ex => it env G (fun ds st G1 => ∀ p, G1 p = none → lc st g tt te (wipe3 env vs) p (fun acc G2 => R (.lst acc) (gdel G2 p)) ds [] (gset G1 p (.lst []))) Ex
def wLcO (it : I3) (g : G3) (tt : T3) (te : W3) (vs : List Nat) : W3 := fun env G R Ex => it env G (fun ds st G1 => ∀ p, G1 p = none → lc st g tt te (wipe3 env vs) p (fun _ G2 => R (.ref p) G2) ds [] (gset G1 p (.lst []))) Ex
theorem lc_st {st : GH → Prop} {g : G3} {tt : T3} {te : W3} {env : Env3} {D0 : Addr} {R : List D → GH → Prop} {ds acc : List D} {G : GH} (h : lc st g tt te env D0 R ds acc G) : st G := by cases ds <;> exact h.1
theorem lc_hd {st : GH → Prop} {g : G3} {tt : T3} {te : W3} {env : Env3} {D0 : Addr} {R : List D → GH → Prop} {ds acc : List D} {G : GH} (h : lc st g tt te env D0 R ds acc G) : G D0 = some (.lst acc) := by cases ds <;> exact h.2.1
theorem nox0 {K : PySem.W.Frag} {W : WX} {H : Hp} {G : GH} : FinX K W H G noX := fun _ _ _ _ _ _ _ _ _ _ _ z => z.elim
def tYes3 : T3 := fun _ G R _ => R true G
/-- the core of both -/
theorem lc_up {K : PySem.W.Frag} {W : WX} {it : I3} {g : G3} {tt : T3} {te : W3} {vs js : List Nat} {σ : St} {H : Hp} {Q : VK} {env : Env3} {G : GH} {Ex : X3} (hjs : ∀ i ∈ js, i ∈ vs) (re : REnv K H G env σ) (rg : RG K H G) (fx : FinX K W H G Ex) (R : Addr → List D → GH → Prop)
    (h : it env G (fun ds st G1 => ∀ p, G1 p = none → lc st g tt te (wipe3 env vs) p (R p) ds [] (gset G1 p (.lst []))) Ex)
    (fin : ∀ p acc ws G' H', Ext G H G' H' → RG K H' G' → G' p = some (.lst acc) → H' p = some (.lst ws) → RepL K H' G' acc ws → R p acc G' → Q (.ref p) H') :
    tLc (upI K W it) (upG K js g) (upT K W0 tt) (up K W0 te) vs σ H Q := by
  refine ⟨env, G, _, Ex, re, rg, h, fx, fun J H1 G1 ds st e1 rg1 iJ h1 p hp => ?_⟩
  have gp := rg1.fresh hp
  have e2 : Ext G1 H1 (gset G1 p (.lst [])) (upd H1 p (.lst [])) := .allocG hp
  have rg2 : RG K (upd H1 p (.lst [])) (gset G1 p (.lst [])) := rg1.allocG (go := .lst []) hp ⟨[], upd_same, rfl⟩
  refine ⟨fun i m H' => ∃ G' acc, m = ds.length - i ∧ i ≤ ds.length ∧ Ext G1 H1 G' H' ∧ RG K H' G' ∧ G' p = some (.lst acc) ∧ lc st g tt te (wipe3 env vs) p (R p) (ds.drop i) acc G', ⟨ds.length, gset G1 p (.lst []), [], by simp, Nat.zero_le _, e2, rg2, gset_same, h1 p gp⟩, ?_⟩
  rintro i m H' ⟨G', acc, rfl, hi, e', rg', hg', h'⟩
  by_cases hlt : i < ds.length
  · right
    have hd : ds.drop i = ds[i] :: ds.drop (i + 1) := (List.getElem_cons_drop hlt).symm
    refine ⟨iJ.go i G' H' e' rg' (lc_st h') hlt, fun H2 => ∃ G2 acc2, Ext G1 H1 G2 H2 ∧ RG K H2 G2 ∧ G2 p = some (.lst acc2) ∧ lc st g tt te (wipe3 env vs) p (R p) (ds.drop (i + 1)) acc2 G2, ?_, ?_⟩
    · rintro H2 ⟨G2, acc2, a1, a2, a3, a4⟩
      exact ⟨ds.length - (i + 1), by omega, G2, acc2, rfl, hlt, a1, a2, a3, a4⟩
    · intro x H2 hy
      obtain ⟨d, q1, q2, q3, q4⟩ := iJ.yld i G' H' x H2 e' rg' (lc_st h') hlt hy
      rw [hd] at h'
      rw [List.getElem?_eq_getElem hlt] at q1
      obtain rfl := Option.some.inj q1
      have e4 := e'.trans q2
      refine ⟨_, wipe3 env vs, G', _, q3, (re.ext (e1.trans e4)).wipe vs, q4, h'.2.2, fun env2 σ2 G2 H3 bt e3 re3 rg3 h3 => ⟨(bt.wipe hjs).trans (wipe_wipe fun _ z => z), ?_⟩⟩
      refine upT_go re3 rg3 h3 nox0 fun c G3 H4 e5 rg4 h4 => ?_
      cases c with
      | false =>
        have h4' := h4
        rw [if_neg Bool.false_ne_true] at h4'
        exact ⟨G3, acc, (e4.trans e3).trans e5, rg4, lc_hd h4', h4'⟩
      | true =>
        rw [if_pos rfl] at h4
        rw [if_pos rfl]
        refine up_go (re3.ext e5) rg4 h4 nox0 fun y v G4 H5 e6 ry rg5 ⟨k1, k2, k3⟩ => ?_
        obtain ⟨ws, k4, k5⟩ := rg5 p _ k1
        have ew : Ext G4 H5 (gset G4 p (.lst (acc ++ [y]))) (upd H5 p (.lst (ws ++ [v]))) := .write k1
        refine ⟨ws, k4, by rw [k5.length]; exact k2, _, acc ++ [y], (((e4.trans e3).trans e5).trans e6).trans ew, ?_, gset_same, k3⟩
        exact rg5.write (go := .lst (acc ++ [y])) k1 ⟨_, upd_same, RepL.ext ew _ (k5.append (.one ry))⟩
  · left
    have ei : i = ds.length := by omega
    subst ei
    rw [List.drop_length] at h'
    obtain ⟨h1, h2, h3⟩ := h'
    obtain ⟨ws, k4, k5⟩ := rg' p _ h2
    exact ⟨iJ.stop G' H' e' rg' h1, fin p acc ws G' H' (e1.trans e') rg' h2 k4 k5 h3⟩
end L3

set_option Elab.async false
set_option linter.all false
set_option maxRecDepth 100000
namespace L3
open PySem PySem.Spec L2
open PyProof.Rows hiding St
section
variable {X : Cx} {W : WX} {elt tg iter : Expr} {ifs : List Expr} {scope : Scope} {pos spos : Pos} {it : I3} {g : G3} {tt : T3} {te : W3} {js : List Nat}
theorem PTs.imp {t t' : TT} (h : PTs X ifs t) (f : ∀ σ H Q, t' σ H Q → t σ H Q) : PTs X ifs t' := ⟨fun pins s σ H Q I q => h.run pins s σ H Q I (f _ _ _ q)⟩
theorem ts_nil : PTs X [] (upT X.K W tYes3) := PTs.imp pts_nil fun σ H Q ⟨env, G, R, Ex, re, rg, h, fe, fx⟩ => fe true G H .refl rg h
theorem ts_one {c : Expr} (h : PT X c (upT X.K W tt)) : PTs X [c] (upT X.K W tt) := pts_one h
theorem c_lc (own : List (Str × Nat)) (hc : X.calm = true) (hN : X.N.Nodup) (hi : PI X tg iter (upI X.K W it)) (ok : BlkOk X.N X.env.scope scope own) (hjs : ∀ i ∈ js, i ∈ own.map (·.2))
    (hg : ∀ (s : Shared) (H : Hp) (C : Addr) (cl : List (Str × Addr)) (fp : List Addr), PG (X.blk s H scope (compEnvC scope cl C X.env) fp) tg (upG X.K js g)) (ht : ∀ (s : Shared) (H : Hp) (C : Addr) (cl : List (Str × Addr)) (fp : List Addr), PTs (X.blk s H scope (compEnvC scope cl C X.env) fp) ifs (upT X.K W0 tt))
    (he : ∀ (s : Shared) (H : Hp) (C : Addr) (cl : List (Str × Addr)) (fp : List Addr), PE (X.blk s H scope (compEnvC scope cl C X.env) fp) elt (up X.K W0 te)) (hs : ∀ x, foldedSetIterable iter X.env x = pure x := by intro _; rfl) :
    PE X (.ListComp elt [⟨tg, iter, ifs, 0⟩] scope pos) (up X.K W (wLc it g tt te (own.map (·.2)))) := PE.imp (pe_lc hc hN hi ok hg ht he hs) fun σ H Q ⟨env, G, R, Ex, re, rg, h, fe, fx⟩ => by
  refine lc_up hjs re rg fx (fun p acc G2 => R (.lst acc) (gdel G2 p)) h fun p acc ws G' H' e r gp hp rl q => ?_
  exact fe (.lst acc) _ _ H' (e.trans .freeze) ⟨p, ws, rfl, gdel_same, hp, RepL.ext .freeze acc rl⟩ r.freeze q
theorem c_lcO (own : List (Str × Nat)) (hc : X.calm = true) (hN : X.N.Nodup) (hi : PI X tg iter (upI X.K W it)) (ok : BlkOk X.N X.env.scope scope own) (hjs : ∀ i ∈ js, i ∈ own.map (·.2))
    (hg : ∀ (s : Shared) (H : Hp) (C : Addr) (cl : List (Str × Addr)) (fp : List Addr), PG (X.blk s H scope (compEnvC scope cl C X.env) fp) tg (upG X.K js g)) (ht : ∀ (s : Shared) (H : Hp) (C : Addr) (cl : List (Str × Addr)) (fp : List Addr), PTs (X.blk s H scope (compEnvC scope cl C X.env) fp) ifs (upT X.K W0 tt))
    (he : ∀ (s : Shared) (H : Hp) (C : Addr) (cl : List (Str × Addr)) (fp : List Addr), PE (X.blk s H scope (compEnvC scope cl C X.env) fp) elt (up X.K W0 te)) (hs : ∀ x, foldedSetIterable iter X.env x = pure x := by intro _; rfl) :
    PE X (.ListComp elt [⟨tg, iter, ifs, 0⟩] scope pos) (up X.K W (wLcO it g tt te (own.map (·.2)))) := PE.imp (pe_lc hc hN hi ok hg ht he hs) fun σ H Q ⟨env, G, R, Ex, re, rg, h, fe, fx⟩ => by
  refine lc_up hjs re rg fx (fun p acc G2 => R (.ref p) G2) h fun p acc ws G' H' e r gp hp rl q => ?_
  exact fe (.ref p) _ _ H' e rfl r q
/-- name = [..] on one line, the name a plain local -/
theorem s_setLc (i : Nat) (own : List (Str × Nat)) {y : Str} {py : Pos} (hc : X.calm = true) (hN : X.N.Nodup) (hy : X.N[i]? = some y) (hyl : X.env.scope.names.lookup y = some .local)
    (hsw : swapsWith (.ListComp elt [⟨tg, iter, ifs, 0⟩] scope pos) (some (.Name y py)) spos.line X.env = pure true) (hi : PI X tg iter (upI X.K W it)) (ok : BlkOk X.N X.env.scope scope own) (hjs : ∀ i ∈ js, i ∈ own.map (·.2))
    (hg : ∀ (s : Shared) (H : Hp) (C : Addr) (cl : List (Str × Addr)) (fp : List Addr), PG (X.blk s H scope (compEnvC scope cl C X.env) fp) tg (upG X.K js g)) (ht : ∀ (s : Shared) (H : Hp) (C : Addr) (cl : List (Str × Addr)) (fp : List Addr), PTs (X.blk s H scope (compEnvC scope cl C X.env) fp) ifs (upT X.K W0 tt))
    (he : ∀ (s : Shared) (H : Hp) (C : Addr) (cl : List (Str × Addr)) (fp : List Addr), PE (X.blk s H scope (compEnvC scope cl C X.env) fp) elt (up X.K W0 te)) (hs : ∀ x, foldedSetIterable iter X.env x = pure x := by intro _; rfl) :
    PS X (.Assign [.Name y py] (.ListComp elt [⟨tg, iter, ifs, 0⟩] scope pos) spos) (upS X.K W (wSet i (wLc it g tt te (own.map (·.2))))) := PS.imp (ps_setLc hc hN hy hyl hsw hi ok hg ht he hs) fun D σ H ⟨env, G, E, re, rg, h, f⟩ => by
  refine lc_up hjs re rg f.ex (fun p acc G2 => E.nx (env.set i (some (.lst acc))) (gdel G2 p)) h fun p acc ws G' H' e r gp hp rl q => ?_
  exact f.nx _ _ _ H' (e.trans .freeze) (((re.ext e).ext .freeze).set (d := .lst acc) (v := .ref p) ⟨p, ws, rfl, gdel_same, hp, RepL.ext .freeze acc rl⟩ i) r.freeze q
theorem s_setLcO (i : Nat) (own : List (Str × Nat)) {y : Str} {py : Pos} (hc : X.calm = true) (hN : X.N.Nodup) (hy : X.N[i]? = some y) (hyl : X.env.scope.names.lookup y = some .local)
    (hsw : swapsWith (.ListComp elt [⟨tg, iter, ifs, 0⟩] scope pos) (some (.Name y py)) spos.line X.env = pure true) (hi : PI X tg iter (upI X.K W it)) (ok : BlkOk X.N X.env.scope scope own) (hjs : ∀ i ∈ js, i ∈ own.map (·.2))
    (hg : ∀ (s : Shared) (H : Hp) (C : Addr) (cl : List (Str × Addr)) (fp : List Addr), PG (X.blk s H scope (compEnvC scope cl C X.env) fp) tg (upG X.K js g)) (ht : ∀ (s : Shared) (H : Hp) (C : Addr) (cl : List (Str × Addr)) (fp : List Addr), PTs (X.blk s H scope (compEnvC scope cl C X.env) fp) ifs (upT X.K W0 tt))
    (he : ∀ (s : Shared) (H : Hp) (C : Addr) (cl : List (Str × Addr)) (fp : List Addr), PE (X.blk s H scope (compEnvC scope cl C X.env) fp) elt (up X.K W0 te)) (hs : ∀ x, foldedSetIterable iter X.env x = pure x := by intro _; rfl) :
    PS X (.Assign [.Name y py] (.ListComp elt [⟨tg, iter, ifs, 0⟩] scope pos) spos) (upS X.K W (wSet i (wLcO it g tt te (own.map (·.2))))) := PS.imp (ps_setLc hc hN hy hyl hsw hi ok hg ht he hs) fun D σ H ⟨env, G, E, re, rg, h, f⟩ => by
  refine lc_up hjs re rg f.ex (fun p acc G2 => E.nx (env.set i (some (.ref p))) G2) h fun p acc ws G' H' e r gp hp rl q => ?_
  exact f.nx _ _ _ H' e ((re.ext e).set (d := .ref p) (v := .ref p) rfl i) r q
end

/-! ### two clauses -/
/-- the second clause's own loop; N: what follows with the list so far -/
def lcIn (st : GH → Prop) (g : G3) (tt : T3) (te : W3) (env : Env3) (D0 : Addr) (N : List D → GH → Prop) : List D → List D → GH → Prop
  | [], acc, G => st G ∧ G D0 = some (.lst acc) ∧ N acc G
  | d :: r, acc, G => st G ∧ G D0 = some (.lst acc) ∧ g d env G fun env2 G2 => tt env2 G2 (fun c G3 => if c = true then te env2 G3 (fun y G4 => G4 D0 = some (.lst acc) ∧ acc.length < sizeLine ∧ lcIn st g tt te env D0 N r (acc ++ [y]) (gset G4 D0 (.lst (acc ++ [y])))) noX
      else lcIn st g tt te env D0 N r acc G3) noX
def lc2 (st : GH → Prop) (g : G3) (tt : T3) (it1 : I3) (g1 : G3) (tt1 : T3) (te : W3) (vs1 : List Nat) (env : Env3) (D0 : Addr) (R : List D → GH → Prop) : List D → List D → GH → Prop
  | [], acc, G => st G ∧ G D0 = some (.lst acc) ∧ R acc G
  | d :: r, acc, G => st G ∧ G D0 = some (.lst acc) ∧ g d env G fun env2 G2 => tt env2 G2 (fun c G3 => if c = true then it1 env2 G3 (fun es st1 G4 => lcIn st1 g1 tt1 te (wipe3 env2 vs1) D0 (fun acc2 G5 => lc2 st g tt it1 g1 tt1 te vs1 env D0 R r acc2 G5) es acc G4) noX
      else lc2 st g tt it1 g1 tt1 te vs1 env D0 R r acc G3) noX
def wLc2 (it : I3) (g : G3) (tt : T3) (it1 : I3) (g1 : G3) (tt1 : T3) (te : W3) (vs vs1 : List Nat) : W3 := fun env G R Ex => it env G (fun ds st G1 => ∀ p, G1 p = none → lc2 st g tt it1 g1 tt1 te vs1 (wipe3 env vs) p (fun acc G2 => R (.lst acc) (gdel G2 p)) ds [] (gset G1 p (.lst []))) Ex
theorem lcIn_st {st : GH → Prop} {g : G3} {tt : T3} {te : W3} {env : Env3} {D0 : Addr} {R : List D → GH → Prop} {ds acc : List D} {G : GH} (h : lcIn st g tt te env D0 R ds acc G) : st G ∧ G D0 = some (.lst acc) := by cases ds <;> exact ⟨h.1, h.2.1⟩
theorem lc2_st {st : GH → Prop} {g g1 : G3} {tt tt1 : T3} {it1 : I3} {te : W3} {vs1 : List Nat} {env : Env3} {D0 : Addr} {R : List D → GH → Prop} {ds acc : List D} {G : GH} (h : lc2 st g tt it1 g1 tt1 te vs1 env D0 R ds acc G) : st G ∧ G D0 = some (.lst acc) := by cases ds <;> exact ⟨h.1, h.2.1⟩
theorem lc2_up {K : PySem.W.Frag} {W : WX} {it it1 : I3} {g g1 : G3} {tt tt1 : T3} {te : W3} {vs vs1 js js1 : List Nat} {σ : St} {H : Hp} {Q : VK} {env : Env3} {G : GH} {Ex : X3} (hjs : ∀ i ∈ js, i ∈ vs) (hjs1 : ∀ i ∈ js1, i ∈ vs1)
    (re : REnv K H G env σ) (rg : RG K H G) (fx : FinX K W H G Ex) (R : Addr → List D → GH → Prop)
    (h : it env G (fun ds st G1 => ∀ p, G1 p = none → lc2 st g tt it1 g1 tt1 te vs1 (wipe3 env vs) p (R p) ds [] (gset G1 p (.lst []))) Ex)
    (fin : ∀ p acc ws G' H', Ext G H G' H' → RG K H' G' → G' p = some (.lst acc) → H' p = some (.lst ws) → RepL K H' G' acc ws → R p acc G' → Q (.ref p) H') :
    tLc2 (upI K W it) (upG K js g) (upT K W0 tt) (upI K W0 it1) (upG K js1 g1) (upT K W0 tt1) (up K W0 te) vs vs1 σ H Q := by
  refine ⟨env, G, _, Ex, re, rg, h, fx, fun J H1 G1 ds st e1 rg1 iJ h1 p hp => ?_⟩
  have gp := rg1.fresh hp
  have e2 : Ext G1 H1 (gset G1 p (.lst [])) (upd H1 p (.lst [])) := .allocG hp
  have rg2 : RG K (upd H1 p (.lst [])) (gset G1 p (.lst [])) := rg1.allocG (go := .lst []) hp ⟨[], upd_same, rfl⟩
  refine ⟨fun i m H' => ∃ G' acc, m = ds.length - i ∧ i ≤ ds.length ∧ Ext G1 H1 G' H' ∧ RG K H' G' ∧ lc2 st g tt it1 g1 tt1 te vs1 (wipe3 env vs) p (R p) (ds.drop i) acc G', ⟨ds.length, gset G1 p (.lst []), [], by simp, Nat.zero_le _, e2, rg2, h1 p gp⟩, ?_⟩
  rintro i m H' ⟨G', acc, rfl, hi, e', rg', h'⟩
  by_cases hlt : i < ds.length
  · right
    have hd : ds.drop i = ds[i] :: ds.drop (i + 1) := (List.getElem_cons_drop hlt).symm
    refine ⟨iJ.go i G' H' e' rg' (lc2_st h').1 hlt, fun H2 => ∃ G2 acc2, Ext G1 H1 G2 H2 ∧ RG K H2 G2 ∧ lc2 st g tt it1 g1 tt1 te vs1 (wipe3 env vs) p (R p) (ds.drop (i + 1)) acc2 G2, ?_, ?_⟩
    · rintro H2 ⟨G2, acc2, a1, a2, a4⟩
      exact ⟨ds.length - (i + 1), by omega, G2, acc2, rfl, hlt, a1, a2, a4⟩
    · intro x H2 hy
      obtain ⟨d, q1, q2, q3, q4⟩ := iJ.yld i G' H' x H2 e' rg' (lc2_st h').1 hlt hy
      rw [hd] at h'
      rw [List.getElem?_eq_getElem hlt] at q1
      obtain rfl := Option.some.inj q1
      have e4 := e'.trans q2
      refine ⟨_, wipe3 env vs, G', _, q3, (re.ext (e1.trans e4)).wipe vs, q4, h'.2.2, fun env2 σ2 G2 H3 bt e3 re3 rg3 h3 => ⟨(bt.wipe hjs).trans (wipe_wipe fun _ z => z), ?_⟩⟩
      refine upT_go re3 rg3 h3 nox0 fun c G3 H4 e5 rg4 h4 => ?_
      have e45 := (e4.trans e3).trans e5
      cases c with
      | false => exact ⟨G3, acc, e45, rg4, h4⟩
      | true =>
        rw [if_pos rfl] at h4
        rw [if_pos rfl]
        refine ⟨env2, G3, _, noX, re3.ext e5, rg4, h4, nox0, fun J1 H5 G4 es st1 e6 rg5 iJ1 h5 => ?_⟩
        have e46 := e45.trans e6
        refine ⟨fun j k H6 => ∃ G6 acc6, k = es.length - j ∧ j ≤ es.length ∧ Ext G4 H5 G6 H6 ∧ RG K H6 G6 ∧ lcIn st1 g1 tt1 te (wipe3 env2 vs1) p (fun acc2 G5 => lc2 st g tt it1 g1 tt1 te vs1 (wipe3 env vs) p (R p) (ds.drop (i + 1)) acc2 G5) (es.drop j) acc6 G6,
          ⟨es.length, G4, acc, by simp, Nat.zero_le _, .refl, rg5, h5⟩, ?_⟩
        rintro j k H6 ⟨G6, acc6, rfl, hj, e7, rg6, h6⟩
        by_cases hlj : j < es.length
        · right
          have hd1 : es.drop j = es[j] :: es.drop (j + 1) := (List.getElem_cons_drop hlj).symm
          refine ⟨iJ1.go j G6 H6 e7 rg6 (lcIn_st h6).1 hlj, fun H7 => ∃ G7 acc7, Ext G4 H5 G7 H7 ∧ RG K H7 G7 ∧ lcIn st1 g1 tt1 te (wipe3 env2 vs1) p (fun acc2 G5 => lc2 st g tt it1 g1 tt1 te vs1 (wipe3 env vs) p (R p) (ds.drop (i + 1)) acc2 G5) (es.drop (j + 1)) acc7 G7, ?_, ?_⟩
          · rintro H7 ⟨G7, acc7, a1, a2, a4⟩
            exact ⟨es.length - (j + 1), by omega, G7, acc7, rfl, hlj, a1, a2, a4⟩
          · intro x1 H7 hy1
            obtain ⟨d1, p1, p2, p3, p4⟩ := iJ1.yld j G6 H6 x1 H7 e7 rg6 (lcIn_st h6).1 hlj hy1
            rw [hd1] at h6
            rw [List.getElem?_eq_getElem hlj] at p1
            obtain rfl := Option.some.inj p1
            have e8 := e7.trans p2
            refine ⟨_, wipe3 env2 vs1, G6, _, p3, (re3.ext ((e5.trans e6).trans e8)).wipe vs1, p4, h6.2.2, fun env3 σ3 G7 H8 bt3 e9 re9 rg9 h9 => ⟨(bt3.wipe hjs1).trans (wipe_wipe fun _ z => z), ?_⟩⟩
            refine upT_go re9 rg9 h9 nox0 fun c1 G8 H9 e10 rg10 h10 => ?_
            cases c1 with
            | false => exact ⟨G8, acc6, (e8.trans e9).trans e10, rg10, h10⟩
            | true =>
              rw [if_pos rfl] at h10
              rw [if_pos rfl]
              refine up_go (re9.ext e10) rg10 h10 nox0 fun y v G9 H10 e11 ry rg11 ⟨k1, k2, k3⟩ => ?_
              obtain ⟨ws, k4, k5⟩ := rg11 p _ k1
              have ew : Ext G9 H10 (gset G9 p (.lst (acc6 ++ [y]))) (upd H10 p (.lst (ws ++ [v]))) := .write k1
              refine ⟨ws, k4, by rw [k5.length]; exact k2, _, acc6 ++ [y], (((e8.trans e9).trans e10).trans e11).trans ew, ?_, k3⟩
              exact rg11.write (go := .lst (acc6 ++ [y])) k1 ⟨_, upd_same, RepL.ext ew _ (k5.append (.one ry))⟩
        · left
          have ej : j = es.length := by omega
          subst ej
          rw [List.drop_length] at h6
          obtain ⟨p1, p2, p3⟩ := h6
          exact ⟨iJ1.stop G6 H6 e7 rg6 p1, G6, acc6, e46.trans e7, rg6, p3⟩
  · left
    have ei : i = ds.length := by omega
    subst ei
    rw [List.drop_length] at h'
    obtain ⟨h1, h2, h3⟩ := h'
    obtain ⟨ws, k4, k5⟩ := rg' p _ h2
    exact ⟨iJ.stop G' H' e' rg' h1, fin p acc ws G' H' (e1.trans e') rg' h2 k4 k5 h3⟩
section
variable {X : Cx} {W : WX} {elt tg iter tg1 iter1 : Expr} {ifs ifs1 : List Expr} {scope : Scope} {pos spos : Pos} {it it1 : I3} {g g1 : G3} {tt tt1 : T3} {te : W3} {js js1 vs1 : List Nat}
theorem c_lc2 (own : List (Str × Nat)) (vs1 : List Nat) (hc : X.calm = true) (hN : X.N.Nodup) (hi : PI X tg iter (upI X.K W it)) (ok : BlkOk X.N X.env.scope scope own) (hv : ∀ i ∈ vs1, i ∈ own.map (·.2)) (hjs : ∀ i ∈ js, i ∈ own.map (·.2)) (hjs1 : ∀ i ∈ js1, i ∈ vs1)
    (hg : ∀ (s : Shared) (H : Hp) (C : Addr) (cl : List (Str × Addr)) (fp : List Addr), PG (X.blk s H scope (compEnvC scope cl C X.env) fp) tg (upG X.K js g)) (ht : ∀ (s : Shared) (H : Hp) (C : Addr) (cl : List (Str × Addr)) (fp : List Addr), PTs (X.blk s H scope (compEnvC scope cl C X.env) fp) ifs (upT X.K W0 tt))
    (hi1 : ∀ (s : Shared) (H : Hp) (C : Addr) (cl : List (Str × Addr)) (fp : List Addr), PI (X.blk s H scope (compEnvC scope cl C X.env) fp) tg1 iter1 (upI X.K W0 it1))
    (hg1 : ∀ (s : Shared) (H : Hp) (C : Addr) (cl : List (Str × Addr)) (fp : List Addr), PG (X.blk s H scope (compEnvC scope cl C X.env) fp) tg1 (upG X.K js1 g1)) (ht1 : ∀ (s : Shared) (H : Hp) (C : Addr) (cl : List (Str × Addr)) (fp : List Addr), PTs (X.blk s H scope (compEnvC scope cl C X.env) fp) ifs1 (upT X.K W0 tt1))
    (he : ∀ (s : Shared) (H : Hp) (C : Addr) (cl : List (Str × Addr)) (fp : List Addr), PE (X.blk s H scope (compEnvC scope cl C X.env) fp) elt (up X.K W0 te)) (hs : ∀ x, foldedSetIterable iter X.env x = pure x := by intro _; rfl) (hs1 : ∀ env x, foldedSetIterable iter1 env x = pure x := by intro _ _; rfl) :
    PE X (.ListComp elt [⟨tg, iter, ifs, 0⟩, ⟨tg1, iter1, ifs1, 0⟩] scope pos) (up X.K W (wLc2 it g tt it1 g1 tt1 te (own.map (·.2)) vs1)) := PE.imp (pe_lc2 hc hN hi ok hv hg ht hi1 hg1 ht1 he hs hs1) fun σ H Q ⟨env, G, R, Ex, re, rg, h, fe, fx⟩ => by
  refine lc2_up hjs hjs1 re rg fx (fun p acc G2 => R (.lst acc) (gdel G2 p)) h fun p acc ws G' H' e r gp hp rl q => ?_
  exact fe (.lst acc) _ _ H' (e.trans .freeze) ⟨p, ws, rfl, gdel_same, hp, RepL.ext .freeze acc rl⟩ r.freeze q
end

/-! ### methods of lists -/
abbrev FM := D → List D → GH → K3 → Prop
def LiftM (K : PySem.W.Frag) (T : String) (r : V → List V → Hp → VK → Prop) (f : FM) (c : D → GH → Prop) : Prop :=
  (∀ (x : D) (a : V) (H : Hp) (G : GH), Rep K H G x a → RG K H G → c x G → tyV K T a H) ∧
  ∀ (x : D) (a : V) (xs : List D) (vs : List V) (H : Hp) (G : GH) (R : K3) (Q : VK), Rep K H G x a → RepL K H G xs vs → RG K H G → f x xs G R → FinE K H G R Q → r a vs H Q
def wM (f : FM) (c : D → GH → Prop) (o : W3) (ar : A3) : W3 := fun env G R Ex => o env G (fun x G1 => c x G1 ∧ ar env G1 (fun xs G2 => f x xs G2 R) Ex) Ex
def cL : D → GH → Prop := fun x G => (asL G x).isSome = true
def cS : D → GH → Prop := fun x _ => ∃ z, x = .str z
theorem tyL {K : PySem.W.Frag} (x : D) (a : V) (H : Hp) (G : GH) (r : Rep K H G x a) (g : RG K H G) (c : cL x G) : tyV K "list" a H := by
  obtain ⟨ds, h⟩ := Option.isSome_iff_exists.mp c
  obtain ⟨p, vs, rfl, sq, _⟩ := asL_at r g h
  exact .inl ⟨rfl, vs, sq⟩
theorem tyS {K : PySem.W.Frag} (x : D) (a : V) (H : Hp) (G : GH) (r : Rep K H G x a) (g : RG K H G) (c : cS x G) : tyV K "str" a H := by
  obtain ⟨z, rfl⟩ := c
  rw [show a = .str z from r]
  exact rfl
def cNo : D → GH → Prop := fun _ _ => False
section
variable {X : Cx} {W : WX} {o e : Expr} {es : List Expr} {wo : W3} {ar : A3} {nm : Str} {apos cpos : Pos} {T id : String} {r : V → List V → Hp → VK → Prop} {f : FM} {c : D → GH → Prop}
theorem c_bm (pa : PlainAttrs T) (slot : Slot T nm id) (hty : typeOf (.builtin id) = pure (.type "method_descriptor")) (hm : MtR X id r) (hl : LiftM X.K T r f c) (ho : PE X o (up X.K W wo)) (ha : PA X (e :: es) (upA X.K W ar))
    (hbase : attributeBase o nm X.env (eval o X.env) = eval o X.env := by rfl)
    (hfew : ((backTo cpos (starEach (e :: es) X.env)).all (fun x => !x.1) && (backToKw cpos (keywordEach [] X.env)).all (fun x => x.1.isSome)
      && decide ((e :: es).length + ([] : List Keyword).length + (if ([] : List Keyword).isEmpty then 0 else 1) < 30)) = true := by rfl)
    (hline : (apos.endLine == cpos.line) = true := by rfl) (hs : starEach (e :: es) X.env = (false, eval e X.env) :: starEach es X.env := by rfl) (hplain : (backTo cpos (starEach es X.env)).any (·.1) = false := by rfl) :
    PE X (.Call (.Attribute o nm apos) (e :: es) [] cpos) (up X.K W (wM f c wo ar)) := PE.imp (pe_bm pa slot hty hm ho ha hbase hfew hline hs hplain) fun σ H Q ⟨env, G, R, Ex, re, rg, h, fe, fx⟩ => by
  refine up_go re rg h fx fun x a G1 H1 e1 rx rg1 ⟨h1, h2⟩ => ⟨hl.1 x a H1 G1 rx rg1 h1, ?_⟩
  refine upA_go (re.ext e1) rg1 h2 (fx.ext e1) fun xs vs G2 H2 e2 rs rg2 h3 => ?_
  exact hl.2 x a xs vs H2 G2 R Q (rx.ext e2) rs rg2 h3 (fe.ext (e1.trans e2))
theorem c_bm0 (pa : PlainAttrs T) (slot : Slot T nm id) (hty : typeOf (.builtin id) = pure (.type "method_descriptor")) (hm : MtR X id r) (hl : LiftM X.K T r f c) (ho : PE X o (up X.K W wo))
    (hbase : attributeBase o nm X.env (eval o X.env) = eval o X.env := by rfl) (hline : (apos.endLine == cpos.line) = true := by rfl) : PE X (.Call (.Attribute o nm apos) [] [] cpos) (up X.K W (wM f c wo aNil)) :=
  PE.imp (pe_bm0 pa slot hty hm ho hbase hline) fun σ H Q ⟨env, G, R, Ex, re, rg, h, fe, fx⟩ => by
    refine up_go re rg h fx fun x a G1 H1 e1 rx rg1 ⟨h1, h2⟩ => ⟨hl.1 x a H1 G1 rx rg1 h1, ?_⟩
    exact hl.2 x a [] [] H1 G1 R Q rx rfl rg1 h2 (fe.ext e1)
end
def fAppend : FM := fun x xs G R => match x, xs with
  | .ref p, [y] => ∃ ds, G p = some (.lst ds) ∧ ds.length < sizeLine ∧ R .non (gset G p (.lst (ds ++ [y])))
  | _, _ => False
theorem m_append {K : PySem.W.Frag} : LiftM K "list" rAppend fAppend cL := ⟨tyL, by
  intro x a xs vs H G R Q rx rs g h fe
  unfold fAppend at h
  split at h
  · rename_i p y
    obtain ⟨ds, h1, h2, h3⟩ := h
    obtain ⟨v, rfl, rv⟩ := rs.one_inv
    obtain ⟨ws, k1, k2⟩ := g p _ h1
    have ew : Ext G H (gset G p (.lst (ds ++ [y]))) (upd H p (.lst (ws ++ [v]))) := .write h1
    exact ⟨p, ws, v, rx, rfl, k1, by rw [k2.length]; exact h2, fe .non _ _ _ ew rfl (g.write (go := .lst (ds ++ [y])) h1 ⟨_, upd_same, RepL.ext ew _ (k2.append (.one rv))⟩) h3⟩
  · exact h.elim⟩
def fExtend : FM := fun x xs G R => match x, xs with
  | .ref p, [y] => ∃ ds es, G p = some (.lst ds) ∧ asL1 G y = some es ∧ ds.length + es.length ≤ sizeLine ∧ R .non (gset G p (.lst (ds ++ es)))
  | _, _ => False
theorem m_extend {K : PySem.W.Frag} : LiftM K "list" rExtend fExtend cL := ⟨tyL, by
  intro x a xs vs H G R Q rx rs g h fe
  unfold fExtend at h
  split at h
  · rename_i p y
    obtain ⟨ds, es, h1, h4, h2, h3⟩ := h
    obtain ⟨v, rfl, rv⟩ := rs.one_inv
    obtain ⟨ws, k1, k2⟩ := g p _ h1
    obtain ⟨b, us, rfl, k3, k4⟩ := asL1_at rv g h4
    have ew : Ext G H (gset G p (.lst (ds ++ es))) (upd H p (.lst (ws ++ us))) := .write h1
    exact ⟨p, b, ws, us, rx, rfl, k1, k3, by rw [k2.length, k4.length]; exact h2, fe .non _ _ _ ew rfl (g.write (go := .lst (ds ++ es)) h1 ⟨_, upd_same, RepL.ext ew _ (k2.append k4)⟩) h3⟩
  · exact h.elim⟩
theorem RepL.erase {K : PySem.W.Frag} {H : Hp} {G : GH} : ∀ {ds : List D} {vs : List V} (n : Nat), RepL K H G ds vs → RepL K H G (ds.eraseIdx n) (vs.eraseIdx n)
  | [], _, n, t => by rw [show _ = _ from t]; exact rfl
  | _ :: ds, _, 0, ⟨w, r, q, a, t⟩ => by rw [q]; exact t
  | _ :: ds, _, n + 1, ⟨w, r, q, a, t⟩ => by rw [q]; exact ⟨w, _, rfl, a, RepL.erase n t⟩
def fPopAt : FM := fun x xs G R => match x, xs with
  | .ref p, [.int i] => ∃ ds k y, G p = some (.lst ds) ∧ -(2 ^ 63) ≤ i ∧ i < 2 ^ 63 ∧ seqIndex? i ds.length = some k ∧ ds[k]? = some y ∧ R y (gset G p (.lst (ds.eraseIdx k)))
  | _, _ => False
theorem m_popAt {K : PySem.W.Frag} : LiftM K "list" rPopAt fPopAt cL := ⟨tyL, by
  intro x a xs vs H G R Q rx rs g h fe
  unfold fPopAt at h
  split at h
  · rename_i p i
    obtain ⟨ds, k, y, h1, h2, h3, h4, h5, h6⟩ := h
    obtain ⟨v, rfl, rv⟩ := rs.one_inv
    obtain ⟨ws, k1, k2⟩ := g p _ h1
    obtain ⟨u, k3, k4⟩ := k2.get h5
    have ew : Ext G H (gset G p (.lst (ds.eraseIdx k))) (upd H p (.lst (ws.eraseIdx k))) := .write h1
    exact ⟨p, ws, i, k, u, rx, by rw [show v = _ from rv], k1, h2, h3, by rw [k2.length]; exact h4, k3, fe y _ _ _ ew (k4.ext ew) (g.write (go := .lst (ds.eraseIdx k)) h1 ⟨_, upd_same, RepL.ext ew _ (k2.erase k)⟩) h6⟩
  · exact h.elim⟩
def fPop : FM := fun x xs G R => match x, xs with
  | .ref p, [] => ∃ ds y, G p = some (.lst ds) ∧ ds[ds.length - 1]? = some y ∧ R y (gset G p (.lst ds.dropLast))
  | _, _ => False
theorem m_pop {K : PySem.W.Frag} : LiftM K "list" rPop fPop cL := ⟨tyL, by
  intro x a xs vs H G R Q rx rs g h fe
  unfold fPop at h
  split at h
  · rename_i p
    obtain ⟨ds, y, h1, h5, h6⟩ := h
    obtain rfl : vs = [] := rs
    obtain ⟨ws, k1, k2⟩ := g p _ h1
    obtain ⟨u, k3, k4⟩ := k2.get h5
    have ew : Ext G H (gset G p (.lst ds.dropLast)) (upd H p (.lst ws.dropLast)) := .write h1
    refine ⟨p, ws, u, rx, rfl, k1, by rw [k2.length]; exact k3, fe y _ _ _ ew (k4.ext ew) (g.write (go := .lst ds.dropLast) h1 ⟨_, upd_same, RepL.ext ew _ ?_⟩) h6⟩
    rw [List.dropLast_eq_take, List.dropLast_eq_take, k2.length]
    exact k2.take _
  · exact h.elim⟩
/-- xs.index(x), found -/
def fIndex : FM := fun x xs G R => ∃ ds y j z, asL G x = some ds ∧ xs = [y] ∧ flatD y = true ∧ ds.all flatD = true ∧ ds[j]? = some z ∧ eqF z y = true ∧ (∀ m z', m < j → ds[m]? = some z' → eqF z' y = false) ∧ R (.int (j : Nat)) G
theorem m_index {K : PySem.W.Frag} : LiftM K "list" (rIndex K) fIndex cL := ⟨tyL, by
  rintro x a xs vs H G R Q rx rs g ⟨ds, y, j, z, h1, rfl, h2, h3, h4, h5, h6, h7⟩ fe
  obtain ⟨p, ws, rfl, sq, rl⟩ := asL_at rx g h1
  obtain ⟨v, rfl, rv⟩ := rs.one_inv
  obtain ⟨u, k1, k2⟩ := rl.get h4
  have fz : flatD z = true := List.all_eq_true.mp h3 z (List.mem_of_getElem? h4)
  refine ⟨p, ws, v, j, u, rfl, rfl, sq, flat_V rv h2, flatL_V rl h3, k1, by rw [eqF_V k2 rv fz h2]; exact h5, fun m z' hm hz => ?_, fe (.int _) _ G H .refl rfl g h7⟩
  obtain ⟨d, q1, q2⟩ := rl.getV hz
  rw [eqF_V q2 rv (List.all_eq_true.mp h3 d (List.mem_of_getElem? q1)) h2]
  exact h6 m d hm q1⟩
def fInsert : FM := fun x xs G R => match x, xs with
  | .ref p, [.int i, y] => ∃ ds, G p = some (.lst ds) ∧ ds.length < sizeLine ∧ 0 ≤ i ∧ i < 2 ^ 63 ∧ R .non (gset G p (.lst (ds.take i.toNat ++ [y] ++ ds.drop i.toNat)))
  | _, _ => False
def rInsert3 : V → List V → Hp → VK → Prop := fun x vs H Q => ∃ (l : Addr) (xs : List V) (i : Int) (y : V), x = .ref l ∧ vs = [.int i, y] ∧ H l = some (.lst xs) ∧ xs.length < sizeLine ∧ 0 ≤ i ∧ i < 2 ^ 63 ∧ Q .non (upd H l (.lst (xs.take i.toNat ++ [y] ++ xs.drop i.toNat)))
theorem m_insert {K : PySem.W.Frag} : LiftM K "list" rInsert3 fInsert cL := ⟨tyL, by
  intro x a xs vs H G R Q rx rs g h fe
  unfold fInsert at h
  split at h
  · rename_i p i y
    obtain ⟨ds, h1, h2, h3, h4, h5⟩ := h
    obtain ⟨v, u, q, rv, v2, u2, q2, rv2, q3⟩ := rs
    have q3 : u2 = [] := q3
    subst q3 q2 q
    obtain ⟨ws, k1, k2⟩ := g p _ h1
    have ew : Ext G H (gset G p (.lst (ds.take i.toNat ++ [y] ++ ds.drop i.toNat))) (upd H p (.lst (ws.take i.toNat ++ [v2] ++ ws.drop i.toNat))) := .write h1
    refine ⟨p, ws, i, v2, rx, by rw [show v = _ from rv], k1, by rw [k2.length]; exact h2, h3, h4, fe .non _ _ _ ew rfl (g.write (go := .lst (ds.take i.toNat ++ [y] ++ ds.drop i.toNat)) h1 ⟨_, upd_same, RepL.ext ew _ ?_⟩) h5⟩
    exact ((k2.take _).append (.one rv2)).append (k2.drop _)
  · exact h.elim⟩
end L3

set_option Elab.async false
set_option linter.all false
set_option maxRecDepth 100000
namespace L3
open PySem PySem.Spec L2
open PyProof.Rows hiding St

/-! ### the law's own call -/
section
variable {P : Program} {w : World} {K : PySem.W.Frag} {mg mb : Str → Option Value} {k : Nat} {fa a : Addr} {x nm : Str} {S : SP3} {s : Shared} {vs : List Value} {ns : List Int}
/-- what of the heap is tracked at the start: the script, unless the written part holds it -/
def scriptH (K : PySem.W.Frag) (a : Addr) (o : Obj) (xs : List V) : Hp := fun b => if b = a ∧ K.lookup a = none then some (.frz o (.lst xs)) else none
theorem enterG (kin : K.In s.heap) (gl : s.heap.Ns mainGlobals mg) (bu : s.heap.Ns builtinsNs mb) (bo : ∀ y : Str, y ≠ "__name__" → mb y = bootBuiltins y) (nl : s.heap.NoLimit) (ge : s.gens = #[])
    (sc : s.heap.get? a = some { cls := .type "list", data := .seq vs.toArray }) (iv : IntsAre vs ns) (len : ns.length ≤ sizeLine) (room : Room k callerA)
    (F : ∀ base : Heap, Good P w K mg base nm [x] k S) (nam : mg nm = some (.ref fa))
    (hS : ∀ (G : GH) (R : K3) (Ex : X3), (∀ G', R (.bl true) G') → S [.lsx (ns.map D.int)] G R Ex) :
    codeAny (model P w) callerA (.call (.ref fa) ⟨[.ref a], []⟩) (fun r s' => r = .ok (.ret (.bool true)) ∧ OldK s.heap s'.heap ∧ s'.os = s.os ∧ AllBare s'.gens) s := by
  generalize eo : ({ cls := .type "list", data := .seq vs.toArray } : Obj) = ob at sc
  have rv := vals_ints iv
  have lv : vs.length = ns.length := iv.length
  generalize eH : scriptH K a ob (ns.map V.int) = H
  have H1 : ∀ b u, H b = some u → b = a ∧ K.lookup a = none ∧ u = .frz ob (.lst (ns.map V.int)) := fun b u e => by
    rw [← eH] at e
    unfold scriptH at e
    by_cases q : b = a ∧ K.lookup a = none
    · rw [if_pos q] at e
      cases e
      exact ⟨q.1, q.2, rfl⟩
    · rw [if_neg q] at e; cases e
  have H0 : ∀ b, b ≠ a → H b = none := fun b n => by
    cases q : H b with
    | none => rfl
    | some u => exact absurd (H1 b u q).1 n
  have ok : HOk P w H s.heap := fun b u e => by
    obtain ⟨q1, _, q2⟩ := H1 b u e
    rw [q1, q2]
    refine ⟨sc, by rw [List.length_map]; exact len, vs, 0, rv, ?_⟩
    rw [sc, ← eo]
  have dictFree : ∀ {b : Addr} {o : Obj} {es : Array DictEntry} {n : Nat}, s.heap.get? b = some o → o.data = .dict es n → H b = none := fun {b o es n} e d => H0 b fun q => by
    rw [q, sc] at e
    cases e
    rw [← eo] at d
    cases (show Data.seq vs.toArray _ = Data.dict es n from d)
  have nsG : ∀ {b : Addr} {m : Str → Option Value}, s.heap.Ns b m → (hidT s.heap H).Ns b m := fun ⟨o, es, n, e, d, r⟩ => ⟨o, es, n, hidT_get e (dictFree e d), d, r⟩
  have kinG : K.In (hidT s.heap H) := fun b o e => hidT_get (kin b o e) (by
    cases q : H b with
    | none => rfl
    | some u =>
      obtain ⟨q1, q2, _⟩ := H1 b u q
      rw [q1, q2] at e; cases e)
  have md : Mod K mg (hidT s.heap H) := ⟨kinG, nsG gl, ⟨mb, nsG bu, bo⟩, let ⟨mc, p, q⟩ := nl; ⟨mc, nsG p, q⟩⟩
  have env : Env0 P w K mg (hidT s.heap H) callerA [] s H := ⟨rfl, md, fun _ _ e => of_hidT e, Nat.le_of_eq (hidT_size _ _), trivial, fun b hb => absurd (show b ∈ ([] : List Addr) from hb) List.not_mem_nil, ok, .of_eq ge⟩
  have rep : RepL K H (fun _ => none) [D.lsx (ns.map D.int)] [V.ref a] := .one ⟨a, ns.map V.int, rfl, by
    cases q : K.lookup a with
    | none => exact .inl ⟨rfl, .inr ⟨ob, by rw [← eH]; exact if_pos ⟨rfl, q⟩⟩⟩
    | some o =>
      have e := kin a o q
      rw [sc] at e
      cases e
      refine .inr ⟨ob, vs.toArray, 0, q, by rw [← eo], by rw [← eo], ?_, by rw [List.size_toArray, lv]; exact len, by simpa using rv⟩
      rw [← eo], RepL.ints⟩
  have want : sp3 K 1 S [V.ref a] H (fun v _ => v = .bl true) (fun _ _ _ => False) := ⟨_, fun _ => none, fun d _ => d = .bl true, fun _ _ _ _ => False, rfl, rep, (fun _ _ z => by cases z), hS _ _ _ fun _ => rfl, fun d v _ _ _ r _ e => by
    rw [e] at r
    exact r, fun _ _ _ _ _ _ _ _ _ _ _ z => z.elim⟩
  obtain ⟨f, fd, hm, _, bt, FG⟩ := (F (hidT s.heap H)).ex
  obtain rfl : fa = f := by
    rw [nam] at hm
    cases hm
    rfl
  refine codeAny_mono (FG.run callerA [] s H ⟨[.ref a], []⟩ [.ref a] [.ref a] _ _ room rfl env (bt s [.ref a] kin rfl) (.cons rfl .nil) want) fun r s' h => ?_
  rcases r with e | fl
  · obtain ⟨_, _, _, _, _, _, _, _, _, _, _, _, z⟩ := h
    exact z.elim
  · cases fl with
    | next => exact h.elim
    | brk => exact h.elim
    | cont => exact h.elim
    | ret u =>
      obtain ⟨v, H', os, bare, un, ok', ru, q⟩ := h
      obtain rfl : v = .bl true := q
      obtain rfl : u = Value.bool true := ru
      refine ⟨rfl, OldK.of_keep fun b o e => ?_, os, bare⟩
      cases q : H b with
      | none => exact un.keep b o e q (fun z => absurd (show b ∈ ([] : List Addr) from z) List.not_mem_nil) (by simp)
      | some u =>
        obtain ⟨_, _, rfl⟩ := H1 b u q
        obtain ⟨e1, _⟩ := ok b _ q
        obtain ⟨e2, _⟩ := ok' b _ (un.frzs b _ _ q)
        rw [e] at e1
        cases e1
        exact e2
end

/-! ### what the top leaves, asked by one Bool -/
def frM (n : Nat) (g : Addr → Option Obj) : PySem.W.Frag := He.frG g (sysModules :: He.asD g n)
abbrev AlM : Type := Bool × List He.FnW
def obsK (fn : List He.DefD) (ex : PySem.W.Frag → Bool) (K : PySem.W.Frag) : AlM := (ex K && fn.all fun d => d.ok K, fn.map fun d => He.fnW K d.at_)
def valM (fn : List He.DefD) : AlM := (true, fn.map He.DefD.val)
structure SaysM (fn : List He.DefD) (ex : PySem.W.Frag → Bool) (K : PySem.W.Frag) : Prop where
  eq : obsK fn ex K = valM fn
def obsM (n : Nat) (fn : List He.DefD) (ex : PySem.W.Frag → Bool) (g : Addr → Option Obj) : AlM := obsK fn ex (frM n g)
def hookM (n : Nat) (fn : List He.DefD) (ex : PySem.W.Frag → Bool) : PySem.W.Hook where
  α := AlM
  obs := fun s => obsM n fn ex s.heap.get?
  val := fun _ => valM fn
  says := fun _ h => ∃ K : PySem.W.Frag, K.In h ∧ SaysM fn ex K
  of := fun _ _ e => ⟨_, He.frG_in, ⟨e⟩⟩
  keeps := fun _ _ _ ⟨K, hK, c⟩ k => ⟨K, PySem.W.Frag.In.keeps hK k, c⟩
theorem obsM_eq {n : Nat} {fn : List He.DefD} {ex : PySem.W.Frag → Bool} {g : Addr → Option Obj} {s : Shared} (h : ∀ a, g a = s.heap.get? a) : obsM n fn ex g = (hookM n fn ex).obs s := by
  obtain rfl : g = s.heap.get? := funext h
  rfl
section
variable {fn : List He.DefD} {ex : PySem.W.Frag → Bool} {K : PySem.W.Frag}
theorem SaysM.both (c : SaysM fn ex K) : ex K = true ∧ (fn.all fun d => d.ok K) = true := Bool.and_eq_true_iff.mp (congrArg (fun z : AlM => z.1) c.eq)
theorem SaysM.more (c : SaysM fn ex K) : ex K = true := c.both.1
theorem SaysM.funD (c : SaysM fn ex K) (i : Nat) {d : He.DefD} (h : fn[i]? = some d := by rfl) : ∃ fd, FunD K d.name d.qual d.params d.body d.scope (d.dvs K) (d.kws K) (He.fAd K d.at_) fd := by
  have e : fn.map (fun d => He.fnW K d.at_) = fn.map He.DefD.val := congrArg (fun z : AlM => z.2) c.eq
  have e2 : (fn.map fun d => He.fnW K d.at_)[i]? = (fn.map He.DefD.val)[i]? := by rw [e]
  rw [List.getElem?_map, List.getElem?_map, h] at e2
  exact He.DefD.funD (Option.some.inj e2) (List.all_eq_true.mp c.both.2 d (List.mem_of_getElem? h))
end
/-- a plain def of the module -/
def dfn (nm : Str) (st : Stmt) : He.DefD := ⟨(nm, none), nm, nm, defArgs st, defBody st, defScope st, [], []⟩
section
variable {fn : List He.DefD} {ex : PySem.W.Frag → Bool} {K : PySem.W.Frag} {mg : Str → Option Value} {h : Heap}
theorem SaysM.defAt (c : SaysM fn ex K) (X : K.In h) (g : h.Ns mainGlobals mg) (i : Nat) {nm : Str} {st : Stmt} {ps : List Str} (hi : fn[i]? = some (dfn nm st)) (hg : PySem.W.nsIn K mainGlobals nm = some (some (.ref (He.ga K nm))))
    (hb : ∀ (kV doc pm : Value) (an : Option Addr) (cdv ct : Value) (us : List Value), us.length = ps.length → bindArgs (PySem.W.fnOf nm nm (defArgs st) (defBody st) (defScope st) .none kV doc pm an cdv ct) ⟨us, []⟩ = pure (ps.zip us)) : DefAt K mg nm st ps := by
  obtain ⟨fd, F⟩ := c.funD i hi
  have b : Binds K fd ps [] := FunD.bindsN F hb
  have m : mg nm = some (.ref (He.ga K nm)) := PySem.W.mg_of X g hg
  obtain ⟨oc, od, dV, kV, doc, pm, an, cdv, ct, osl, e, lk, hcd, hD, _⟩ := F.ex
  have kp := F.kp
  have hd : dV = .none := by
    rcases hD with ⟨_, a⟩ | ⟨a, _⟩
    · exact a
    · exact absurd rfl a
  subst hd
  exact ⟨_, fd, m, ⟨⟨oc, od, kV, doc, pm, an, cdv, ct, osl, e, lk, hcd⟩, kp⟩, b⟩
end

/-! ### facts -/
mutual
def repB (K : PySem.W.Frag) : D → Value → Bool
  | .non, .none => true
  | .bl b, .bool c => b == c
  | .int i, .int j _ => decide (i = j)
  | .str x, .str y _ => decide (x = y)
  | .tup ds, .ref a => (match K.lookup a with
    | some ⟨.type c, _, .seq its _, _⟩ => decide (c = "tuple") && (decide (its.size ≤ sizeLine) && repBs K ds its.toList)
    | _ => false)
  | .lsx ds, .ref a => (match K.lookup a with
    | some ⟨.type c, none, .seq its _, _⟩ => decide (c = "list") && (decide (its.size ≤ sizeLine) && repBs K ds its.toList)
    | _ => false)
  | _, _ => false
def repBs (K : PySem.W.Frag) : List D → List Value → Bool
  | [], [] => true
  | d :: ds, u :: us => repB K d u && repBs K ds us
  | _, _ => false
end
mutual
theorem repB_ok {K : PySem.W.Frag} : ∀ (d : D) (u : Value), repB K d u = true → ∃ v, RelV v u ∧ ∀ H G, Rep K H G d v
  | .non, u, h => by
    cases u <;> simp only [repB, Bool.false_eq_true] at h
    exact ⟨.non, rfl, fun _ _ => rfl⟩
  | .bl b, u, h => by
    cases u <;> simp only [repB, Bool.false_eq_true] at h
    rename_i c
    obtain rfl : b = c := eq_of_beq h
    exact ⟨.bl b, rfl, fun _ _ => rfl⟩
  | .int i, u, h => by
    cases u <;> simp only [repB, Bool.false_eq_true] at h
    rename_i j t
    obtain rfl : i = j := of_decide_eq_true h
    exact ⟨.int i, ⟨t, rfl⟩, fun _ _ => rfl⟩
  | .str x, u, h => by
    cases u <;> simp only [repB, Bool.false_eq_true] at h
    rename_i y t
    obtain rfl : x = y := of_decide_eq_true h
    exact ⟨.str x, ⟨t, rfl⟩, fun _ _ => rfl⟩
  | .tup ds, u, h => by
    cases u <;> simp only [repB, Bool.false_eq_true] at h
    rename_i a
    split at h
    · rename_i c od its n sl e
      rw [Bool.and_eq_true, Bool.and_eq_true] at h
      obtain ⟨h1, h2, h3⟩ := h
      obtain ⟨vs, r, k⟩ := repBs_ok ds its.toList h3
      exact ⟨.ref a, rfl, fun H G => ⟨a, vs, rfl, .inr ⟨_, its, n, e, congrArg Value.type (of_decide_eq_true h1), rfl, of_decide_eq_true h2, r⟩, k H G⟩⟩
    · cases h
  | .lsx ds, u, h => by
    cases u <;> simp only [repB, Bool.false_eq_true] at h
    rename_i a
    split at h
    · rename_i c its n sl e
      rw [Bool.and_eq_true, Bool.and_eq_true] at h
      obtain ⟨h1, h2, h3⟩ := h
      obtain ⟨vs, r, k⟩ := repBs_ok ds its.toList h3
      exact ⟨.ref a, rfl, fun H G => ⟨a, vs, rfl, .inr ⟨_, its, n, e, congrArg Value.type (of_decide_eq_true h1), rfl, rfl, of_decide_eq_true h2, r⟩, k H G⟩⟩
    · cases h
  | .lst _, u, h => by cases u <;> simp only [repB, Bool.false_eq_true] at h
  | .ty _, u, h => by cases u <;> simp only [repB, Bool.false_eq_true] at h
  | .dct _ _, u, h => by cases u <;> simp only [repB, Bool.false_eq_true] at h
  | .ins _ _ _, u, h => by cases u <;> simp only [repB, Bool.false_eq_true] at h
  | .ref _, u, h => by cases u <;> simp only [repB, Bool.false_eq_true] at h
  | .tpf _, u, h => by cases u <;> simp only [repB, Bool.false_eq_true] at h
  | .exc _ _ _ _, u, h => by cases u <;> simp only [repB, Bool.false_eq_true] at h
theorem repBs_ok {K : PySem.W.Frag} : ∀ (ds : List D) (us : List Value), repBs K ds us = true → ∃ vs, Vals vs us ∧ ∀ H G, RepL K H G ds vs
  | [], us, h => by
    cases us with
    | nil => exact ⟨[], .nil, fun _ _ => rfl⟩
    | cons _ _ => simp only [repBs, Bool.false_eq_true] at h
  | d :: ds, us, h => by
    cases us with
    | nil => simp only [repBs, Bool.false_eq_true] at h
    | cons u us =>
      simp only [repBs, Bool.and_eq_true] at h
      obtain ⟨v, r, k⟩ := repB_ok d u h.1
      obtain ⟨vs, r2, k2⟩ := repBs_ok ds us h.2
      exact ⟨v :: vs, .cons r r2, fun H G => ⟨v, vs, rfl, k H G, k2 H G⟩⟩
end
/-- an exception class of the module: no __init__ of its own, a ValueError -/
structure ExcT (K : PySem.W.Frag) (mg : Str → Option Value) (x : Str) (C : Addr) : Prop where
  gC : mg x = some (.ref C)
  q : PySem.W.excIn K C He.veBase "ValueError.__new__" = true
  kC : PySem.W.keepIn K (.ref C) = true
  sb : PySem.W.subIn K (.ref C) (.type "BaseException") = some true
  tp : PySem.W.typeIn K (.ref C) = some (.type "type")
  c : ExcC K C
def sysB (K : PySem.W.Frag) : Bool := match K.lookup sysModules with
  | some ⟨_, _, .dict _ _, _⟩ => true
  | _ => false
theorem sysB_ok {K : PySem.W.Frag} (h : sysB K = true) : ∃ o es n, K.lookup sysModules = some o ∧ o.data = .dict es n := by
  unfold sysB at h
  split at h
  · rename_i c d es n sl e
    exact ⟨_, es, n, e, rfl⟩
  · cases h
inductive Fc where
  | glo (x : Str)
  | free (x : Str)
  | dat (x : Str) (d : D)
  | exc (x : Str)
  | exm (x y : Str) (b : Bool)
  | kit (x y : Str) (b : Bool)
  | kitB (x : Str) (n : String) (b : Bool)
  | sys
def Fc.ok (K : PySem.W.Frag) : Fc → Bool
  | .glo x => He.eqO (PySem.W.nsIn K mainGlobals x) (some (some (.ref (He.ga K x))))
  | .free x => He.eqO (PySem.W.nsIn K mainGlobals x) (some none)
  | .dat x d => (match PySem.W.nsIn K mainGlobals x with
    | some (some u) => repB K d u
    | _ => false)
  | .exc x => He.eqO (PySem.W.nsIn K mainGlobals x) (some (some (.ref (He.ga K x)))) && (PySem.W.excIn K (He.ga K x) He.veBase "ValueError.__new__" && (PySem.W.keepIn K (.ref (He.ga K x)) &&
      (decide (PySem.W.subIn K (.ref (He.ga K x)) (.type "BaseException") = some true) && (decide (PySem.W.typeIn K (.ref (He.ga K x)) = some (.type "type")) &&
      (He.eqO (PySem.W.findIn K (.ref (He.ga K x)) "__getattribute__") (some (some (.builtin "BaseException.__getattribute__"))) && (He.eqO (PySem.W.findIn K (.ref (He.ga K x)) "__getattr__") (some none) &&
      (PySem.W.hasDictIn K (He.ga K x) && (He.eqO (PySem.W.findIn K (.ref (He.ga K x)) "__class__") (some (some (.builtin "object.__class__"))) &&
      (He.eqO (PySem.W.specialIn K (.builtin "object.__class__") "__get__") (some (some (.builtin "getset_descriptor.__get__"))) && (decide (PySem.W.takesIn K (.builtin "object.__class__") = some true) &&
      decide (PySem.W.mroIn K (He.ga K x) (.type "object") = some true)))))))))))
  | .exm x y b => decide (PySem.W.exmOne K (.ref (He.ga K x)) (.ref (He.ga K y)) = some b)
  | .kit x y b => decide (PySem.W.kitOne K (.ref (He.ga K x)) (.ref (He.ga K y)) = some b)
  | .kitB x n b => decide (PySem.W.kitOne K (.ref (He.ga K x)) (.type n) = some b)
  | .sys => sysB K
section
variable {K : PySem.W.Frag} {h : Heap} {mg : Str → Option Value}
theorem Fc.glo_ok {x : Str} (c : (Fc.glo x).ok K = true) : PySem.W.nsIn K mainGlobals x = some (some (.ref (He.ga K x))) := He.eqO_ok c
theorem Fc.free_ok (X : K.In h) (G : h.Ns mainGlobals mg) {x : Str} (c : (Fc.free x).ok K = true) : mg x = none := PySem.W.mg_none_of X G (He.eqO_ok c)
theorem Fc.dat_ok (X : K.In h) (G : h.Ns mainGlobals mg) {x : Str} {d : D} (c : (Fc.dat x d).ok K = true) : ∃ u v, mg x = some u ∧ RelV v u ∧ ∀ H G, Rep K H G d v := by
  simp only [Fc.ok] at c
  split at c
  · rename_i u e
    obtain ⟨v, r, k⟩ := repB_ok d u c
    exact ⟨u, v, PySem.W.mg_of X G e, r, k⟩
  · cases c
theorem Fc.exc_ok (X : K.In h) (G : h.Ns mainGlobals mg) {x : Str} (c : (Fc.exc x).ok K = true) : ExcT K mg x (He.ga K x) := by
  simp only [Fc.ok] at c
  simp only [Bool.and_eq_true] at c
  obtain ⟨c1, c2, c3, c4, c5, c6, c7, c8, c9, c10, c11, c12⟩ := c
  exact ⟨PySem.W.mg_of X G (He.eqO_ok c1), c2, c3, of_decide_eq_true c4, of_decide_eq_true c5, He.eqO_ok c6, He.eqO_ok c7, of_decide_eq_true c4, c8, He.eqO_ok c9, He.eqO_ok c10, of_decide_eq_true c11, of_decide_eq_true c12⟩
theorem Fc.exm_ok {x y : Str} {b : Bool} (c : (Fc.exm x y b).ok K = true) : PySem.W.exmOne K (.ref (He.ga K x)) (.ref (He.ga K y)) = some b := of_decide_eq_true c
theorem Fc.kit_ok {x y : Str} {b : Bool} (c : (Fc.kit x y b).ok K = true) : PySem.W.kitOne K (.ref (He.ga K x)) (.ref (He.ga K y)) = some b := of_decide_eq_true c
theorem Fc.kitB_ok {x : Str} {n : String} {b : Bool} (c : (Fc.kitB x n b).ok K = true) : PySem.W.kitOne K (.ref (He.ga K x)) (.type n) = some b := of_decide_eq_true c
end
def exOf (fs : List Fc) (K : PySem.W.Frag) : Bool := fs.all fun f => f.ok K
/-- what the top left: the walk's one premise -/
structure Top (fn : List He.DefD) (fs : List Fc) (K : PySem.W.Frag) (mg : Str → Option Value) : Prop where
  ex : ∃ h : Heap, K.In h ∧ h.Ns mainGlobals mg
  c : SaysM fn (exOf fs) K
section
variable {fn : List He.DefD} {fs : List Fc} {K : PySem.W.Frag} {mg : Str → Option Value}
theorem Top.fc (T : Top fn fs K mg) (i : Nat) {f : Fc} (h : fs[i]? = some f := by rfl) : f.ok K = true := List.all_eq_true.mp T.c.more f (List.mem_of_getElem? h)
theorem Top.free (T : Top fn fs K mg) (i : Nat) {x : Str} (h : fs[i]? = some (.free x) := by rfl) : mg x = none := let ⟨_, X, G⟩ := T.ex; Fc.free_ok X G (T.fc i h)
theorem Top.dat (T : Top fn fs K mg) (i : Nat) {x : Str} {d : D} (h : fs[i]? = some (.dat x d) := by rfl) : ∃ u v, mg x = some u ∧ RelV v u ∧ ∀ H G, Rep K H G d v := let ⟨_, X, G⟩ := T.ex; Fc.dat_ok X G (T.fc i h)
theorem Top.exc (T : Top fn fs K mg) (i : Nat) {x : Str} (h : fs[i]? = some (.exc x) := by rfl) : ExcT K mg x (He.ga K x) := let ⟨_, X, G⟩ := T.ex; Fc.exc_ok X G (T.fc i h)
theorem Top.def_ (T : Top fn fs K mg) (i j : Nat) {nm : Str} {st : Stmt} {ps : List Str} (hi : fn[i]? = some (dfn nm st)) (hj : fs[j]? = some (.glo nm))
    (hb : ∀ (kV doc pm : Value) (an : Option Addr) (cdv ct : Value) (us : List Value), us.length = ps.length → bindArgs (PySem.W.fnOf nm nm (defArgs st) (defBody st) (defScope st) .none kV doc pm an cdv ct) ⟨us, []⟩ = pure (ps.zip us)) : DefAt K mg nm st ps :=
  let ⟨_, X, G⟩ := T.ex; T.c.defAt X G i hi (Fc.glo_ok (T.fc j hj)) hb
theorem Top.sysM (T : Top fn fs K mg) (i : Nat) (h : fs[i]? = some .sys := by rfl) : sysB K = true := T.fc i h
end
/-- the goal of the head's end, from the law's own promise -/
theorem walk_ofM {l : PySem.W.OpenLaw} {n k : Nat} {q : Program} {loose : List Str} {XP : (Str → Option Value) → Heap → Prop} {d : DefRec} {x nm : Str} {fn : List He.DefD} {fs : List Fc} {S : PySem.W.Frag → SP3}
    (hn : l.most = some n) (hn2 : n ≤ sizeLine) (hdf : d.params.defaults = []) (hr : Room k callerA) (hnm : d.name = nm)
    (F : ∀ (w : World) (K : PySem.W.Frag) (mg : Str → Option Value) (base : Heap), Top fn fs K mg → Good l.prog w K mg base nm [x] k (S K))
    (fin : ∀ (K : PySem.W.Frag) (mg : Str → Option Value) (ns : List Int), Top fn fs K mg → ns.length ≤ n → (∀ z ∈ ns, Builtin.Int.intBits z ≤ 1048576) → ∀ (G : GH) (R : K3) (Ex : X3), (∀ G', R (.bl true) G') → S K [.lsx (ns.map D.int)] G R Ex) :
    PySem.W.WalkO q loose XP (fun _ h => ∃ K : PySem.W.Frag, K.In h ∧ SaysM fn (exOf fs) K) l.row.toRowW d [] (fun f vs => PySem.call f vs) := by
  refine Att.attach_callB hn hdf fun w s0 s1 mg mb fa o pm cd doc a vs ns G Y ho hd hcd hmg hobj hints hlen hbits hgen => ?_
  obtain ⟨K, KX, c⟩ := Y
  have T : Top fn fs K mg := ⟨⟨_, KX, G.T.g⟩, c⟩
  exact enterG KX G.T.g G.T.b G.T.builtins G.T.nolimit hgen hobj hints (Nat.le_trans hlen hn2) hr (fun base => F w K mg base T) (by rw [← hnm]; exact hmg) fun G R Ex h => fin K mg ns T hlen hbits G R Ex h
section
theorem c_dat {X : Cx} {W : WX} {x : Str} {d : D} {pos : Pos} (hm : ∃ u v, X.mg x = some u ∧ RelV v u ∧ ∀ H G, Rep X.K H G d v) (hg : Gl X x := by rfl) (hd : (x == ("__debug__" : Str)) = false := by decide) : PE X (.Name x pos) (up X.K W (wC d)) :=
  let ⟨_, _, h1, h2, h3⟩ := hm; c_glob h1 h2 h3 hg hd
theorem c_cls {X : Cx} {W : WX} {x : Str} {C : Addr} {pos : Pos} (hm : ExcT X.K X.mg x C) (hg : Gl X x := by rfl) (hd : (x == ("__debug__" : Str)) = false := by decide) : PE X (.Name x pos) (up X.K W (wC (.ref C))) :=
  c_glob (v := .ref C) hm.gC rfl (fun _ _ => rfl) hg hd
end
end L3

set_option Elab.async false
set_option linter.all false
set_option maxRecDepth 100000
namespace L3
open PySem PySem.Spec L2
open PyProof.Rows hiding St

/-! ### raise X() -/
section
variable {X : Cx} {W : WX} {x : Str} {C : Addr} {p pos pos' : Pos}
theorem pmk_own0 (T : ExcT X.K X.mg x C) (hg : Gl X x) (hdb : (x == ("__debug__" : Str)) = false) : PMk X (.Call (.Name x p) [] [] pos) (fun _ H Q => Q (.ref C) none H) := by
  intro pins s σ H Q I h
  refine wpAny_Call_Name_kw (ld_glob I hg T.gC ?_ hdb)
  refine PySem.W.callWith_K0 I.kIn T.kC ?_
  obtain ⟨bm, N, nm, qn, bs, hdct, sn, sub, ab, col, dd, k0, k1, k2, k3, k5, mN, hC, hN, hni, tl⟩ := exc_obj I.kIn T.q
  refine wpAny_call_exc_subT PySem.F.excBase_ValueError tl hC hN hni (fun h' e hm => ?_) (Nat.zero_le _)
  exact mk_of I hm (raises_own T.sb T.tp) h (I.hok.gone hm.new)
def wRaise (C : Addr) : S3 := fun E env G => E.ex (.ref C) none env G
theorem s_raise (T : ExcT X.K X.mg x C) (hc : X.calm = true) (tk : Takes X W) (hg : Gl X x := by rfl) (hdb : (x == ("__debug__" : Str)) = false := by decide) :
    PS X (.Raise (some (.Call (.Name x p) [] [] pos)) none pos') (upS X.K W (wRaise C)) := PS.imp (ps_raise hc tk (pmk_own0 T hg hdb)) fun D σ H ⟨env, G, E, re, rg, h, f⟩ =>
  f.ex (.ref C) none none env σ G H .refl re rg rfl h
end

/-- p, pinned, is the exception that is held: class, no dict -/
structure Held (X : Cx) (a : Addr) (cls : Value) : Prop where
  ex : ∃ oe : Obj, (a, oe) ∈ X.pn ∧ oe.cls = cls ∧ oe.dict = none ∧ ∃ vs, oe.data = .fields vs
/-! ### try: body, except x as n: suite -/
/-- c the class; i the slot of n; an exception without fields -/
def wTry (K : PySem.W.Frag) (c : Value) (i : Nat) (wb : S3) (ws : Addr → Value → S3) : S3 := fun E env G =>
  wb { E with ex := fun cls fs env1 G1 => ∃ b, PySem.W.exmOne K cls c = some b ∧
    (b = true → fs = none ∧ ∀ a, G1 a = none → ws a cls { nx := fun env2 G2 => E.nx (env2.set i none) G2, rt := E.rt, bk := fun env2 G2 => E.bk (env2.set i none) G2, ct := fun env2 G2 => E.ct (env2.set i none) G2, ex := noX } (env1.set i (some (.ref a))) G1) ∧
    (b = false → E.ex cls fs env1 G1) } env G
section
variable {X : Cx} {W : WX} {x n : Str} {c : Value} {body suite : List Stmt} {b0 : Stmt} {np pos pos' : Pos} {wb : S3} {ws : Addr → Value → S3}
theorem s_try (i : Nat) (hs : X.stack = X.env :: X.outer) (hf : X.env.frame = some X.env.locals) (hN : X.N.Nodup) (hi : X.N[i]? = some n) (hln : X.env.kindOf n = some .local) (hc : Names X x c) (tk : Takes X W)
    (hb : ∀ (W1 : WX) (pn : List (Addr × Obj)) (xe : Value → Shared → Prop), Takes (X.tr pn xe) W1 → PassesOwn (model X.prog X.w) X.A X.env xe → PSs (X.tr pn xe) body (upS X.K W1 wb))
    (hsu : ∀ (a : Addr) (oe : Obj) (cls : Value) (pn : List (Addr × Obj)), Held (X.suite a ((a, oe) :: pn)) a cls → PSs (X.suite a ((a, oe) :: pn)) (b0 :: suite) (upS X.K W0 (ws a cls))) :
    PS X (.Try body [.ExceptHandler (some (.Name x np)) (some n) (b0 :: suite) pos'] [] [] pos) (upS X.K W (wTry X.K c i wb ws)) := by
  refine PS.imp (ps_try_as (tb := fun W1 => upS X.K W1 wb) (ts := fun a cls d D σ H => d = none ∧ upS X.K W0 (ws a cls) D σ H) hs hf hN hi hln hc tk hb fun a oe cls d pn hz hf => ?_) fun D σ H ⟨env, G, E, re, rg, h, f⟩ => ?_
  · refine ⟨fun pins s σ H D I ⟨hd, hh⟩ => ?_⟩
    exact (hsu a oe cls pn ⟨⟨oe, List.mem_cons_self, hz.1, by rw [hz.2]; exact hd, hf⟩⟩).run pins s σ H D I hh
  refine upS_go re rg h ⟨f.nx, f.rt, f.bk, f.ct, fun cls fs d env1 σ1 G1 H1 e1 re1 rg1 rx ⟨b, h1, h2, h3⟩ => ⟨b, h1, fun hb1 a ha => ?_, fun hb1 => f.ex cls fs d env1 σ1 G1 H1 e1 re1 rg1 rx (h3 hb1)⟩⟩
  obtain ⟨q, k2⟩ := h2 hb1
  subst q
  have g1 := k2 a (rg1.fresh ha)
  have f1 := f.ext e1
  refine ⟨rx, upS_go (re1.set (d := .ref a) (v := .ref a) rfl i) rg1 g1 ⟨fun env2 σ2 G2 H2 e2 re2 rg2 q => ?_, f1.rt, fun env2 σ2 G2 H2 e2 re2 rg2 q => ?_, fun env2 σ2 G2 H2 e2 re2 rg2 q => ?_, nox0⟩⟩
  · exact f1.nx _ _ G2 H2 e2 (re2.unset i) rg2 q
  · exact f1.bk _ _ G2 H2 e2 (re2.unset i) rg2 q
  · exact f1.ct _ _ G2 H2 e2 (re2.unset i) rg2 q
end

/-! ### the exception in hand: isinstance, defs called with it -/
def rIsH (K : PySem.W.Frag) (a : Addr) (cls : Value) : List V → Hp → VK → Prop := fun xs H Q => ∃ (D : Addr) (c : V) (cv : Value) (b : Bool), cls = .ref D ∧ ExcC K D ∧ xs = [.ref a, c] ∧ ClsV c cv ∧ PySem.W.kitOne K (.ref D) cv = some b ∧ Q (.bl b) H
theorem call_isH {X : Cx} {a : Addr} {cls : Value} (h : Held X a cls) : CallR X (.builtin "isinstance") (rIsH X.K a cls) := by
  rintro pins s σ H xs us Q I r ⟨D, c, cv, b, rfl, C, rfl, hcv, e, q⟩
  obtain ⟨u1, u2, rfl, r1, r2⟩ := vals2 r
  obtain rfl : u1 = Value.ref a := r1
  obtain rfl := hcv.eq r2
  obtain ⟨⟨oc, od, dt, sl⟩, m, h1, h2, vs, h3⟩ := h.ex
  dsimp only at h1 h2 h3
  subst h1 h2 h3
  have hget := (I.pin _ (List.mem_append_left _ m)).1
  refine PySem.W.kia_one (PySem.W.handS_kitx_exc C.hg C.hk C.hs C.hd C.ha C.hn C.ht C.hm) I.kIn (s := s) (x := .ref a) ⟨hget, rfl, rfl, trivial⟩ e (fun z => nomatch z) fun tk => ?_
  exact ⟨.bl b, H, I.kept (t' := tk) fun _ _ z => z, rfl, q⟩
def fIsH (K : PySem.W.Frag) (a : Addr) (cls : Value) : FA := fun xs G R => match xs with
  | [.ref b, c] => b = a ∧ ∃ D u r, cls = .ref D ∧ ExcC K D ∧ clsD c = some u ∧ PySem.W.kitOne K (.ref D) u = some r ∧ R (.bl r) G
  | _ => False
theorem lift_isH {K : PySem.W.Frag} {a : Addr} {cls : Value} : LiftC K (rIsH K a cls) (fIsH K a cls) := by
  intro xs vs H G R Q r g h fe
  unfold fIsH at h
  split at h
  · obtain ⟨rfl, D, u, b, h0, hC, h1, h2, h3⟩ := h
    obtain ⟨v1, r1, e1, a1, v2, r2, e2, a2, e3⟩ := r
    have e3 : r2 = [] := e3
    subst e3 e2 e1
    exact ⟨D, v2, u, b, h0, hC, by rw [show v1 = _ from a1], clsD_V a2 h1, h2, fe (.bl b) _ G H .refl rfl g h3⟩
  · exact h.elim

/-- a def's promise within an except suite; p: the exception's object -/
structure FnE (P : Program) (w : World) (K : PySem.W.Frag) (mg : Str → Option Value) (base : Heap) (k : Nat) (f : Addr) (fd : FuncData) (ps : List Str) (sp : Addr → Value → Sp) : Prop where
  len : ∀ a c vs H Q E, sp a c vs H Q E → vs.length = ps.length
  run : ∀ (A : Around) (outer : List Env) (s : Shared) (H : Hp) (args : Args) (us : List Value) (vs : List V) (Q : VK) (E : XK) (p : Addr × Obj) (c : Value), L2H.RoomH k A → A.guards = some [] → (p.2.cls = c ∧ p.2.dict = none ∧ ∃ fs, p.2.data = .fields fs) →
    L2H.PinOk outer H s p → Env0 P w K mg base A outer s H → BindsTo s fd args (ps.zip us) → Vals vs us → sp p.1 c vs H Q E → codeAny (model P w) A (.call (.ref f) args) (CR (L2.CX P w) outer P w H s Q E) s
section
variable {P : Program} {w : World} {K : PySem.W.Frag} {mg : Str → Option Value} {base : Heap}
theorem fn_E {k : Nat} {f : Addr} {nm ql : Str} {pa : Arguments} {bd : List Stmt} {sc : Scope} {dV kV dc pm cv ct oc : Value} {an od : Option Addr} {sl : Array (Option Value)} {N ps : List Str} {sp : Addr → Value → Sp}
    (lk : K.lookup f = some ⟨oc, od, .func (PySem.W.fnOf nm ql pa bd sc dV kV dc pm an cv ct), sl⟩) (hc : PySem.W.codeIn K cv ql = true) (S : FnScope N ps sc)
    (len : ∀ a c vs H Q E, sp a c vs H Q E → vs.length = ps.length)
    (hb : ∀ (A : Around) (outer : List Env) (s : Shared) (H : Hp) (vs : List V) (Q : VK) (E : XK) (p : Addr × Obj) (c : Value), A.guards = some [] → L2H.RoomH k (A.deeper (envOfC ql sc s.heap.objs.size f cv)) → (p.2.cls = c ∧ p.2.dict = none ∧ ∃ fs, p.2.data = .fields fs) → sp p.1 c vs H Q E →
      ∃ t, PSs (L2H.cxH (L2.CX P w) P w K mg base N ql sc f cv A outer s H E p) bd t ∧ t { nx := fun _ H' => Q .non H', rt := Q } (start N vs) H) :
    FnE P w K mg base (k + 1) f (PySem.W.fnOf nm ql pa bd sc dV kV dc pm an cv ct) ps sp := by
  constructor
  · exact len
  intro A outer s H args us vs Q E p c hr hg hp pin e0 bt rv hs
  have there := fun b o e => (e0.bs b o e).1
  have kin := e0.mod.kin.keeps there
  refine codeAny_call_function hr.depth (kin _ _ lk) rfl S.co S.gen rfl (PySem.W.codeRec_of kin hc) (bt _ _ _ _ ?_)
  have kinds : ∀ y ∈ ps.zip us, sc.names.lookup y.1 = some .local ∨ (sc.names.lookup y.1 = some .cell ∧ ((cellsFrom (s.heap.objs.size + 1) sc.names []).lookup y.1).isSome = true) := by
    rintro ⟨n, v⟩ hy
    cases S.par n (List.of_mem_zip hy).1 with
    | inl q => exact .inl q
    | inr q => exact .inr ⟨q, PySem.W.cellsFrom_some _ _ _ (.inl q)⟩
  refine wpAny_newFunctionEnv_cells S.kind kinds fun env he s1 x => ?_
  subst he
  have nolim := e0.mod.nolimit.keeps there
  refine ⟨nolim.keeps x.toInCall.keep, codeAny_func ?_⟩
  obtain ⟨t, ht, hq⟩ := hb A outer s H vs Q E p c hg (hr.deeper _) hp hs
  have I := L2H.inv_startH (CX := L2.CX P w) (w := w) (E := E) (N := N) S pin e0 (len _ _ _ _ _ _ hs) rv x
  refine wpAny_mono (ht.run [] s1 _ H _ I hq) (fun fl s' o => ?_) fun _ _ o => o
  cases fl with
  | next =>
    obtain ⟨σ', H', J, q⟩ := o
    exact ⟨.non, H', J.os, J.bare, J.base, J.hok, rfl, q⟩
  | ret u =>
    obtain ⟨v, σ', H', J, r', q⟩ := o
    exact ⟨v, H', J.os, J.bare, J.base, J.hok, r', q⟩
  | brk =>
    obtain ⟨_, _, _, q⟩ := o
    exact (show False from q).elim
  | cont =>
    obtain ⟨_, _, _, q⟩ := o
    exact (show False from q).elim
end
abbrev SE3 := Addr → Value → SP3
structure GoodE (P : Program) (w : World) (K : PySem.W.Frag) (mg : Str → Option Value) (base : Heap) (nm : Str) (ps : List Str) (k : Nat) (S : SE3) : Prop where
  ex : ∃ f fd, mg nm = some (.ref f) ∧ PySem.W.keepIn K (.ref f) = true ∧ Binds K fd ps [] ∧ FnE P w K mg base k f fd ps (fun a c => sp3 K ps.length (S a c))
abbrev cxE (P : Program) (w : World) (K : PySem.W.Frag) (mg : Str → Option Value) (base : Heap) (N : List Str) (nm : Str) (sc : Scope) (f : Addr) (cd : Value) (A : Around) (outer : List Env) (s : Shared) (H : Hp) (E : XK) (p : Addr × Obj) : Cx :=
  L2H.cxH (L2.CX P w) P w K mg base N nm sc f cd A outer s H E p
section
variable {P : Program} {w : World} {K : PySem.W.Frag} {mg : Str → Option Value} {base : Heap}
theorem goodE_of {nm : Str} {st : Stmt} {N ps : List Str} {k : Nat} {S : SE3} (d : DefAt K mg nm st ps) (sc : FnScope N ps (defScope st))
    (hb : ∀ (f : Addr) (cd : Value) (A : Around) (outer : List Env) (s : Shared) (H : Hp) (E : XK) (p : Addr × Obj) (c : Value),
      Held (cxE P w K mg base N nm (defScope st) f cd A outer s H E p) p.1 c → (cxE P w K mg base N nm (defScope st) f cd A outer s H E p).A.guards = some [] → L2H.RoomH k (cxE P w K mg base N nm (defScope st) f cd A outer s H E p).A →
      ∃ u : S3, PSs (cxE P w K mg base N nm (defScope st) f cd A outer s H E p) (defBody st) (upS K W0 u) ∧ ∀ ds G R, ds.length = ps.length → S p.1 c ds G R noX → u { nx := fun _ G => R .non G, rt := R, ex := noX } (start3 N ds) G)
    (hx : ∀ a c ds G R Ex, S a c ds G R Ex → S a c ds G R noX) :
    GoodE P w K mg base nm ps (k + 1) S := by
  obtain ⟨f, fd, hm, F, hbd⟩ := d.ex
  have kp := F.kp
  obtain ⟨oc, od, kV, doc, pm, an, cdv, ct, osl, rfl, lk, hcd⟩ := F.ex
  have hlen : ∀ a c vs H Q E, sp3 K ps.length (S a c) vs H Q E → vs.length = ps.length := fun a c vs H Q E ⟨ds, G, R, Ex, h1, h2, _⟩ => h2.length.trans h1
  refine ⟨f, _, hm, kp, hbd, fn_E lk hcd sc hlen fun A outer s H vs Q E p c hg hr hp hs => ?_⟩
  obtain ⟨u, hu, hw⟩ := hb f cdv A outer s H E p c ⟨⟨p.2, List.mem_singleton.mpr rfl, hp.1, hp.2.1, hp.2.2⟩⟩ hg hr
  refine ⟨_, hu, ?_⟩
  obtain ⟨ds, G, R, Ex, h1, h2, h3, h4, h5, h6⟩ := hs
  refine ⟨start3 N ds, G, _, ?_, h3, hw ds G R h1 (hx _ _ _ _ _ _ h4), ⟨fun env σ G' H' e re rg q => h5 .non .non G' H' e rfl rg q, h5, fun _ _ _ _ _ _ _ z => z.elim, fun _ _ _ _ _ _ _ z => z.elim, nox0⟩⟩
  unfold start3 L2.start
  rw [h2.length]
  exact REnv.start h2 (REnv.nones _)
end
section
variable {X : Cx} {W : WX} {k : Nat} {x : Str} {ps : List Str} {S : SE3} {p pos : Pos} {e : Expr} {es : List Expr} {ar : A3} {we : W3} {a : Addr} {c : Value}
theorem c_callE (F : GoodE X.prog X.w X.K X.mg X.base x ps k S) (hl : Held X a c) (hr : L2H.RoomH k X.A) (hgd : X.A.guards = some []) (tk : Takes X W) (ha : PA X (e :: es) (upA X.K W ar)) (hg : Gl X x := by rfl)
    (hdb : (x == ("__debug__" : Str)) = false := by decide) (he : starEach (e :: es) X.env = (false, eval e X.env) :: starEach es X.env := by rfl) (hpl : (backTo pos (starEach es X.env)).any (·.1) = false := by rfl) :
    PE X (.Call (.Name x p) (e :: es) [] pos) (up X.K W (wCall ps.length (S a c) ar)) := by
  obtain ⟨f, fd, hm, hk, hb, FG⟩ := F.ex
  obtain ⟨oe, hmem, hz1, hz2, hfl⟩ := hl.ex
  refine ⟨fun pins s σ H Q I h => ?_⟩
  obtain ⟨env, G, R, Ex, re, rg, h, fe, fx⟩ := h
  refine wpAny_Call_Name_kw (ld_glob I hg hm ?_ hdb)
  refine PySem.W.callWith_K (h₀ := X.base) I.ok.mod.kin hk (thn (ha.run pos pins s σ H _ I (upA_go re rg h fx (Q := fun vs H1 => sp3 X.K ps.length (S a c) vs H1 Q (WE W σ)) fun ds vs G1 H1 e1 rd rg1 h1 => ?_)) fun us s1 ⟨vs, H1, I1, r, q⟩ => ⟨I1.kIn, ?_⟩) he hpl
  · exact ⟨ds, G1, R, _, h1.1, rd, rg1, h1.2, fe.ext e1, fun c fs d env' σ' G2 H2 e2 re2 rg2 rx ex => fx c fs d env σ G2 H2 (e1.trans e2) (re.ext (e1.trans e2)) rg2 rx ex⟩
  · have hl : us.length = ps.length := by rw [← r.length]; exact FG.len _ _ _ _ _ _ q
    have b := hb s1 us I1.kIn (by rw [List.append_nil]; exact hl)
    rw [List.append_nil] at b
    have P1 := I1.pin (a, oe) (List.mem_append_left _ hmem)
    have pinok : L2H.PinOk X.stack H1 s1 (a, oe) := ⟨P1.1, P1.2.1, fun hm => (List.mem_cons.mp (I1.stkSub a hm)).elim P1.2.2.1 P1.2.2.2.1, P1.2.2.2.2⟩
    refine wpAny_call (codeAny_mono (FG.run X.A X.stack s1 H1 ⟨us, []⟩ us vs Q (WE W σ) (a, oe) c hr hgd ⟨hz1, hz2, hfl⟩ pinok I1.env0 b r q) fun r s' hq => ?_)
    cases r with
    | error e => exact passAt tk σ pins H1 s1 e s' I1 hq
    | ok fl =>
      cases fl with
      | ret u => exact I1.after hq
      | next => exact False.elim hq
      | brk => exact False.elim hq
      | cont => exact False.elim hq
end
end L3

set_option Elab.async false
set_option linter.all false
set_option maxRecDepth 100000
namespace L3
open PySem PySem.Spec L2
open PyProof.Rows hiding St

/-! ### repr -/
def keyPy : Key → PyData
  | .inl i => .int i
  | .inr x => .str x
mutual
def toPr : D → PyData
  | .non => .none
  | .bl b => .bool b
  | .int i => .int i
  | .str x => .str x
  | .tup xs => .tuple (toPrL xs)
  | .lst xs => .list (toPrL xs)
  | .lsx xs => .list (toPrL xs)
  | .dct ks xs => .dict ((ks.map keyPy).zip (toPrL xs))
  | .ty _ => .none
  | .ins _ _ _ => .none
  | .ref _ => .none
  | .tpf _ => .none
  | .exc _ _ _ _ => .none
def toPrL : List D → List PyData
  | [] => []
  | d :: r => toPr d :: toPrL r
end
mutual
def rdD : D → Bool
  | .non => true
  | .bl _ => true
  | .int _ => true
  | .str _ => true
  | .tup xs => rdDL xs
  | .lst xs => rdDL xs
  | .lsx xs => rdDL xs
  | .dct _ xs => rdDL xs
  | _ => false
def rdDL : List D → Bool
  | [] => true
  | d :: r => rdD d && rdDL r
end
section
variable {X : Cx} {pins : List (Addr × Obj)} {σ : St} {H : Hp} {s : Shared} {G : GH}
theorem key_reads {h : Heap} {P : Program} {w : World} (k : Key) (v : Value) (e : (mixKind P w).is k v = true) : Reads h v (keyPy k) [] := by
  rcases keyIs_shape (show keyIs k v = true from e) with ⟨i, t, rfl, rfl⟩ | ⟨x, t, rfl, rfl⟩
  · exact .int i t
  · exact .str x t
theorem not_sys (I : Inv X pins σ H s) (sy : sysB X.K = true) {a : Addr} {o : Obj} {vs : Array Value} {n : Nat} (e : s.heap.get? a = some o) (d : o.data = .seq vs n) : sysModules ≠ a := by
  intro z
  obtain ⟨o', es, m, h1, h2⟩ := sysB_ok sy
  have h3 := I.kIn _ _ h1
  rw [z, e] at h3
  cases h3
  rw [d] at h2
  cases h2
mutual
theorem Rep.reads (I : Inv X pins σ H s) (sy : sysB X.K = true) : ∀ (d : D) {v : V} {u : Value}, Rep X.K H G d v → RelV v u → rdD d = true → ∃ as, Reads s.heap u (toPr d) as ∧ sysModules ∉ as
  | .non, v, u, r, q, _ => by
    obtain rfl : v = V.non := r
    obtain rfl : u = Value.none := q
    exact ⟨[], .none, List.not_mem_nil⟩
  | .bl b, v, u, r, q, _ => by
    obtain rfl : v = V.bl b := r
    obtain rfl : u = Value.bool b := q
    exact ⟨[], .bool b, List.not_mem_nil⟩
  | .int i, v, u, r, q, _ => by
    obtain rfl : v = V.int i := r
    obtain ⟨t, rfl⟩ := q
    exact ⟨[], .int i t, List.not_mem_nil⟩
  | .str x, v, u, r, q, _ => by
    obtain rfl : v = V.str x := r
    obtain ⟨t, rfl⟩ := q
    exact ⟨[], .str x t, List.not_mem_nil⟩
  | .tup xs, v, u, ⟨a, vs, e, k, t⟩, q, h => by
    subst e
    obtain rfl : u = Value.ref a := q
    obtain ⟨its, rv, ⟨o, ho, hc, n, hd⟩, _⟩ := I.tuple k.sq
    obtain ⟨as, r1, r2⟩ := RepL.readsAll I sy xs t rv h
    exact ⟨as, .tuple ho hc hd r1, r2⟩
  | .lst xs, v, u, ⟨a, vs, e, g, k, t⟩, q, h => by
    subst e
    obtain rfl : u = Value.ref a := q
    obtain ⟨its, rv, ⟨o, n, ho, hc, _, hd⟩, _⟩ := I.list (show SqL X.K H a vs from .inl (.inl k))
    obtain ⟨as, r1, r2⟩ := RepL.readsAll I sy xs t rv h
    exact ⟨a :: as, .list ho hc hd r1, fun m => (List.mem_cons.mp m).elim (not_sys I sy ho hd) r2⟩
  | .lsx xs, v, u, ⟨a, vs, e, k, t⟩, q, h => by
    subst e
    obtain rfl : u = Value.ref a := q
    obtain ⟨its, rv, ⟨o, n, ho, hc, _, hd⟩, _⟩ := I.list k.sq
    obtain ⟨as, r1, r2⟩ := RepL.readsAll I sy xs t rv h
    exact ⟨a :: as, .list ho hc hd r1, fun m => (List.mem_cons.mp m).elim (not_sys I sy ho hd) r2⟩
  | .dct ks xs, v, u, ⟨a, kvs, e, g, k, hk, t⟩, q, h => by
    subst e
    obtain rfl : u = Value.ref a := q
    obtain ⟨hz, hsys, ws, kv, hd⟩ := (show ObjOk X.prog X.w H s.heap a (.dK kvs) from I.hok a _ k)
    obtain ⟨as, r1, r2⟩ := RepL.pairs I sy xs (kvs := kvs) (ws := ws) t kv h
    rw [← hk]
    have ne : sysModules ≠ a := fun z => by
      rw [← z] at hsys
      exact absurd hsys (by simp)
    exact ⟨a :: as, PyProof.V.reads_dictOf key_reads hd r1, fun m => (List.mem_cons.mp m).elim ne r2⟩
  | .ty _, _, _, _, _, h => by cases h
  | .ins _ _ _, _, _, _, _, h => by cases h
  | .ref _, _, _, _, _, h => by cases h
  | .tpf _, _, _, _, _, h => by cases h
  | .exc _ _ _ _, _, _, _, _, h => by cases h
theorem RepL.readsAll (I : Inv X pins σ H s) (sy : sysB X.K = true) : ∀ (ds : List D) {vs : List V} {us : List Value}, RepL X.K H G ds vs → Vals vs us → rdDL ds = true → ∃ as, ReadsAll s.heap us (toPrL ds) as ∧ sysModules ∉ as
  | [], vs, us, t, q, _ => by
    obtain rfl : vs = [] := t
    cases q
    exact ⟨[], .nil, List.not_mem_nil⟩
  | d :: ds, vs, us, ⟨v, r, e, a, t⟩, q, h => by
    subst e
    have h' : (rdD d && rdDL ds) = true := h
    rw [Bool.and_eq_true] at h'
    cases q with
    | cons q1 q2 =>
      obtain ⟨as, r1, n1⟩ := Rep.reads I sy d a q1 h'.1
      obtain ⟨bs, r2, n2⟩ := RepL.readsAll I sy ds t q2 h'.2
      exact ⟨as ++ bs, .cons r1 r2, fun m => (List.mem_append.mp m).elim n1 n2⟩
theorem RepL.pairs (I : Inv X pins σ H s) (sy : sysB X.K = true) : ∀ (ds : List D) {kvs : List (Key × V)} {ws : List (Key × Value)}, RepL X.K H G ds (kvs.map (·.2)) → KV kvs ws → rdDL ds = true →
    ∃ as, PyProof.V.PairsRead s.heap keyPy ws (((kvs.map (·.1)).map keyPy).zip (toPrL ds)) as ∧ sysModules ∉ as
  | [], kvs, ws, t, q, _ => by
    have e : kvs = [] := by simpa using (show kvs.map (·.2) = [] from t)
    subst e
    cases q
    exact ⟨[], .nil, List.not_mem_nil⟩
  | d :: ds, kvs, ws, ⟨v, r, e, a, t⟩, q, h => by
    have h' : (rdD d && rdDL ds) = true := h
    rw [Bool.and_eq_true] at h'
    match kvs, ws, q, e with
    | p :: kvs, w :: ws, .cons q1 q2, e =>
      rw [List.map_cons] at e
      injection e with e1 e2
      subst e1 e2
      obtain ⟨as, r1, n1⟩ := Rep.reads I sy d a q1.2 h'.1
      obtain ⟨bs, r2, n2⟩ := RepL.pairs I sy ds t q2 h'.2
      refine ⟨as ++ bs, ?_, fun m => (List.mem_append.mp m).elim n1 n2⟩
      obtain ⟨w1, w2⟩ := w
      obtain ⟨p1, p2⟩ := p
      obtain rfl : p1 = w1 := q1.1
      exact .cons r1 r2
end
end
/-- what repr can show -/
structure ReprOk (d : D) : Prop where
  rd : rdD d = true
  sh : (toPr d).showable = true
  dp : (toPr d).depth ≤ 150
  sz : (toPr d).shown.length ≤ sizeLine
/-- repr(x), x a tuple -/
def fRepr : FA := fun xs G R => ∃ ds, xs = [.tup ds] ∧ ReprOk (.tup ds) ∧ R (.str (toPr (.tup ds)).shown) G
def rRepr (K : PySem.W.Frag) : List V → Hp → VK → Prop := fun vs H Q => ∃ (G : GH) (ds : List D) (v : V), vs = [v] ∧ Rep K H G (.tup ds) v ∧ ReprOk (.tup ds) ∧ Q (.str (toPr (.tup ds)).shown) H
theorem call_repr3 {X : Cx} (sy : sysB X.K = true) (hg : X.A.guards = some []) (hu : X.A.units + 190 < cLine) : CallR X (.builtin "repr") (rRepr X.K) := by
  rintro pins s σ H xs us Q I r ⟨G, ds, v, rfl, rp, ok, q⟩
  cases r with
  | cons r1 r2 =>
    cases r2
    obtain ⟨as, rd, ns⟩ := Rep.reads I sy (.tup ds) rp r1 ok.rd
    obtain ⟨a, vs, rfl, _⟩ := rp
    cases r1
    refine repr_of_reads' rd ok.sh (fun _ => ns) hg (by have := ok.dp; omega) (fun _ _ e => e) (fun h' u tk k => ?_) ok.sz
    exact ⟨.str _, H, I.kept k, ⟨u, rfl⟩, q⟩
theorem lift_repr {K : PySem.W.Frag} : LiftC K (rRepr K) fRepr := by
  rintro xs vs H G R Q r g ⟨ds, rfl, ok, h⟩ fe
  obtain ⟨v, rfl, a⟩ := r.one_inv
  exact ⟨G, ds, v, rfl, a, ok, fe (.str _) _ G H .refl rfl g h⟩

/-! ### xs.count(x), t.index(x) -/
def countF (y : D) (ds : List D) : Nat := ds.countP fun z => eqF z y
theorem countP_V {K : PySem.W.Frag} {H : Hp} {G : GH} {y : D} {v : V} (ry : Rep K H G y v) (fy : flatD y = true) : ∀ {ds : List D} {vs : List V} {us : List Value}, RepL K H G ds vs → Vals vs us → ds.all flatD = true → us.countP (eqU v) = countF y ds
  | [], _, _, t, q, _ => by
    cases (show _ = [] from t)
    cases q
    rfl
  | d :: ds, _, _, ⟨w, r, e, a, t⟩, q, h => by
    subst e
    rw [List.all_cons, Bool.and_eq_true] at h
    cases q with
    | cons q1 q2 =>
      unfold countF
      rw [List.countP_cons, List.countP_cons, countP_V ry fy t q2 h.2, eqU_of q1 (flat_V a h.1), eqF_V a ry h.1 fy]
      rfl
def fCount : FM := fun x xs G R => ∃ ds y, asL G x = some ds ∧ xs = [y] ∧ flatD y = true ∧ ds.all flatD = true ∧ R (.int (countF y ds : Nat)) G
def rCount3 (K : PySem.W.Frag) : V → List V → Hp → VK → Prop := fun x xs H Q => ∃ (G : GH) (a : Addr) (vs : List V) (ds : List D) (y : D) (v : V), x = .ref a ∧ xs = [v] ∧ SqL K H a vs ∧ RepL K H G ds vs ∧ Rep K H G y v ∧ flatD y = true ∧ ds.all flatD = true ∧ Q (.int (countF y ds : Nat)) H
theorem mt_count3 {X : Cx} : MtR X "list.count" (rCount3 X.K) := by
  rintro pins s σ H x xs v us Q I rx rxs ⟨G, a, vs, ds, y, yv, rfl, rfl, sq, rl, ry, fy, fd, q⟩
  cases rx
  cases rxs with
  | cons r1 r2 =>
    rename_i uy _
    cases r2
    obtain ⟨its, rv, ⟨⟨cls, dd, data, sl⟩, n, ho, hc, hdn, hd⟩, hlen⟩ := I.list sq
    simp only at hc hd
    subst hc hd
    refine call_meets PySem.F.slot_list_count ⟨_, ho, rfl⟩ PySem.F.entry_list_count (PySem.F.args_list_count_2 _ _) (SeqAt.list_countAt a its.toArray n dd sl uy (eqU yv)) ⟨ho, fun z hz => ?_, ?_⟩
    · exact mem_eqAt r1 (flat_V ry fy) rv (flatL_V rl fd) z (by simpa using hz)
    · exact ⟨.int (countF y ds : Nat), H, I.tok _, ⟨_, by rw [List.toList_toArray, countP_V ry fy rl rv fd]⟩, q⟩
theorem m_count {K : PySem.W.Frag} : LiftM K "list" (rCount3 K) fCount cL := ⟨tyL, by
  rintro x a xs vs H G R Q rx rs g ⟨ds, y, h1, rfl, h2, h3, h4⟩ fe
  obtain ⟨p, ws, rfl, sq, rl⟩ := asL_at rx g h1
  obtain ⟨v, rfl, rv⟩ := rs.one_inv
  exact ⟨G, p, ws, ds, y, v, rfl, rfl, sq, rl, rv, h2, h3, fe (.int _) _ G H .refl rfl g h4⟩⟩
/-- t.index(x), found -/
def cT3 : D → GH → Prop := fun x _ => (asT x).isSome = true
def fIndexT : FM := fun x xs G R => ∃ ds y j z, asT x = some ds ∧ xs = [y] ∧ flatD y = true ∧ ds.all flatD = true ∧ ds[j]? = some z ∧ eqF z y = true ∧ (∀ m z', m < j → ds[m]? = some z' → eqF z' y = false) ∧ R (.int (j : Nat)) G
def rIndexT (K : PySem.W.Frag) : V → List V → Hp → VK → Prop := fun x xs H Q => ∃ (a : Addr) (ys : List V) (y : V) (j : Nat) (z : V), x = .ref a ∧ xs = [y] ∧ SqT K H a ys ∧ flatV y = true ∧ ys.all flatV = true ∧ ys[j]? = some z ∧ eqV z y = true ∧ (∀ m z', m < j → ys[m]? = some z' → eqV z' y = false) ∧ Q (.int (j : Nat)) H
theorem mt_indexT {X : Cx} : MtR X "tuple.index" (rIndexT X.K) := by
  rintro pins s σ H x xs v us Q I rx rxs ⟨a, ys, y, j, z, rfl, rfl, sq, fy, fys, hz, hzj, hno, q⟩
  cases rx
  cases rxs with
  | cons r1 r2 =>
    rename_i uy _
    cases r2
    obtain ⟨its, rv, ⟨⟨cls, dd, data, sl⟩, ho, hc, n, hd⟩, hlen⟩ := I.tuple sq
    simp only at hc hd
    subst hc hd
    obtain ⟨u, hu, ru⟩ := rv.get hz
    obtain ⟨hjl, hje⟩ := List.getElem?_eq_some_iff.mp hu
    have hvl := rv.length
    have hj : j < its.toArray.size := by simpa using hjl
    have at_ : ∀ (m : Nat) (hm : m < its.toArray.size), SeqAt.EqAt X.A.in1 s its.toArray[m] uy (eqU y its.toArray[m]) := fun m hm => mem_eqAt r1 fy rv fys _ (by simp)
    refine call_meets PySem.F.slot_tuple_index ⟨_, ho, rfl⟩ PySem.F.entry_tuple_index (PySem.F.args_tuple_index_2 _ _)
      (SeqAt.tuple_index2_found a its.toArray n dd sl uy (fun m => eqU y (its.toArray.getD m .none)) j hj (Nat.zero_le _) hj ?_ ?_) ⟨ho, fun m hm => ?_, ?_⟩
    · have e1 : its.toArray.getD j .none = u := by simp [hu]
      rw [e1, eqU_of ru (flat_at fys hz)]
      exact hzj
    · intro m hm _ hmj
      have hml : m < its.length := by simpa using hm
      have hmy : m < ys.length := by omega
      have hy' : ys[m]? = some ys[m] := List.getElem?_eq_getElem hmy
      obtain ⟨u2, hu2, ru2⟩ := rv.get hy'
      have e1 : its.toArray.getD m .none = u2 := by simp [hu2]
      rw [e1, eqU_of ru2 (flat_at fys hy')]
      exact hno m _ hmj hy'
    · have hm' : m < its.length := by simpa using hm
      have e1 : its.toArray.getD m .none = its.toArray[m] := by simp [Array.getD, hm']
      rw [e1]
      exact at_ m hm
    · exact ⟨.int (j : Nat), H, I.tok _, ⟨_, rfl⟩, q⟩
/-- o.m(..), o such a tuple -/
def wMT (f : FM) (o : W3) (ar : A3) : W3 := fun env G R Ex => o env G (fun x G1 => ∃ ds, x = .tpf ds ∧ ar env G1 (fun xs G2 => f (.tup ds) xs G2 R) Ex) Ex
theorem tpf_tup {K : PySem.W.Frag} {H : Hp} {G : GH} {ds : List D} {v : V} (r : Rep K H G (.tpf ds) v) : Rep K H G (.tup ds) v :=
  let ⟨a, vs, o, q, g, h, z, t⟩ := r; ⟨a, vs, q, .inl ⟨g, .inr ⟨o, h⟩⟩, t⟩
/-- a name whose value is such a tuple, taken as a plain tuple -/
def wVarT (i : Nat) : W3 := fun env G R _ => ∃ ds, at3 env i = some (.tpf ds) ∧ R (.tup ds) G
section
variable {X : Cx} {W : WX} {o e : Expr} {es : List Expr} {wo : W3} {ar : A3} {nm : Str} {apos cpos pos : Pos} {id : String} {r : V → List V → Hp → VK → Prop} {f : FM}
theorem c_varT (i : Nat) {x : Str} {pos : Pos} (hN : X.N[i]? = some x := by rfl) (hv : Vis X.env.scope x := by first | exact Or.inl rfl | exact Or.inr (Or.inl rfl) | exact Or.inr (Or.inr rfl)) (hd : (x == ("__debug__" : Str)) = false := by decide)
    (hcd : (x == ("__classdict__" : Str)) = false := by decide) : PE X (.Name x pos) (up X.K W (wVarT i)) :=
  PE.imp (pe_var hN hv hd hcd) fun σ H Q ⟨env, G, R, Ex, re, rg, ⟨ds, h1, h2⟩, fe, fx⟩ => let ⟨v, e, r⟩ := re.get h1; ⟨v, e, fe (.tup ds) v G H .refl (tpf_tup r) rg h2⟩
theorem c_bmT (pa : PlainAttrs "tuple") (slot : Slot "tuple" nm id) (hty : typeOf (.builtin id) = pure (.type "method_descriptor")) (hm : MtR X id r)
    (hl : ∀ (x : D) (a : V) (xs : List D) (vs : List V) (H : Hp) (G : GH) (R : K3) (Q : VK), Rep X.K H G x a → RepL X.K H G xs vs → RG X.K H G → f x xs G R → FinE X.K H G R Q → r a vs H Q) (ho : PE X o (up X.K W wo)) (ha : PA X (e :: es) (upA X.K W ar))
    (hbase : attributeBase o nm X.env (eval o X.env) = eval o X.env := by rfl)
    (hfew : ((backTo cpos (starEach (e :: es) X.env)).all (fun x => !x.1) && (backToKw cpos (keywordEach [] X.env)).all (fun x => x.1.isSome)
      && decide ((e :: es).length + ([] : List Keyword).length + (if ([] : List Keyword).isEmpty then 0 else 1) < 30)) = true := by rfl)
    (hline : (apos.endLine == cpos.line) = true := by rfl) (hs : starEach (e :: es) X.env = (false, eval e X.env) :: starEach es X.env := by rfl) (hplain : (backTo cpos (starEach es X.env)).any (·.1) = false := by rfl) :
    PE X (.Call (.Attribute o nm apos) (e :: es) [] cpos) (up X.K W (wMT f wo ar)) := by
  refine ⟨fun pins s σ H Q I h => ?_⟩
  obtain ⟨env, G, R, Ex, re, rg, h, fe, fx⟩ := h
  let mid : VK := fun x H1 => ∃ G1 ds, Ext G H G1 H1 ∧ Rep X.K H1 G1 (.tpf ds) x ∧ RG X.K H1 G1 ∧ ar env G1 (fun xs G2 => f (.tup ds) xs G2 R) Ex
  have first := ho.run pins s σ H mid I (up_go re rg h fx fun x a G1 H1 e1 rx rg1 ⟨ds, hx, h1⟩ => ⟨G1, ds, e1, by rw [← hx]; exact rx, rg1, h1⟩)
  refine wpAny_Call_method_late hbase hfew hline rfl (thn first fun v s1 ⟨x, H1, I1, r1, G1, ds, e1, rx, rg1, h1⟩ => ?_)
  have rx' := rx
  obtain ⟨a, vs, ob, hx, g, hH, hz, rl⟩ := rx'
  subst hx
  obtain rfl : v = Value.ref a := r1
  obtain ⟨k1, _, its, rv, o', k2, k3, k4⟩ := (show ObjOk X.prog X.w H1 s1.heap a (.frz ob (.tup vs)) from I1.hok a _ hH)
  rw [k1] at k2
  cases k2
  refine ⟨"tuple", id, pa, slot, hty, ⟨ob, k1, k3⟩, fun b eb => by cases eb; exact ⟨ob, k1, hz⟩, ?_⟩
  have hA := ha.run cpos pins s1 σ H1 (fun us H2 => r (.ref a) us H2 Q) I1 (upA_go (re.ext e1) rg1 h1 (fx.ext e1) fun xs us G2 H2 e2 rs rg2 h2 => hl (.tup ds) (.ref a) xs us H2 G2 R Q (tpf_tup (rx.ext e2)) rs rg2 h2 (fe.ext (e1.trans e2)))
  rw [hs] at hA ⊢
  refine Calls.callWith_builtin (by show (false || (backTo cpos (starEach es X.env)).any (·.1)) = false; rw [hplain] <;> rfl) (Calls.evalArgs_plain ?_)
  exact thn hA fun us s2 ⟨ws, H2, I2, r2, q2⟩ => hm pins s2 σ H2 (.ref a) ws (.ref a) us Q I2 rfl r2 q2
end
theorem m_indexT {K : PySem.W.Frag} (x : D) (a : V) (xs : List D) (vs : List V) (H : Hp) (G : GH) (R : K3) (Q : VK) (rx : Rep K H G x a) (rs : RepL K H G xs vs) (g : RG K H G) (h : fIndexT x xs G R) (fe : FinE K H G R Q) : rIndexT K a vs H Q := by
  obtain ⟨ds, y, j, z, h1, rfl, h2, h3, h4, h5, h6, h7⟩ := h
  obtain ⟨p, ws, rfl, sq, rl⟩ := asT_at rx h1
  obtain ⟨v, rfl, rv⟩ := rs.one_inv
  obtain ⟨u, k1, k2⟩ := rl.get h4
  have fz : flatD z = true := List.all_eq_true.mp h3 z (List.mem_of_getElem? h4)
  refine ⟨p, ws, v, j, u, rfl, rfl, sq, flat_V rv h2, flatL_V rl h3, k1, by rw [eqF_V k2 rv fz h2]; exact h5, fun m z' hm hz => ?_, fe (.int _) _ G H .refl rfl g h7⟩
  obtain ⟨d, q1, q2⟩ := rl.getV hz
  rw [eqF_V q2 rv (List.all_eq_true.mp h3 d (List.mem_of_getElem? q1)) h2]
  exact h6 m d hm q1
/-- tuple(xs), its object known -/
def fTupleF : FA := fun xs G R => ∃ x ds, xs = [x] ∧ asL G x = some ds ∧ R (.tpf ds) G
theorem call_tupleF {X : Cx} : CallR X (.type "tuple") (fun xs H Q => ∃ p ys, xs = [.ref p] ∧ SqL X.K H p ys ∧ ∀ l o, H l = none → o.dict = none → Q (.ref l) (upd H l (.frz o (.tup ys)))) := by
  rintro pins s σ H xs us Q I r ⟨p, ys, rfl, hq, q⟩
  obtain ⟨u, rfl, rx⟩ := vals1 r
  cases rx
  obtain ⟨its, rv, pl, hz⟩ := I.list hq
  have hlen := rv.length
  refine call_tuple_list pl.isList (fun h' kp => ?_) (by simp only [List.size_toArray] <;> omega)
  have I1 : Inv X pins σ H { s with heap := h' } := I.kept (t' := s.toks) kp
  have at_ : (h'.push { cls := .type "tuple", data := .seq its.toArray }).get? h'.objs.size = some { cls := .type "tuple", data := .seq its.toArray } := Heap.get?_push_size _ rfl
  have I2 := I1.laid (t' := s.toks) (o := .frz { cls := .type "tuple", data := .seq its.toArray } (.tup ys)) (fun b o e => Heap.get?_push_of_some _ e) (Nat.le_refl _) ⟨at_, hz, its, rv, IsTup.new _ _⟩
  exact ⟨.ref h'.objs.size, _, I2, rfl, q _ _ (I1.hok.fresh (Nat.le_refl _)) rfl⟩
theorem lift_tupleF {K : PySem.W.Frag} : LiftC K (fun xs H Q => ∃ p ys, xs = [.ref p] ∧ SqL K H p ys ∧ ∀ l o, H l = none → o.dict = none → Q (.ref l) (upd H l (.frz o (.tup ys)))) fTupleF := by
  rintro xs vs H G R Q r g ⟨x, ds, rfl, h1, h2⟩ fe
  obtain ⟨v, rfl, a⟩ := r.one_inv
  obtain ⟨p, ws, rfl, sq, rl⟩ := asL_at a g h1
  refine ⟨p, ws, rfl, sq, fun l o hl ho => ?_⟩
  have e : Ext G H G (upd H l (.frz o (.tup ws))) := .alloc hl (g.fresh hl)
  exact fe (.tpf ds) _ G _ e ⟨l, ws, o, rfl, g.fresh hl, upd_same, ho, RepL.ext e ds rl⟩ (g.alloc hl) h2
end L3

set_option Elab.async false
set_option linter.all false
set_option maxRecDepth 100000
namespace L3
open PySem PySem.Spec L2
open PyProof.Rows hiding St

/-! ### list(range(n)) -/
def rgD (n : Int) : List D := (List.range n.toNat).map fun i : Nat => D.int (i : Int)
theorem rg_rep {K : PySem.W.Frag} {H : Hp} {G : GH} (n : Int) : RepL K H G (rgD n) (rgV 0 n) := by
  have e1 : rgD n = ((List.range n.toNat).map fun i : Nat => (i : Int)).map D.int := by
    unfold rgD
    rw [List.map_map]
    rfl
  have e2 : rgV 0 n = ((List.range n.toNat).map fun i : Nat => (i : Int)).map V.int := by
    unfold rgV
    rw [List.map_map, Int.sub_zero]
    apply List.map_congr_left
    intro i _
    show V.int (0 + (i : Int)) = V.int (i : Int)
    rw [Int.zero_add]
  rw [e1, e2]
  exact RepL.ints
def wLRg (w : W3) : W3 := fun env G R Ex => w env G (fun x G1 => ∃ n, x = .int n ∧ 0 ≤ n ∧ n ≤ 16777216 ∧ R (.lst (rgD n)) G1) Ex
def wLRgO (w : W3) : W3 := fun env G R Ex => w env G (fun x G1 => ∃ n, x = .int n ∧ 0 ≤ n ∧ n ≤ 16777216 ∧ ∀ p, G1 p = none → R (.ref p) (gset G1 p (.lst (rgD n)))) Ex
section
variable {X : Cx} {W : WX} {a : Expr} {wa : W3} {p q pos pos2 : Pos}
theorem c_lrg (hc : X.calm = true) (hm : X.mg "list" = none) (hm2 : X.mg "range" = none) (ha : PE X a (up X.K W wa)) (hg : Gl X "list" := by rfl) (hg2 : Gl X "range" := by rfl)
    (na : starEach [a] X.env = (false, eval a X.env) :: starEach [] X.env := by rfl) (nb : starEach [.Call (.Name "range" q) [a] [] pos2] X.env = (false, eval (.Call (.Name "range" q) [a] [] pos2) X.env) :: starEach [] X.env := by rfl) :
    PE X (.Call (.Name "list" p) [.Call (.Name "range" q) [a] [] pos2] [] pos) (up X.K W (wLRg wa)) := PE.imp (pe_listRg hc hg hm (prg_1 hg2 hm2 ha na) nb) fun σ H Q ⟨env, G, R, Ex, re, rg, h, fe, fx⟩ => by
  refine up_go re rg h fx fun x v G1 H1 e1 rx rg1 ⟨n, h1, h2, h3, h4⟩ => ?_
  subst h1
  exact ⟨n, rx, RgOk.of_le (Int.le_refl 0) h3 (by omega) h2, fin_lst (rg_rep n) rg1 (fe.ext e1) h4⟩
theorem c_lrgO (hc : X.calm = true) (hm : X.mg "list" = none) (hm2 : X.mg "range" = none) (ha : PE X a (up X.K W wa)) (hg : Gl X "list" := by rfl) (hg2 : Gl X "range" := by rfl)
    (na : starEach [a] X.env = (false, eval a X.env) :: starEach [] X.env := by rfl) (nb : starEach [.Call (.Name "range" q) [a] [] pos2] X.env = (false, eval (.Call (.Name "range" q) [a] [] pos2) X.env) :: starEach [] X.env := by rfl) :
    PE X (.Call (.Name "list" p) [.Call (.Name "range" q) [a] [] pos2] [] pos) (up X.K W (wLRgO wa)) := PE.imp (pe_listRg hc hg hm (prg_1 hg2 hm2 ha na) nb) fun σ H Q ⟨env, G, R, Ex, re, rg, h, fe, fx⟩ => by
  refine up_go re rg h fx fun x v G1 H1 e1 rx rg1 ⟨n, h1, h2, h3, h4⟩ => ?_
  subst h1
  exact ⟨n, rx, RgOk.of_le (Int.le_refl 0) h3 (by omega) h2, fin_lstO (rg_rep n) rg1 (fe.ext e1) h4⟩
end

/-! ### {k: v} -/
def keyD : D → Option Key
  | .int i => some (.inl i)
  | .str x => some (.inr x)
  | _ => none
def wDict1 (wk wv : W3) : W3 := fun env G R Ex => ∀ p, G p = none → wk env (gset G p (.dct [] [])) (fun k G1 => wv env G1 (fun y G2 => ∃ key, keyD k = some key ∧ G2 p = some (.dct [] []) ∧ R (.dct [key] [y]) (gdel G2 p)) Ex) Ex
theorem key_V {K : PySem.W.Frag} {H : Hp} {G : GH} {k : D} {key : Key} {v : V} (r : Rep K H G k v) (h : keyD k = some key) : v = kV key := by
  cases k <;> simp only [keyD] at h <;> cases h
  · rw [show v = _ from r]; rfl
  · rw [show v = _ from r]; rfl
theorem c_dict1 {X : Cx} {W : WX} {k v : Expr} {wk wv : W3} {pos : Pos} (hk : PE X k (up X.K W wk)) (hv : PE X v (up X.K W wv)) : PE X (.Dict [some k] [v] pos) (up X.K W (wDict1 wk wv)) :=
  PE.imp (pe_disp (pps_cons hk hv pps_nil) rfl rfl (by simp) (by simp)) fun σ H Q ⟨env, G, R, Ex, re, rg, h, fe, fx⟩ p hp => by
    have e0 : Ext G H (gset G p (.dct [] [])) (upd H p (.dK [])) := .allocG hp
    have rg0 : RG X.K (upd H p (.dK [])) (gset G p (.dct [] [])) := rg.allocG (go := .dct [] []) hp ⟨[], upd_same, rfl, rfl⟩
    refine up_go (re.ext e0) rg0 (h p (rg.fresh hp)) (fx.ext e0) fun x a G1 H1 e1 rx rg1 h1 => ?_
    refine up_go ((re.ext e0).ext e1) rg1 h1 ((fx.ext e0).ext e1) fun y b G2 H2 e2 ry rg2 ⟨key, h2, h3, h4⟩ => ?_
    obtain ⟨kvs0, k1, k2, _⟩ := rg2 p _ h3
    have k3 : kvs0 = [] := by simpa using k2
    subst k3
    have ew : Ext G2 H2 (gset G2 p (.dct [key] [y])) (upd H2 p (.dK [(key, b)])) := .write h3
    have rgw : RG X.K (upd H2 p (.dK [(key, b)])) (gset G2 p (.dct [key] [y])) := rg2.write (go := .dct [key] [y]) h3 ⟨[(key, b)], upd_same, rfl, ⟨b, [], rfl, ry.ext ew, rfl⟩⟩
    have el : gdel (gset G2 p (.dct [key] [y])) p = gdel G2 p := by
      funext c
      unfold gdel gset
      split <;> rfl
    refine ⟨k1, [(key, b)], ?_, by simp, ?_⟩
    · rw [key_V (rx.ext e2) h2]; rfl
    · rw [← el] at h4
      have ef : Ext (gset G2 p (.dct [key] [y])) (upd H2 p (.dK [(key, b)])) (gdel (gset G2 p (.dct [key] [y])) p) (upd H2 p (.dK [(key, b)])) := .freeze
      exact fe (.dct [key] [y]) (.ref p) _ _ (((e0.trans e1).trans e2).trans (ew.trans ef)) ⟨p, [(key, b)], rfl, gdel_same, upd_same, rfl, ⟨b, [], rfl, (ry.ext ew).ext ef, rfl⟩⟩ rgw.freeze h4

/-! ### len(set(xs)) -/
theorem len_le {L M : List Int} (h : L.Nodup) (s : ∀ x ∈ L, x ∈ M) : L.length ≤ M.length := by
  induction L generalizing M with
  | nil => exact Nat.zero_le _
  | cons a L ih =>
    have ha := s a List.mem_cons_self
    obtain ⟨h1, h2⟩ := List.nodup_cons.mp h
    have q := ih (M := M.erase a) h2 fun x hx => (List.mem_erase_of_ne fun (e : x = a) => h1 (e ▸ hx)).mpr (s x (List.mem_cons_of_mem _ hx))
    have p : 0 < M.length := List.length_pos_of_mem ha
    rw [List.length_erase_of_mem ha] at q
    rw [List.length_cons]
    omega
theorem nodup_of_len {L : List Int} : ∀ {M : List Int}, L.Nodup → (∀ x ∈ L, x ∈ M) → (∀ x ∈ M, x ∈ L) → M.length ≤ L.length → M.Nodup
  | [], _, _, _, _ => List.nodup_nil
  | a :: M, h, s, s', hl => by
    rw [List.length_cons] at hl
    have ha : a ∉ M := fun hm => by
      have := len_le h fun x hx => show x ∈ M from (List.mem_cons.mp (s x hx)).elim (fun e => e ▸ hm) id
      omega
    have haL := s' a List.mem_cons_self
    refine List.nodup_cons.mpr ⟨ha, nodup_of_len (L := L.erase a) (h.erase a) (fun x hx => ?_) (fun x hx => ?_) ?_⟩
    · have hx' := List.mem_of_mem_erase hx
      have ne : x ≠ a := fun e => by
        rw [e] at hx
        exact (h.not_mem_erase hx).elim
      exact (List.mem_cons.mp (s x hx')).resolve_left ne
    · exact (List.mem_erase_of_ne fun (e : x = a) => ha (e ▸ hx)).mpr (s' x (List.mem_cons_of_mem _ hx))
    · rw [List.length_erase_of_mem haL]
      omega
/-- c: how many distinct ones -/
def Cnt (ns : List Int) (c : Nat) : Prop := c ≤ ns.length ∧ (c = ns.length ↔ ns.Nodup)
theorem cnt_of {L ns : List Int} (h : L.Nodup) (s : ∀ x, x ∈ L ↔ x ∈ ns) : Cnt ns L.length :=
  ⟨len_le h fun x hx => (s x).mp hx, fun e => nodup_of_len h (fun x hx => (s x).mp hx) (fun x hx => (s x).mpr hx) (Nat.le_of_eq e.symm), fun hn => Nat.le_antisymm (len_le h fun x hx => (s x).mp hx) (len_le hn fun x hx => (s x).mpr hx)⟩
theorem met_nodup (val : Nat → Int) : ∀ i, (firstMet val i).Nodup
  | 0 => List.nodup_nil
  | i + 1 => by
    rw [firstMet_succ]
    unfold step_dedup
    have ih := met_nodup val i
    split
    · exact ih
    · rename_i hn
      refine List.nodup_append.mpr ⟨ih, by simp, fun a ha b hb e => hn ?_⟩
      rw [List.mem_singleton] at hb
      subst hb
      exact List.any_eq_true.mpr ⟨a, ha, beq_iff_eq.mpr e⟩
theorem met_mem (ns : List Int) (x : Int) : x ∈ firstMet (fun i => ns.getD i 0) ns.length ↔ x ∈ ns := by
  have e := firstMet_any (fun i => ns.getD i 0) ns.length x
  have m : (List.range ns.length).map (fun i => ns.getD i 0) = ns := by
    apply List.ext_getElem
    · simp
    · intro i h1 h2
      simp [h2]
  rw [m] at e
  have q : ∀ l : List Int, l.any (· == x) = true ↔ x ∈ l := fun l => by simp [List.any_eq_true]
  rw [← q, ← q, e]
def wLenSet (w : W3) : W3 := fun env G R Ex => w env G (fun x G1 => ∃ ds ns, asS G1 x = some ds ∧ intsD ds = some ns ∧ ns.length ≤ 4000 ∧ ∀ c : Nat, Cnt ns c → R (.int (c : Int)) G1) Ex
theorem c_lenSet {X : Cx} {W : WX} {a : Expr} {wa : W3} {p p2 q pos : Pos} (hc : X.calm = true) (hm : X.mg "len" = none) (hm2 : X.mg "set" = none) (ha : PE X a (up X.K W wa)) (hg : Gl X "len" := by rfl) (hg2 : Gl X "set" := by rfl)
    (na : starEach [a] X.env = (false, eval a X.env) :: starEach [] X.env := by rfl) : PE X (.Call (.Name "len" p) [.Call (.Name "set" p2) [a] [] q] [] pos) (up X.K W (wLenSet wa)) := by
  refine ⟨fun pins s σ H Q I h => ?_⟩
  obtain ⟨env, G, R, Ex, re, rg, h, fe, fx⟩ := h
  refine Call_ (ld_blt I hg hm boot_len ?_)
  refine callWith_builtin1 (args_cons ?_ rfl) rfl rfl
  refine Call_ (ld_blt I hg2 hm2 boot_set ?_)
  let mid : VK := fun x H1 => ∃ (l : Addr) (ns : List Int), x = .ref l ∧ (SqL X.K H1 l (ns.map V.int) ∨ SqT X.K H1 l (ns.map V.int)) ∧ ns.length ≤ 4000 ∧ ∀ c : Nat, Cnt ns c → Q (.int (c : Int)) H1
  have run := ha.run pins s σ H mid I (up_go re rg h fx fun x v G1 H1 e1 rx rg1 ⟨ds, ns, h1, h2, h3, h4⟩ => by
    obtain ⟨l, vs, rfl, sq, rl⟩ := asS_at rx rg1 h1
    refine ⟨l, ns, rfl, ?_, h3, fun c hcn => fe (.int c) _ G1 H1 e1 rfl rg1 (h4 c hcn)⟩
    rw [← ints_V rl h2]
    exact sq)
  refine callWith_type1 (args_cons (thn run fun v s1 ⟨x, H1, I1, r1, l, ns, e, hq, hl, q1⟩ => args_nil ?_) na) na rfl
  subst e
  cases r1
  have fin : ∀ (h' : Heap) (tk c : Nat), (∀ b o, s1.heap.get? b = some o → h'.get? b = some o) → Cnt ns c → (∃ (o : Obj) (es : Array (Int × Value)) (ep : Nat) (t : SetTable), h'.get? s1.heap.objs.size = some o ∧ o.ExactSet ∧ o.data = .set es ep t ∧ t.fits es.size = true ∧ es.size = c) →
      wpAny (model X.prog X.w) X.A (call (.builtin "len") [.ref s1.heap.objs.size]) (EP X pins σ Q) X.xe { s1 with heap := h', toks := tk } := by
    rintro h' tk c k hcn ⟨o, es, ep, t, ho, hex, hd, hf, hn⟩
    have I2 : Inv X pins σ H1 { s1 with heap := h', toks := tk } := I1.kept k
    have hb := hcn.1
    refine call_len_set ho hex hd hf (by rw [hn]; omega) ⟨.int (c : Int), H1, I2.tok _, ⟨_, by rw [hn]⟩, q1 c hcn⟩
  rcases hq with hq | hq
  · obtain ⟨its, r, pl, hz⟩ := I1.list hq
    have hlen : its.toArray.size = ns.length := by rw [List.size_toArray, ← r.length, List.length_map]
    refine call_set_list (I1.ok.hd hc) pl.isList (ns := ns) (by simpa using RZ.intsAre_vals r) (by rw [hlen]; unfold scanBound; omega) fun h' tk hS hk => args_nil ?_
    rw [hlen] at hS
    obtain ⟨o, es, ep, t, ho, hex, hd, _, _, _, hf, hn⟩ := hS
    exact fin h' tk _ (fun b o e => hk b o (Heap.lt_size e) e) (cnt_of (met_nodup _ _) (met_mem ns)) ⟨o, es, ep, t, ho, hex, hd, hf, hn⟩
  · obtain ⟨its, r, pt, hz⟩ := I1.tuple hq
    refine call_set_tupI ns (I1.ok.hd hc) (show s1.heap.IsTuple l its.toArray from pt) (by simpa using RZ.intsAre_vals r) (by unfold scanBound; omega) fun h' tk c hS _ k => args_nil ?_
    obtain ⟨o, es, ep, t, ho, hex, hd, _, hnd, hmem, _, hf, hn, _⟩ := hS
    have hcn : Cnt ns c := by
      have hl : (es.toList.map keyOf).length = c := by rw [List.length_map, Array.length_toList, hn]
      rw [← hl]
      exact cnt_of hnd fun x => by rw [← hmem x]; simp
    exact fin h' tk c k hcn ⟨o, es, ep, t, ho, hex, hd, hf, hn⟩

/-! ### sorted(t), t a tuple of ints -/
section
variable {prog : Program} {w : World} {A : Around} {E : Value → Shared → Prop} {s : Shared}
theorem collect_tup {l : Addr} {vs : List Value} {Q : List Value → Shared → Prop} (hl : s.heap.IsTuple l vs.toArray) (hsz : vs.length ≤ sizeLine)
    (h : Q vs { s with heap := (s.heap.push (seqObj "list" #[] 0)).update s.heap.objs.size (Obj.mapSeq (· ++ vs.toArray)) }) : wpAny (model prog w) A (collect (.ref l)) Q E s := by
  obtain ⟨o, ho, hc, n, hd⟩ := id hl
  unfold collect; refine wpAny_bind (wpAny_runValue (codeAny_builtin entry_proto_collect' ?_))
  show wpAny _ _ (do again (.builtin "list.__iadd__" ⟨[← newList [], .ref l], []⟩)) _ _ s; refine wpAny_bind (wpAny_newList (wpAny_pure ⟨Code.quiet_builtin _ (by decide +kernel), codeAny_builtin entry_list_iadd' ?_⟩))
  have big : (s.heap.push (seqObj "list" #[] 0)).get? l = some o := Heap.get?_push_of_some _ ho
  have self : (s.heap.push (seqObj "list" #[] 0)).get? s.heap.objs.size = some (seqObj "list" #[] 0) := Heap.get?_push_size _ rfl
  show wpAny _ _ (Builtin.List.listExtendWith (.ref s.heap.objs.size) (.ref l) (.ref s.heap.objs.size)) _ _ { s with heap := s.heap.push (seqObj "list" #[] 0) }; unfold Builtin.List.listExtendWith
  refine wpAny_bind (wpAny_typeOf (T := "tuple") ⟨o, big, hc⟩ ?_)
  have ht : (Value.type "tuple" == Value.type "tuple") = true := by rfl
  rw [if_pos (by rw [ht]; simp)]; refine wpAny_bind (listItems_at big hd (wpAny_bind (listItems_at (xs := #[]) (n := 0) self rfl ?_)))
  rw [if_neg (by simp)]
  have room : (#[] ++ vs.toArray).size ≤ sizeLine + 1 := by simp only [Array.size_append, List.size_toArray, List.length_nil]; omega
  refine wpAny_bind (listUpdate_at (xs := #[]) (n := 0) self rfl (wpAny_pure ?_) (Nat.zero_le _) room)
  show wpAny (model prog w) A (do
      match (← load s.heap.objs.size).data with
      | .seq xs _ => pure xs.toList
      | _ => unsupported "internal:collect") Q E { s with heap := (s.heap.push (seqObj "list" #[] 0)).update s.heap.objs.size (Obj.mapSeq (· ++ vs.toArray)) }
  refine wpAny_bind (wpAny_load (get?_update_seq self _) ?_)
  show wpAny _ _ (pure ((#[] : Array Value) ++ vs.toArray).toList) Q E _
  have same : ((#[] : Array Value) ++ vs.toArray).toList = vs := by simp
  rw [same]
  exact wpAny_pure h
theorem sorted_tup {l : Addr} {vs : List Value} {ns : List Int} {Q : Value → Shared → Prop} (hl : s.heap.IsTuple l vs.toArray) (hz : vs.length ≤ sizeLine) (hi : IntsAre vs ns)
    (h : ∀ (out : List Value) (ns' : List Int), IntsAre out ns' → ns'.Perm ns → ns'.Pairwise (· ≤ ·) → Q (.ref (s.heap.objs.size + 1)) { s with heap := sortedAll s.heap vs out.toArray }) :
    wpAny (model prog w) A (call (.builtin "sorted") [.ref l]) Q E s := by
  refine Calls.call_function_entry kind_sorted plain_sorted entry_sorted (args_sorted1 _) ?_; unfold Builtin.«sorted»; refine wpAny_bind (m := checkCount "sorted" 1 1 _) (wpAny_pure (wpAny_bind (collect_tup hl hz (wpAny_bind (wpAny_newList ?_ hz)))))
  have hsz : ((s.heap.push (seqObj "list" #[] 0)).update s.heap.objs.size (Obj.mapSeq (· ++ vs.toArray))).objs.size = s.heap.objs.size + 1 := by rw [Heap.size_update, size_push'] <;> rfl
  have at_ : (((s.heap.push (seqObj "list" #[] 0)).update s.heap.objs.size (Obj.mapSeq (· ++ vs.toArray))).push (seqObj "list" vs.toArray 0)).get? (s.heap.objs.size + 1) = some (seqObj "list" vs.toArray 0) := by
    rw [← hsz] <;> exact Heap.get?_push_size _ rfl
  show wpAny _ _ _ _ _ { s with heap := ((s.heap.push (seqObj "list" #[] 0)).update s.heap.objs.size (Obj.mapSeq (· ++ vs.toArray))).push (seqObj "list" vs.toArray 0) }; rw [hsz]
  refine wpAny_bind (wpAny_holding (wpAny_call_entry slot_list_sort ⟨_, at_, rfl⟩ entry_list_sort (SrtO.list_sort_ord SrtO.swo_int at_ hz (fun h2 => SrtO.ints_sortable hi h2) fun out h1 h2 => ⟨_, rfl, ?_⟩) (args_list_sort _)))
  obtain ⟨k1, k2, k3⟩ := SrtO.ints_out hi h1 h2
  exact wpAny_pure ⟨_, rfl, h out _ k1 k2 k3⟩
end
def rSorted3 (K : PySem.W.Frag) : List V → Hp → VK → Prop := fun vs H Q => ∃ (a : Addr) (ns : List Int), vs = [V.ref a] ∧ (SqL K H a (ns.map V.int) ∨ SqT K H a (ns.map V.int)) ∧
  ∀ (ns' : List Int) (p : Addr), ns'.Perm ns → ns'.Pairwise (· ≤ ·) → H p = none → Q (.ref p) (upd H p (.lst (ns'.map V.int)))
theorem call_sorted3 {X : Cx} : CallR X (.builtin "sorted") (rSorted3 X.K) := by
  rintro pins s σ H vs us Q I r ⟨a, ns, rfl, hs, q⟩
  rcases hs with hs | hs
  · exact cr_sortedI pins s σ H _ us Q I r ⟨a, ns, rfl, hs, q⟩
  · obtain ⟨its, rv, hl, hz⟩ := I.tuple hs
    rw [Vals.ref1 r]
    have hi : IntsAre its ns := RZ.intsAre_vals rv
    refine sorted_tup (show s.heap.IsTuple a its.toArray from hl) (by rw [← rv.length]; exact hz) hi fun out ns' k1 k2 k3 => ?_
    obtain ⟨ep, he'⟩ := sortedAll_at s.heap its out.toArray
    have hlen : (ns'.map V.int).length ≤ sizeLine := by
      rw [List.length_map, k2.length_eq]
      rw [List.length_map] at hz
      exact hz
    refine ⟨.ref _, upd H (s.heap.objs.size + 1) (.lst (ns'.map V.int)), I.laid (t' := s.toks) (fun _ _ => sortedAll_old) (Nat.le_succ _) ⟨hlen, out, ep, vals_of_ints k1, he'⟩, rfl, q _ _ k2 k3 (I.hok.fresh (Nat.le_succ _))⟩
def fSorted3 : FA := fun xs G R => ∃ x ds ns, xs = [x] ∧ asS G x = some ds ∧ intsD ds = some ns ∧ ∀ ns' : List Int, ns'.Perm ns → ns'.Pairwise (· ≤ ·) → R (.lst (ns'.map D.int)) G
theorem lift_sorted3 {K : PySem.W.Frag} : LiftC K (rSorted3 K) fSorted3 := by
  rintro xs vs H G R Q r g ⟨x, ds, bs, rfl, h1, h2, h3⟩ fe
  obtain ⟨v, rfl, a⟩ := r.one_inv
  obtain ⟨p, ws, rfl, sq, rl⟩ := asS_at a g h1
  exact ⟨p, bs, rfl, by rw [← ints_V rl h2]; exact sq, fun ns' q p1 p2 hq => fin_lst RepL.ints g fe (h3 ns' p1 p2) q hq⟩
/-- nothing but the arguments: f() -/
theorem c_call0 {X : Cx} {W : WX} {k : Nat} {x : Str} {S : SP3} {p pos : Pos} (F : Good X.prog X.w X.K X.mg X.base x [] k S) (hr : Room k X.A) (hgd : X.A.guards = some []) (tk : Takes X W) (hg : Gl X x := by rfl) (hdb : (x == ("__debug__" : Str)) = false := by decide) :
    PE X (.Call (.Name x p) [] [] pos) (up X.K W (wCall 0 S aNil)) := by
  obtain ⟨f, fd, hm, hk, hb, FG⟩ := F.ex
  refine ⟨fun pins s σ H Q I ⟨env, G, R, Ex, re, rg, h, fe, fx⟩ => ?_⟩
  refine wpAny_Call_Name_kw (ld_glob I hg hm ?_ hdb)
  refine PySem.W.callWith_K0 I.kIn hk ?_
  have b := hb s [] I.kIn rfl
  refine wpAny_call (codeAny_mono (FG.run X.A X.stack s H ⟨[], []⟩ [] [] Q (WE W σ) hr hgd I.env0 b .nil ⟨[], G, R, _, rfl, rfl, rg, h.2, fe, fun c fs d env' σ' G2 H2 e2 re2 rg2 rx ex => fx c fs d env σ G2 H2 e2 (re.ext e2) rg2 rx ex⟩) fun r s' hq => ?_)
  cases r with
  | error e => exact passAt tk σ pins H s e s' I hq
  | ok fl =>
    cases fl with
    | ret u => exact I.after hq
    | next => exact False.elim hq
    | brk => exact False.elim hq
    | cont => exact False.elim hq
/-- {} -/
def wDNew : W3 := fun env G R _ => R (.dct [] []) G
theorem c_dnew {X : Cx} {W : WX} {pos : Pos} : PE X (.Dict [] [] pos) (up X.K W wDNew) := PE.imp pe_dnewK fun σ H Q ⟨env, G, R, Ex, re, rg, h, fe, fx⟩ p hp =>
  fe (.dct [] []) (.ref p) G _ (.alloc hp (rg.fresh hp)) ⟨p, [], rfl, rg.fresh hp, upd_same, rfl, rfl⟩ (rg.alloc hp) h
theorem room190 {k : Nat} {A : Around} (r : Room k A) : A.units + 190 < cLine := by have := r.un; omega
theorem roomH190 {k : Nat} {A : Around} (r : L2H.RoomH k A) : A.units + 190 < cLine := by have := r.un; omega
theorem roomH64 {k : Nat} {A : Around} (r : L2H.RoomH k A) : A.units + 64 < cLine := by have := r.un; omega
/-- a def that is not reached -/
theorem good_no {P : Program} {w : World} {K : PySem.W.Frag} {mg : Str → Option Value} {base : Heap} {nm : Str} {st : Stmt} {ps : List Str} (k : Nat) (d : DefAt K mg nm st ps) : Good P w K mg base nm ps k (fun _ _ _ _ => False) := by
  obtain ⟨f, fd, hm, F, hb⟩ := d.ex
  refine ⟨f, fd, hm, F.kp, hb, ⟨fun vs H Q E h => ?_, fun A outer s H args us vs Q E _ _ _ _ _ h => ?_⟩⟩
  · obtain ⟨_, _, _, _, _, _, _, z, _⟩ := h
    exact z.elim
  · obtain ⟨_, _, _, _, _, _, _, z, _⟩ := h
    exact z.elim
theorem roomS {X : Cx} {k : Nat} {a : Addr} {pn : List (Addr × Obj)} (r : Room k X.A) : L2H.RoomH k (X.suite a pn).A := ⟨r.dp, r.un⟩
/-- a list that was changed, read for the last time: from then on it is as it is -/
def wVarZ (i : Nat) : W3 := fun env G R _ => ∃ p ds, at3 env i = some (.ref p) ∧ G p = some (.lst ds) ∧ R (.lst ds) (gdel G p)
theorem c_varZ {X : Cx} {W : WX} (i : Nat) {x : Str} {pos : Pos} (hN : X.N[i]? = some x := by rfl) (hv : Vis X.env.scope x := by first | exact Or.inl rfl | exact Or.inr (Or.inl rfl) | exact Or.inr (Or.inr rfl)) (hd : (x == ("__debug__" : Str)) = false := by decide)
    (hcd : (x == ("__classdict__" : Str)) = false := by decide) : PE X (.Name x pos) (up X.K W (wVarZ i)) :=
  PE.imp (pe_var hN hv hd hcd) fun σ H Q ⟨env, G, R, Ex, re, rg, ⟨p, ds, h1, h2, h3⟩, fe, fx⟩ => by
    obtain ⟨v, e, r⟩ := re.get h1
    obtain rfl : v = V.ref p := r
    obtain ⟨vs, k1, k2⟩ := rg p _ h2
    exact ⟨_, e, fe (.lst ds) (.ref p) (gdel G p) H .freeze ⟨p, vs, rfl, gdel_same, k1, RepL.ext .freeze ds k2⟩ rg.freeze h3⟩
end L3

set_option Elab.async false
set_option linter.all false
set_option maxRecDepth 100000
namespace L3
open PySem PySem.Spec L2
open PyProof.Rows hiding St

/-! ### readings, made plain -/
theorem fun_eq {α : Type} {p q : α → Prop} (h : ∀ x, p x ↔ q x) : p = q := funext fun x => propext (h x)
def isIntD : D → Bool
  | .int _ => true
  | _ => false
def isBlD : D → Bool
  | .bl _ => true
  | _ => false
def isTupD : D → Bool
  | .tup _ => true
  | _ => false
def isLstD : D → Bool
  | .lst _ => true
  | .lsx _ => true
  | _ => false
def isStrD : D → Bool
  | .str _ => true
  | _ => false
/-- the class of a thing that is no changeable object -/
def ty0 : D → Option String
  | .non => some "NoneType"
  | .bl _ => some "bool"
  | .int _ => some "int"
  | .str _ => some "str"
  | .tup _ => some "tuple"
  | .lst _ => some "list"
  | .lsx _ => some "list"
  | .dct _ _ => some "dict"
  | _ => none
theorem tyD_0 {G : GH} {x : D} {n : String} (h : ty0 x = some n) : tyD G x = some (.type n) := by
  cases x <;> simp only [ty0, Option.some.injEq] at h <;> first | (subst h; rfl) | cases h
theorem ty0_of {x : D} (h : rdD x = true) : ∃ n, ty0 x = some n := by
  cases x <;> first | exact ⟨_, rfl⟩ | cases h
theorem isi_gen {K : PySem.W.Frag} {G : GH} {R : K3} {x : D} {n m : String} {b : Bool} (h : ty0 x = some m) (k : kitB m n = some b) : fIsi K [x, .ty n] G R ↔ R (.bl b) G := by
  have k1 : PySem.W.kitOne K (.type m) (.type n) = some b := kit_ty k
  have t := tyD_0 (G := G) h
  constructor
  · intro q
    obtain ⟨t', u, b', q1, q2, q3, q4⟩ := (show ∃ t u b, tyD G x = some t ∧ clsD (.ty n) = some u ∧ PySem.W.kitOne K t u = some b ∧ R (.bl b) G from q)
    rw [t] at q1
    cases q1
    cases q2
    rw [k1] at q3
    cases q3
    exact q4
  · intro q
    exact (show ∃ t u b, tyD G x = some t ∧ clsD (.ty n) = some u ∧ PySem.W.kitOne K t u = some b ∧ R (.bl b) G from ⟨_, _, _, t, rfl, k1, q⟩)
theorem isi_int {K : PySem.W.Frag} {G : GH} {R : K3} {x : D} (h : rdD x = true) : fIsi K [x, .ty "int"] G R = R (.bl (isIntD x || isBlD x)) G := by
  apply propext
  cases x <;> first | (cases h; done) | exact isi_gen (b := true) rfl (by decide +kernel) | exact isi_gen (b := false) rfl (by decide +kernel)
theorem isi_bool {K : PySem.W.Frag} {G : GH} {R : K3} {x : D} (h : rdD x = true) : fIsi K [x, .ty "bool"] G R = R (.bl (isBlD x)) G := by
  apply propext
  cases x <;> first | (cases h; done) | exact isi_gen (b := true) rfl (by decide +kernel) | exact isi_gen (b := false) rfl (by decide +kernel)
theorem isi_tup {K : PySem.W.Frag} {G : GH} {R : K3} {x : D} (h : rdD x = true) : fIsi K [x, .ty "tuple"] G R = R (.bl (isTupD x)) G := by
  apply propext
  cases x <;> first | (cases h; done) | exact isi_gen (b := true) rfl (by decide +kernel) | exact isi_gen (b := false) rfl (by decide +kernel)
theorem isi_lst {K : PySem.W.Frag} {G : GH} {R : K3} {x : D} (h : rdD x = true) : fIsi K [x, .ty "list"] G R = R (.bl (isLstD x)) G := by
  apply propext
  cases x <;> first | (cases h; done) | exact isi_gen (b := true) rfl (by decide +kernel) | exact isi_gen (b := false) rfl (by decide +kernel)
theorem isi_str {K : PySem.W.Frag} {G : GH} {R : K3} {x : D} (h : rdD x = true) : fIsi K [x, .ty "str"] G R = R (.bl (isStrD x)) G := by
  apply propext
  cases x <;> first | (cases h; done) | exact isi_gen (b := true) rfl (by decide +kernel) | exact isi_gen (b := false) rfl (by decide +kernel)
theorem isi_two {K : PySem.W.Frag} {G : GH} {R : K3} {x : D} {n m t : String} {b c : Bool} (h : ty0 x = some t) (k1 : kitB t n = some b) (k2 : kitB t m = some c) : fIsi K [x, .tup [.ty n, .ty m]] G R ↔ R (.bl (b || c)) G := by
  have e1 : PySem.W.kitOne K (.type t) (.type n) = some b := kit_ty k1
  have e2 : PySem.W.kitOne K (.type t) (.type m) = some c := kit_ty k2
  have ka : PySem.W.kitAny K (.type t) [.type n, .type m] = some (b || c) := kitAny_cons e1 (fun hb => kitAny_cons (r := b || c) e2 (fun hc => by rw [kitAny_nil, hb, hc]; rfl) (fun hc => by rw [hc, Bool.or_true])) (fun hb => by rw [hb, Bool.true_or])
  have ty := tyD_0 (G := G) h
  constructor
  · intro q
    obtain ⟨t', us, b', q1, q2, q3, q4⟩ := (show ∃ t us b, tyD G x = some t ∧ [D.ty n, D.ty m].mapM clsD = some us ∧ PySem.W.kitAny K t us = some b ∧ R (.bl b) G from q)
    rw [ty] at q1
    cases q1
    rw [show [D.ty n, D.ty m].mapM clsD = some [Value.type n, Value.type m] from rfl] at q2
    cases q2
    rw [ka] at q3
    cases q3
    exact q4
  · intro q
    exact (show ∃ t us b, tyD G x = some t ∧ [D.ty n, D.ty m].mapM clsD = some us ∧ PySem.W.kitAny K t us = some b ∧ R (.bl b) G from ⟨_, _, _, ty, rfl, ka, q⟩)
theorem isi_tl {K : PySem.W.Frag} {G : GH} {R : K3} {x : D} (h : rdD x = true) : fIsi K [x, .tup [.ty "tuple", .ty "list"]] G R = R (.bl (isTupD x || isLstD x)) G := by
  apply propext
  cases x <;> first | (cases h; done) | exact isi_two (b := true) (c := false) rfl (by decide +kernel) (by decide +kernel) | exact isi_two (b := false) (c := true) rfl (by decide +kernel) (by decide +kernel) | exact isi_two (b := false) (c := false) rfl (by decide +kernel) (by decide +kernel)
theorem isi_is {K : PySem.W.Frag} {G : GH} {R : K3} {x : D} (h : rdD x = true) : fIsi K [x, .tup [.ty "int", .ty "str"]] G R = R (.bl (isIntD x || isBlD x || isStrD x)) G := by
  apply propext
  cases x <;> first | (cases h; done) | exact isi_two (b := true) (c := false) rfl (by decide +kernel) (by decide +kernel) | exact isi_two (b := false) (c := true) rfl (by decide +kernel) (by decide +kernel) | exact isi_two (b := false) (c := false) rfl (by decide +kernel) (by decide +kernel)
section
variable {G : GH} {R : K3} {xs ys : List D} {i j : Int} {x y z : D}
theorem len_tup : fLen [.tup xs] G R = R (.int xs.length) G := by
  apply propext
  constructor
  · rintro ⟨ds, e, h⟩
    cases e
    exact h
  · intro h
    exact ⟨xs, rfl, h⟩
theorem len_lst : fLen [.lst xs] G R = R (.int xs.length) G := by
  apply propext
  constructor
  · rintro ⟨ds, e, h⟩
    cases e
    exact h
  · intro h
    exact ⟨xs, rfl, h⟩
theorem len_lsx : fLen [.lsx xs] G R = R (.int xs.length) G := by
  apply propext
  constructor
  · rintro ⟨ds, e, h⟩
    cases e
    exact h
  · intro h
    exact ⟨xs, rfl, h⟩
theorem len_ref {p : Addr} (g : G p = some (.lst xs)) : fLen [.ref p] G R = R (.int xs.length) G := by
  have e : asS G (.ref p) = some xs := by
    show (match G p with | some (.lst xs) => some xs | _ => none) = some xs
    rw [g]
  apply propext
  constructor
  · rintro ⟨ds, e', h⟩
    rw [e] at e'
    cases e'
    exact h
  · intro h
    exact ⟨xs, e, h⟩
theorem eqI : fEq (.int i) (.int j) G R = R (.bl (i == j)) G := by
  apply propext
  exact ⟨fun h => h.2.2, fun h => ⟨rfl, rfl, h⟩⟩
theorem neI : fNe (.int i) (.int j) G R = R (.bl (!(i == j))) G := by
  apply propext
  exact ⟨fun h => h.2.2, fun h => ⟨rfl, rfl, h⟩⟩
theorem asL_ref {p : Addr} (g : G p = some (.lst xs)) : asL G (.ref p) = some xs := by
  show (match G p with | some (.lst xs) => some xs | _ => none) = some xs
  rw [g]
theorem asS_ref {p : Addr} (g : G p = some (.lst xs)) : asS G (.ref p) = some xs := asL_ref g
theorem asL1_ref {p : Addr} (g : G p = some (.lst xs)) : asL1 G (.ref p) = some xs := by
  show (match G p with | some (.lst xs) => some xs | _ => none) = some xs
  rw [g]
theorem ix_tup {d : D} (h : atD xs i = some d) : fIx (.tup xs) (.int i) G R = R d G := by
  apply propext
  constructor
  · rintro ⟨ds, e, q1, q2, q3⟩
    cases q1
    rw [h] at q2
    cases q2
    exact q3
  · intro q
    exact ⟨xs, d, rfl, h, q⟩
theorem ix_lst {d : D} (h : atD xs i = some d) : fIx (.lst xs) (.int i) G R = R d G := by
  apply propext
  constructor
  · rintro ⟨ds, e, q1, q2, q3⟩
    cases q1
    rw [h] at q2
    cases q2
    exact q3
  · intro q
    exact ⟨xs, d, rfl, h, q⟩
theorem ix_ref {d : D} {p : Addr} (g : G p = some (.lst xs)) (h : atD xs i = some d) : fIx (.ref p) (.int i) G R = R d G := by
  apply propext
  constructor
  · rintro ⟨ds, e, q1, q2, q3⟩
    rw [asS_ref g] at q1
    cases q1
    rw [h] at q2
    cases q2
    exact q3
  · intro q
    exact ⟨xs, d, asS_ref g, h, q⟩
theorem atD_nat {n : Nat} {d : D} (h : xs[n]? = some d) : atD xs (n : Int) = some d := by
  have hl : n < xs.length := (List.getElem?_eq_some_iff.mp h).1
  unfold atD L2.atI L2.ixN
  rw [if_pos (Int.natCast_nonneg n), if_pos (Int.ofNat_lt.mpr hl)]
  show xs[(n : Int).toNat]? = some d
  rw [Int.toNat_natCast, h]
end

/-! ### comprehensions that compute one thing of each item -/
section
variable {st : GH → Prop} {g : G3} {te : W3} {tt : T3} {env : Env3} {G : GH}
theorem gset_out {p q : Addr} {o : GO} (h : G p = none) (k : G q ≠ none) : gset G p o q = G q := gset_ne fun e => k (by rw [e]; exact h)
/-- the list's own place does not show -/
def Over (G G' : GH) : Prop := ∀ q, G q ≠ none → G' q = G q
theorem over_gset {p : Addr} {o : GO} (h : G p = none) : Over G (gset G p o) := fun q k => gset_out h k
theorem lc_map {p : Addr} {R : List D → GH → Prop} (f : D → D) (hp : G p = none) (hst : ∀ G', Over G G' → st G') : ∀ (ds acc : List D),
    (∀ d ∈ ds, ∀ (acc : List D) (Q : K3), Q (f d) (gset G p (.lst acc)) → g d env (gset G p (.lst acc)) fun env2 G2 => te env2 G2 Q noX) → acc.length + ds.length ≤ sizeLine →
    R (acc ++ ds.map f) (gset G p (.lst (acc ++ ds.map f))) → lc st g tYes3 te env p R ds acc (gset G p (.lst acc))
  | [], acc, _, _, fin => ⟨hst _ (over_gset hp), gset_same, by
    rw [List.map_nil, List.append_nil] at fin
    exact fin⟩
  | d :: ds, acc, step, len, fin => by
    rw [List.length_cons] at len
    refine ⟨hst _ (over_gset hp), gset_same, ?_⟩
    refine step d List.mem_cons_self acc _ ⟨gset_same, by omega, ?_⟩
    rw [gset_gset]
    refine lc_map f hp hst ds (acc ++ [f d]) (fun d' h' => step d' (List.mem_cons_of_mem _ h')) (by rw [List.length_append, List.length_singleton]; omega) ?_
    rw [List.append_assoc]
    exact fin
/-- the list is kept as it is from then on -/
theorem lcm {R : K3} {ds : List D} (f : D → D) (hst : ∀ G', Over G G' → st G') (len : ds.length ≤ sizeLine)
    (step : ∀ d ∈ ds, ∀ (p : Addr) (acc : List D) (Q : K3), G p = none → Q (f d) (gset G p (.lst acc)) → g d env (gset G p (.lst acc)) fun env2 G2 => te env2 G2 Q noX)
    (fin : R (.lst (ds.map f)) G) : ∀ p, G p = none → lc st g tYes3 te env p (fun acc G2 => R (.lst acc) (gdel G2 p)) ds [] (gset G p (.lst [])) := fun p hp =>
  lc_map f hp hst ds [] (fun d hd acc Q q => step d hd p acc Q hp q) (by simpa using len) (by
    rw [List.nil_append, gdel_gset hp]
    exact fin)
theorem lcmO {R : K3} {ds : List D} (f : D → D) (hst : ∀ G', Over G G' → st G') (len : ds.length ≤ sizeLine)
    (step : ∀ d ∈ ds, ∀ (p : Addr) (acc : List D) (Q : K3), G p = none → Q (f d) (gset G p (.lst acc)) → g d env (gset G p (.lst acc)) fun env2 G2 => te env2 G2 Q noX)
    (fin : ∀ p, G p = none → R (.ref p) (gset G p (.lst (ds.map f)))) : ∀ p, G p = none → lc st g tYes3 te env p (fun _ G2 => R (.ref p) G2) ds [] (gset G p (.lst [])) := fun p hp =>
  lc_map f hp hst ds [] (fun d hd acc Q q => step d hd p acc Q hp q) (by simpa using len) (by
    rw [List.nil_append]
    exact fin p hp)
/-- with a test -/
theorem lc_filter {p : Addr} {R : List D → GH → Prop} (t : D → Bool) (f : D → D) (hp : G p = none) (hst : ∀ G', Over G G' → st G') : ∀ (ds acc : List D),
    (∀ d ∈ ds, ∀ (acc : List D) (Q : K3) (N : GH → Prop), (t d = true → Q (f d) (gset G p (.lst acc))) → (t d = false → N (gset G p (.lst acc))) → g d env (gset G p (.lst acc)) fun env2 G2 => tt env2 G2 (fun c G3 => if c = true then te env2 G3 Q noX else N G3) noX) → acc.length + ds.length ≤ sizeLine →
    R (acc ++ (ds.filter t).map f) (gset G p (.lst (acc ++ (ds.filter t).map f))) → lc st g tt te env p R ds acc (gset G p (.lst acc))
  | [], acc, _, _, fin => ⟨hst _ (over_gset hp), gset_same, by
    rw [List.filter_nil, List.map_nil, List.append_nil] at fin
    exact fin⟩
  | d :: ds, acc, step, len, fin => by
    rw [List.length_cons] at len
    refine ⟨hst _ (over_gset hp), gset_same, ?_⟩
    refine step d List.mem_cons_self acc _ _ (fun ht => ⟨gset_same, by omega, ?_⟩) (fun ht => ?_)
    · rw [gset_gset]
      refine lc_filter t f hp hst ds (acc ++ [f d]) (fun d' h' => step d' (List.mem_cons_of_mem _ h')) (by rw [List.length_append, List.length_singleton]; omega) ?_
      rw [List.filter_cons_of_pos ht, List.map_cons] at fin
      rw [List.append_assoc]
      exact fin
    · refine lc_filter t f hp hst ds acc (fun d' h' => step d' (List.mem_cons_of_mem _ h')) (by omega) ?_
      rw [List.filter_cons_of_neg (by rw [ht]; exact Bool.false_ne_true)] at fin
      exact fin
end
section
variable {G : GH} {R : K3} {xs : List D} {a b c d e : D} {p : Addr}
theorem ix0 : fIx (.tup (a :: xs)) (.int 0) G R = R a G := ix_tup (atD_nat (n := 0) rfl)
theorem ix1 : fIx (.tup (a :: b :: xs)) (.int 1) G R = R b G := ix_tup (atD_nat (n := 1) rfl)
theorem ix2 : fIx (.tup (a :: b :: c :: xs)) (.int 2) G R = R c G := ix_tup (atD_nat (n := 2) rfl)
theorem ixl0 : fIx (.lst (a :: xs)) (.int 0) G R = R a G := ix_lst (atD_nat (n := 0) rfl)
theorem ixl1 : fIx (.lst (a :: b :: xs)) (.int 1) G R = R b G := ix_lst (atD_nat (n := 1) rfl)
theorem ixl2 : fIx (.lst (a :: b :: c :: xs)) (.int 2) G R = R c G := ix_lst (atD_nat (n := 2) rfl)
theorem ixr0 (g : G p = some (.lst (a :: xs))) : fIx (.ref p) (.int 0) G R = R a G := ix_ref g (atD_nat (n := 0) rfl)
theorem ixr1 (g : G p = some (.lst (a :: b :: xs))) : fIx (.ref p) (.int 1) G R = R b G := ix_ref g (atD_nat (n := 1) rfl)
theorem ixr2 (g : G p = some (.lst (a :: b :: c :: xs))) : fIx (.ref p) (.int 2) G R = R c G := ix_ref g (atD_nat (n := 2) rfl)
theorem ixr3 (g : G p = some (.lst (a :: b :: c :: d :: xs))) : fIx (.ref p) (.int 3) G R = R d G := ix_ref g (atD_nat (n := 3) rfl)
theorem ixr4 (g : G p = some (.lst (a :: b :: c :: d :: e :: xs))) : fIx (.ref p) (.int 4) G R = R e G := ix_ref g (atD_nat (n := 4) rfl)
end
section
variable {G : GH} {R : K3} {xs : List D} {a b c : D}
theorem len_t0 : fLen [.tup []] G R = R (.int 0) G := len_tup
theorem len_t1 : fLen [.tup [a]] G R = R (.int 1) G := len_tup
theorem len_t2 : fLen [.tup [a, b]] G R = R (.int 2) G := len_tup
theorem len_t3 : fLen [.tup [a, b, c]] G R = R (.int 3) G := len_tup
theorem len_l0 : fLen [.lst []] G R = R (.int 0) G := len_lst
theorem len_l1 : fLen [.lst [a]] G R = R (.int 1) G := len_lst
theorem more2 : (((xs.length + 1 + 1 + 1 : Nat) : Int) == 2) = false := by
  rw [beq_eq_false_iff_ne]
  omega
theorem more3 : (((xs.length + 1 + 1 + 1 + 1 : Nat) : Int) == 3) = false := by
  rw [beq_eq_false_iff_ne]
  omega
end
/-! ### sane data: ints of a machine's word, nothing changeable -/
def wordB (i : Int) : Bool := decide (i.natAbs < 2 ^ 63)
mutual
def saneD : D → Bool
  | .non => true
  | .bl _ => true
  | .int i => wordB i
  | .str _ => true
  | .tup xs => saneL xs
  | .lst xs => saneL xs
  | .lsx xs => saneL xs
  | .dct _ xs => saneL xs
  | _ => false
def saneL : List D → Bool
  | [] => true
  | d :: r => saneD d && saneL r
end
mutual
theorem sane_rd : ∀ (d : D), saneD d = true → rdD d = true
  | .non, _ => rfl
  | .bl _, _ => rfl
  | .int _, _ => rfl
  | .str _, _ => rfl
  | .tup xs, h => saneL_rd xs h
  | .lst xs, h => saneL_rd xs h
  | .lsx xs, h => saneL_rd xs h
  | .dct _ xs, h => saneL_rd xs h
  | .ty _, h => by cases h
  | .ins _ _ _, h => by cases h
  | .ref _, h => by cases h
  | .tpf _, h => by cases h
  | .exc _ _ _ _, h => by cases h
theorem saneL_rd : ∀ (ds : List D), saneL ds = true → rdDL ds = true
  | [], _ => rfl
  | d :: ds, h => by
    have h' : (saneD d && saneL ds) = true := h
    rw [Bool.and_eq_true] at h'
    show (rdD d && rdDL ds) = true
    rw [sane_rd d h'.1, saneL_rd ds h'.2]
    rfl
end
theorem saneL_iff {ds : List D} : saneL ds = true ↔ ∀ d ∈ ds, saneD d = true := by
  induction ds with
  | nil => simp [saneL]
  | cons a ds ih => simp [saneL, ih]
theorem rdDL_iff {ds : List D} : rdDL ds = true ↔ ∀ d ∈ ds, rdD d = true := by
  induction ds with
  | nil => simp [rdDL]
  | cons a ds ih => simp [rdDL, ih]
theorem sane_int {i : Int} (h : saneD (.int i) = true) : -(2 ^ 63) < i ∧ i < 2 ^ 63 := by
  have h' : i.natAbs < 2 ^ 63 := of_decide_eq_true h
  omega
theorem sane_tup {xs : List D} (h : saneD (.tup xs) = true) : ∀ d ∈ xs, saneD d = true := saneL_iff.mp h
section
variable {g : G3} {te : W3} {env env' : Env3} {G : GH} {R : K3} {Ex : X3} {ds : List D} {vs : List Nat}
theorem wLc_tup (i : Nat) (f : D → D) (h : at3 env i = some (.tup ds)) (he : wipe3 env vs = env') (hl : ds.length ≤ sizeLine)
    (step : ∀ d ∈ ds, ∀ (p : Addr) (acc : List D) (Q : K3), G p = none → Q (f d) (gset G p (.lst acc)) → g d env' (gset G p (.lst acc)) fun env2 G2 => te env2 G2 Q noX)
    (fin : R (.lst (ds.map f)) G) : wLc (iTpl (wVar i)) g tYes3 te vs env G R Ex := by
  refine ⟨.tup ds, h, ds, rfl, ?_⟩
  rw [he]
  exact lcm f (fun _ _ => trivial) hl step fin
theorem wLc_lst (i : Nat) (f : D → D) (h : at3 env i = some (.lst ds)) (he : wipe3 env vs = env') (hl : ds.length ≤ sizeLine)
    (step : ∀ d ∈ ds, ∀ (p : Addr) (acc : List D) (Q : K3), G p = none → Q (f d) (gset G p (.lst acc)) → g d env' (gset G p (.lst acc)) fun env2 G2 => te env2 G2 Q noX)
    (fin : R (.lst (ds.map f)) G) : wLc (iLst (wVar i)) g tYes3 te vs env G R Ex := by
  refine ⟨.lst ds, h, ds, rfl, ?_⟩
  rw [he]
  exact lcm f (fun _ _ => trivial) hl step fin
theorem wLc_lsx (i : Nat) (f : D → D) (h : at3 env i = some (.lsx ds)) (he : wipe3 env vs = env') (hl : ds.length ≤ sizeLine)
    (step : ∀ d ∈ ds, ∀ (p : Addr) (acc : List D) (Q : K3), G p = none → Q (f d) (gset G p (.lst acc)) → g d env' (gset G p (.lst acc)) fun env2 G2 => te env2 G2 Q noX)
    (fin : R (.lst (ds.map f)) G) : wLc (iLst (wVar i)) g tYes3 te vs env G R Ex := by
  refine ⟨.lsx ds, h, ds, rfl, ?_⟩
  rw [he]
  exact lcm f (fun _ _ => trivial) hl step fin
theorem wLc_ref (i : Nat) {q : Addr} (f : D → D) (h : at3 env i = some (.ref q)) (hq : G q = some (.lst ds)) (he : wipe3 env vs = env') (hl : ds.length ≤ sizeLine)
    (step : ∀ d ∈ ds, ∀ (p : Addr) (acc : List D) (Q : K3), G p = none → Q (f d) (gset G p (.lst acc)) → g d env' (gset G p (.lst acc)) fun env2 G2 => te env2 G2 Q noX)
    (fin : R (.lst (ds.map f)) G) : wLc (iLst (wVar i)) g tYes3 te vs env G R Ex := by
  refine ⟨.ref q, h, ds, asL_ref hq, ?_⟩
  rw [he]
  exact lcm f (fun G' o => (o q (by rw [hq]; simp)).trans hq) hl step fin
end
theorem all_lst {bs : List Bool} {ds : List D} {G : GH} {R : K3} (h : bools ds = some bs) : fAll [.lst ds] G R = R (.bl (bs.all id)) G := by
  apply propext
  constructor
  · rintro ⟨x, es, cs, e1, e2, e3, q⟩
    cases e1
    cases e2
    rw [h] at e3
    cases e3
    exact q
  · intro q
    exact ⟨_, ds, bs, rfl, rfl, h, q⟩
theorem any_lst {bs : List Bool} {ds : List D} {G : GH} {R : K3} (h : bools ds = some bs) : fAny [.lst ds] G R = R (.bl (bs.any id)) G := by
  apply propext
  constructor
  · rintro ⟨x, es, cs, e1, e2, e3, q⟩
    cases e1
    cases e2
    rw [h] at e3
    cases e3
    exact q
  · intro q
    exact ⟨_, ds, bs, rfl, rfl, h, q⟩
theorem bools_of {p : D → Bool} {ds : List D} : bools (ds.map fun d => D.bl (p d)) = some (ds.map p) := by
  have e : (ds.map fun d => D.bl (p d)) = (ds.map p).map D.bl := by
    rw [List.map_map]
    rfl
  rw [e, bools_map]
theorem add_lst {xs ys : List D} {G : GH} {R : K3} (h : xs.length + ys.length ≤ sizeLine) (q : R (.lst (xs ++ ys)) G) : fAdd (.lst xs) (.lst ys) G R := ⟨xs, ys, rfl, rfl, h, q⟩
/-! ### two clauses -/
section
variable {st st1 : GH → Prop} {g g1 : G3} {te : W3} {it1 : I3} {env : Env3} {G : GH} {vs1 : List Nat}
theorem lcIn_map {p : Addr} {N : List D → GH → Prop} (f : D → D) (hp : G p = none) (hst : ∀ G', Over G G' → st1 G') : ∀ (es acc : List D),
    (∀ d ∈ es, ∀ (acc : List D) (Q : K3), Q (f d) (gset G p (.lst acc)) → g1 d env (gset G p (.lst acc)) fun env2 G2 => te env2 G2 Q noX) → acc.length + es.length ≤ sizeLine →
    N (acc ++ es.map f) (gset G p (.lst (acc ++ es.map f))) → lcIn st1 g1 tYes3 te env p N es acc (gset G p (.lst acc))
  | [], acc, _, _, fin => ⟨hst _ (over_gset hp), gset_same, by
    rw [List.map_nil, List.append_nil] at fin
    exact fin⟩
  | d :: ds, acc, step, len, fin => by
    rw [List.length_cons] at len
    refine ⟨hst _ (over_gset hp), gset_same, ?_⟩
    refine step d List.mem_cons_self acc _ ⟨gset_same, by omega, ?_⟩
    rw [gset_gset]
    refine lcIn_map f hp hst ds (acc ++ [f d]) (fun d' h' => step d' (List.mem_cons_of_mem _ h')) (by rw [List.length_append, List.length_singleton]; omega) ?_
    rw [List.append_assoc]
    exact fin
theorem lc2_map {p : Addr} {R : List D → GH → Prop} (h : D → List D) (hp : G p = none) (hst : ∀ G', Over G G' → st G') : ∀ (ds acc : List D),
    (∀ d ∈ ds, ∀ (acc : List D) (N : List D → GH → Prop), acc.length + (h d).length ≤ sizeLine → N (acc ++ h d) (gset G p (.lst (acc ++ h d))) →
      g d env (gset G p (.lst acc)) fun env2 G2 => it1 env2 G2 (fun es st1 G4 => lcIn st1 g1 tYes3 te (wipe3 env2 vs1) p N es acc G4) noX) → acc.length + (ds.flatMap h).length ≤ sizeLine →
    R (acc ++ ds.flatMap h) (gset G p (.lst (acc ++ ds.flatMap h))) → lc2 st g tYes3 it1 g1 tYes3 te vs1 env p R ds acc (gset G p (.lst acc))
  | [], acc, _, _, fin => ⟨hst _ (over_gset hp), gset_same, by
    rw [List.flatMap_nil, List.append_nil] at fin
    exact fin⟩
  | d :: ds, acc, step, len, fin => by
    rw [List.flatMap_cons, List.length_append] at len
    rw [List.flatMap_cons, ← List.append_assoc] at fin
    refine ⟨hst _ (over_gset hp), gset_same, ?_⟩
    refine step d List.mem_cons_self acc _ (by omega) ?_
    exact lc2_map h hp hst ds (acc ++ h d) (fun d' h' => step d' (List.mem_cons_of_mem _ h')) (by rw [List.length_append]; omega) fin
theorem wLc2_tup {R : K3} {Ex : X3} {env' : Env3} {ds : List D} {vs : List Nat} (i : Nat) (h : D → List D) (hv : at3 env i = some (.tup ds)) (he : wipe3 env vs = env') (hl : (ds.flatMap h).length ≤ sizeLine)
    (step : ∀ d ∈ ds, ∀ (p : Addr) (acc : List D) (N : List D → GH → Prop), G p = none → acc.length + (h d).length ≤ sizeLine → N (acc ++ h d) (gset G p (.lst (acc ++ h d))) →
      g d env' (gset G p (.lst acc)) fun env2 G2 => it1 env2 G2 (fun es st1 G4 => lcIn st1 g1 tYes3 te (wipe3 env2 vs1) p N es acc G4) noX)
    (fin : R (.lst (ds.flatMap h)) G) : wLc2 (iTpl (wVar i)) g tYes3 it1 g1 tYes3 te vs vs1 env G R Ex := by
  refine ⟨.tup ds, hv, ds, rfl, fun p hp => ?_⟩
  rw [he]
  refine lc2_map h hp (fun _ _ => trivial) ds [] (fun d hd acc N q1 q2 => step d hd p acc N hp q1 q2) (by simpa using hl) ?_
  rw [List.nil_append, gdel_gset hp]
  exact fin
end
theorem tuple_lst {xs : List D} {G : GH} {R : K3} : fTuple [.lst xs] G R = R (.tup xs) G := by
  apply propext
  constructor
  · rintro ⟨ds, e, h⟩
    cases e
    exact h
  · intro h
    exact ⟨xs, rfl, h⟩
/-- what stands between two statements -/
theorem seq_cut {a b : S3} {E : E3} {env : Env3} {G : GH} (Mid : Env3 → GH → Prop) (h1 : ∀ env' G', Mid env' G' → b E env' G') (h2 : ∀ N : Env3 → GH → Prop, (∀ env' G', Mid env' G' → N env' G') → a { E with nx := N } env G) : wSeq a b E env G := h2 _ h1
theorem set_ref {p : Addr} {xs : List D} {v : D} {G : GH} {R : GH → Prop} {i : Int} (j : Nat) (hi : i = (j : Int)) (hj : j < xs.length) (g : G p = some (.lst xs)) : setI3 (.ref p) (.int i) v G R = R (gset G p (.lst (xs.set j v))) := by
  have hx : L2.ixN xs.length i = some j := by
    rw [hi]
    unfold L2.ixN
    rw [if_pos (Int.natCast_nonneg j), if_pos (Int.ofNat_lt.mpr hj), Int.toNat_natCast]
  apply propext
  constructor
  · rintro ⟨ys, k, e1, e2, h⟩
    rw [g] at e1
    cases e1
    rw [hx] at e2
    cases e2
    exact h
  · intro h
    exact ⟨xs, j, g, hx, h⟩
section
variable {i j : Int} {G : GH} {R : K3} {a b : Str} {x : D}
theorem addI : fAdd (.int i) (.int j) G R = R (.int (i + j)) G := rfl
theorem mulI : fMul (.int i) (.int j) G R = (MulC i j ∧ R (.int (i * j)) G) := rfl
theorem intI : fInt [.int i] G R = R (.int i) G := rfl
theorem intB {c : Bool} : fInt [.bl c] G R = R (.int (if c then 1 else 0)) G := rfl
theorem eqS : fEq (.str a) (.str b) G R = R (.bl (a == b)) G := rfl
theorem neS : fNe (.str a) (.str b) G R = R (.bl (!(a == b))) G := rfl
theorem isN_ : fIsN x .non G R = R (.bl (L3.isNon x)) G := by simp only [fIsN, true_and]
theorem notN_ : fNotN x .non G R = R (.bl (!L3.isNon x)) G := by simp only [fNotN, true_and]
end
theorem wLc_it {it : I3} {g : G3} {te : W3} {env env' : Env3} {G : GH} {R : K3} {Ex : X3} {ds : List D} {vs : List Nat} (f : D → D) (he : wipe3 env vs = env') (hl : ds.length ≤ sizeLine)
    (hit : ∀ Kt : List D → (GH → Prop) → GH → Prop, (∀ st : GH → Prop, (∀ G', Over G G' → st G') → Kt ds st G) → it env G Kt Ex)
    (step : ∀ d ∈ ds, ∀ (p : Addr) (acc : List D) (Q : K3), G p = none → Q (f d) (gset G p (.lst acc)) → g d env' (gset G p (.lst acc)) fun env2 G2 => te env2 G2 Q noX)
    (fin : R (.lst (ds.map f)) G) : wLc it g tYes3 te vs env G R Ex := by
  refine hit _ fun st hst => ?_
  rw [he]
  exact lcm f hst hl step fin
theorem perm_erase : ∀ (L : List D) (r : Nat) (h : r < L.length), (L[r] :: L.eraseIdx r).Perm L
  | a :: L, 0, _ => List.Perm.refl _
  | a :: L, r + 1, h => by
    have ih := perm_erase L r (by simpa using h)
    rw [List.getElem_cons_succ, List.eraseIdx_cons_succ]
    exact (List.Perm.swap _ _ _).trans (List.Perm.cons a ih)
theorem z_lt_0 : decide ((0 : Int) < ((0 : Nat) : Int)) = false := rfl
theorem Over.refl {G : GH} : Over G G := fun _ _ => rfl
theorem Over.trans {G G1 G2 : GH} (a : Over G G1) (b : Over G1 G2) : Over G G2 := fun q h => (b q (by rw [a q h]; exact h)).trans (a q h)
theorem Over.new {G G1 : GH} {q : Addr} {o : GO} (a : Over G G1) (hq : G q = none) : Over G (gset G1 q o) := fun r h => by rw [gset_ne (fun e => h (by rw [e]; exact hq))]; exact a r h
theorem Over.del {G G1 : GH} {q : Addr} (a : Over G G1) (hq : G q = none) : Over G (gdel G1 q) := fun r h => by rw [gdel_ne (fun e => h (by rw [e]; exact hq))]; exact a r h
end L3

set_option Elab.async false
set_option linter.all false
set_option maxRecDepth 100000
namespace L3
open PySem PySem.Spec L2
open PyProof.Rows hiding St

/-! ### defs as values, defs with defaults -/
/-- the def at f keeps the promise S; es: the defaults, laid behind what is written -/
structure GoodAt (P : Program) (w : World) (K : PySem.W.Frag) (mg : Str → Option Value) (base : Heap) (f : Addr) (ps : List Str) (es : List D) (k : Nat) (S : SP3) : Prop where
  ex : ∃ fd ws, PySem.W.keepIn K (.ref f) = true ∧ Binds K fd ps ws ∧ (∃ vs, Vals vs ws ∧ ∀ H G, RepL K H G es vs) ∧ FnG P w K mg base (L2.CX P w) k f fd ps (sp3 K ps.length S)
structure GoodD (P : Program) (w : World) (K : PySem.W.Frag) (mg : Str → Option Value) (base : Heap) (nm : Str) (ps : List Str) (es : List D) (k : Nat) (S : SP3) : Prop where
  ex : ∃ f, mg nm = some (.ref f) ∧ GoodAt P w K mg base f ps es k S
section
variable {P : Program} {w : World} {K : PySem.W.Frag} {mg : Str → Option Value} {base : Heap}
theorem GoodAt.mono {f : Addr} {ps : List Str} {es : List D} {j k : Nat} {S : SP3} (g : GoodAt P w K mg base f ps es j S) (h : j ≤ k) : GoodAt P w K mg base f ps es k S :=
  let ⟨fd, ws, b, c, d, F⟩ := g.ex; ⟨fd, ws, b, c, d, F.mono h⟩
theorem GoodAt.imp {f : Addr} {ps : List Str} {es : List D} {k : Nat} {S S' : SP3} (g : GoodAt P w K mg base f ps es k S) (h : ∀ ds G R Ex, S' ds G R Ex → S ds G R Ex) : GoodAt P w K mg base f ps es k S' :=
  let ⟨fd, ws, b, c, d, F⟩ := g.ex; ⟨fd, ws, b, c, d, F.imp fun _ _ _ _ ⟨ds, G, R, Ex, q1, q2, q3, q4, q5⟩ => ⟨ds, G, R, Ex, q1, q2, q3, h _ _ _ _ q4, q5⟩⟩
theorem Good.at_ {nm : Str} {ps : List Str} {k : Nat} {S : SP3} (g : Good P w K mg base nm ps k S) : GoodD P w K mg base nm ps [] k S :=
  let ⟨f, fd, a, b, c, F⟩ := g.ex; ⟨f, a, fd, [], b, c, ⟨[], .nil, fun _ _ => rfl⟩, F⟩
/-- what of the text a def with defaults needs -/
structure DefAtD (K : PySem.W.Frag) (mg : Str → Option Value) (nm : Str) (st : Stmt) (ps : List Str) (es : List D) : Prop where
  ex : ∃ f fd ws, mg nm = some (.ref f) ∧ (∃ (oc : Value) (od : Option Addr) (dV kV doc pm : Value) (an : Option Addr) (cdv ct : Value) (osl : Array (Option Value)),
    fd = PySem.W.fnOf nm nm (defArgs st) (defBody st) (defScope st) dV kV doc pm an cdv ct ∧ K.lookup f = some ⟨oc, od, .func fd, osl⟩ ∧ PySem.W.codeIn K cdv nm = true) ∧
    PySem.W.keepIn K (.ref f) = true ∧ Binds K fd ps ws ∧ (∃ vs, Vals vs ws ∧ ∀ H G, RepL K H G es vs)
theorem goodD_of {nm : Str} {st : Stmt} {N ps : List Str} {es : List D} {k : Nat} {S : SP3} (d : DefAtD K mg nm st ps es) (sc : FnScope N ps (defScope st))
    (hb : ∀ (f : Addr) (cd : Value) (A : Around) (outer : List Env) (s : Shared) (H : Hp) (E : XK),
      PassesOwn (model P w) (cx3 P w K mg base N nm (defScope st) f cd A outer s H E).A (cx3 P w K mg base N nm (defScope st) f cd A outer s H E).env (cx3 P w K mg base N nm (defScope st) f cd A outer s H E).xe →
      Takes (cx3 P w K mg base N nm (defScope st) f cd A outer s H E) (WEx E) → (cx3 P w K mg base N nm (defScope st) f cd A outer s H E).A.guards = some [] → Room k (cx3 P w K mg base N nm (defScope st) f cd A outer s H E).A →
      ∃ u : S3, PSs (cx3 P w K mg base N nm (defScope st) f cd A outer s H E) (defBody st) (upS K (WEx E) u) ∧ ∀ ds G R Ex, ds.length = ps.length → S ds G R Ex → u { nx := fun _ G => R .non G, rt := R, ex := Ex } (start3 N ds) G) :
    GoodD P w K mg base nm ps es (k + 1) S := by
  obtain ⟨f, fd, ws, hm, F, kp, hbd, hv⟩ := d.ex
  obtain ⟨oc, od, dV, kV, doc, pm, an, cdv, ct, osl, rfl, lk, hcd⟩ := F
  have hlen : ∀ vs H Q E, sp3 K ps.length S vs H Q E → vs.length = ps.length := fun vs H Q E ⟨ds, G, R, Ex, h1, h2, _⟩ => h2.length.trans h1
  refine ⟨f, hm, _, ws, kp, hbd, hv, fn_G lk hcd sc hlen fun A outer s H vs Q E hg hr hs => ?_⟩
  obtain ⟨u, hu, hw⟩ := hb f cdv A outer s H E (passes_of rfl) (takes_of rfl rfl rfl rfl) hg hr
  refine ⟨_, hu, ?_⟩
  obtain ⟨ds, G, R, Ex, h1, h2, h3, h4, h5, h6⟩ := hs
  refine ⟨start3 N ds, G, _, ?_, h3, hw ds G R Ex h1 h4, ⟨fun env σ G' H' e re rg q => h5 .non .non G' H' e rfl rg q, h5, fun _ _ _ _ _ _ _ z => z.elim, fun _ _ _ _ _ _ _ z => z.elim, h6⟩⟩
  unfold start3 L2.start
  rw [h2.length]
  exact REnv.start h2 (REnv.nones _)
end
/-! calls -/
def wCallD (n : Nat) (es : List D) (S : SP3) (ar : A3) : W3 := fun env G R Ex => ar env G (fun ds G1 => (ds ++ es).length = n ∧ S (ds ++ es) G1 R (fun c f _ G' => Ex c f env G')) Ex
/-- the slot i holds a def that keeps a promise at a level up to k -/
def wCallV (P : Program) (w : World) (K : PySem.W.Frag) (mg : Str → Option Value) (base : Heap) (k : Nat) (i : Nat) (ar : A3) : W3 := fun env G R Ex => ∃ f ps es S, at3 env i = some (.ref f) ∧ GoodAt P w K mg base f ps es k S ∧ wCallD ps.length es S ar env G R Ex
section
variable {X : Cx} {W : WX} {k : Nat} {x : Str} {ps : List Str} {ds : List D} {S : SP3} {p pos : Pos} {e : Expr} {es : List Expr} {ar : A3} {we : W3} {f : Addr}
theorem RepL.appendI {K : PySem.W.Frag} {H : Hp} {G : GH} {ds es : List D} {vs us : List V} (h : RepL K H G ds vs) (k : ∀ H G, RepL K H G es us) : RepL K H G (ds ++ es) (vs ++ us) := h.append (k H G)
theorem at_run {env : Env3} {G : GH} {H : Hp} {R : K3} {Ex : X3} {Q : VK} {σ : St} {s : Shared} {pins : List (Addr × Obj)} (F : GoodAt X.prog X.w X.K X.mg X.base f ps ds k S) (hr : Room k X.A) (hgd : X.A.guards = some []) (tk : Takes X W) (ha : PA X (e :: es) (upA X.K W ar)) (I : Inv X pins σ H s)
    (re : REnv X.K H G env σ) (rg : RG X.K H G) (h : wCallD ps.length ds S ar env G R Ex) (fe : FinE X.K H G R Q) (fx : FinX X.K W H G Ex)
    (he : starEach (e :: es) X.env = (false, eval e X.env) :: starEach es X.env) (hpl : (backTo pos (starEach es X.env)).any (·.1) = false) :
    wpAny (model X.prog X.w) X.A (PySem.callWith pos (.ref f) [] (backTo pos (starEach (e :: es) X.env)) []) (EP X pins σ Q) X.xe s := by
  obtain ⟨fd, ws, hk, hb, ⟨dv, dvw, drep⟩, FG⟩ := F.ex
  refine PySem.W.callWith_K (h₀ := X.base) I.ok.mod.kin hk (thn (ha.run pos pins s σ H _ I (upA_go re rg h fx (Q := fun vs H1 => sp3 X.K ps.length S (vs ++ dv) H1 Q (WE W σ)) fun ds1 vs G1 H1 e1 rd rg1 h1 => ?_)) fun us s1 ⟨vs, H1, I1, r, q⟩ => ⟨I1.kIn, ?_⟩) he hpl
  · exact ⟨ds1 ++ ds, G1, R, _, h1.1, rd.append (drep H1 G1), rg1, h1.2, fe.ext e1, fun c fs d env' σ' G2 H2 e2 re2 rg2 rx ex => fx c fs d env σ G2 H2 (e1.trans e2) (re.ext (e1.trans e2)) rg2 rx ex⟩
  · have rr : Vals (vs ++ dv) (us ++ ws) := r.append dvw
    have hl : (us ++ ws).length = ps.length := by rw [← rr.length]; exact FG.len _ _ _ _ q
    have b := hb s1 us I1.kIn hl
    refine wpAny_call (codeAny_mono (FG.run X.A X.stack s1 H1 ⟨us, []⟩ (us ++ ws) (vs ++ dv) Q (WE W σ) hr hgd I1.env0 b rr q) fun r s' hq => ?_)
    cases r with
    | error e => exact passAt tk σ pins H1 s1 e s' I1 hq
    | ok fl =>
      cases fl with
      | ret u => exact I1.after hq
      | next => exact False.elim hq
      | brk => exact False.elim hq
      | cont => exact False.elim hq
/-- f(e, ..), f a def of the module with defaults -/
theorem c_callD (F : GoodD X.prog X.w X.K X.mg X.base x ps ds k S) (hr : Room k X.A) (hgd : X.A.guards = some []) (tk : Takes X W) (ha : PA X (e :: es) (upA X.K W ar)) (hg : Gl X x := by rfl)
    (hdb : (x == ("__debug__" : Str)) = false := by decide) (he : starEach (e :: es) X.env = (false, eval e X.env) :: starEach es X.env := by rfl) (hpl : (backTo pos (starEach es X.env)).any (·.1) = false := by rfl) :
    PE X (.Call (.Name x p) (e :: es) [] pos) (up X.K W (wCallD ps.length ds S ar)) := by
  obtain ⟨f, hm, FA⟩ := F.ex
  refine ⟨fun pins s σ H Q I h => ?_⟩
  obtain ⟨env, G, R, Ex, re, rg, h, fe, fx⟩ := h
  exact wpAny_Call_Name_kw (ld_glob I hg hm (at_run FA hr hgd tk ha I re rg h fe fx he hpl) hdb)
/-- the name of a def of the module, as a value -/
theorem c_defV (F : GoodD X.prog X.w X.K X.mg X.base x ps ds k S) (hg : Gl X x := by rfl) (hd : (x == ("__debug__" : Str)) = false := by decide) :
    PE X (.Name x pos) (up X.K W (fun _ G R _ => ∀ f, GoodAt X.prog X.w X.K X.mg X.base f ps ds k S → R (.ref f) G)) := by
  obtain ⟨f, hm, FA⟩ := F.ex
  exact PE.imp (c_glob (W := W) (d := .ref f) (v := .ref f) hm rfl (fun _ _ => rfl) hg hd) fun σ H Q ⟨env, G, R, Ex, re, rg, h, fe, fx⟩ => ⟨env, G, R, Ex, re, rg, h f FA, fe, fx⟩
/-- x(e, ..), x a local name that holds a def -/
theorem c_callV {k i : Nat} (tk : Takes X W) (hN : X.N[i]? = some x) (hv : Vis X.env.scope x) (hr : Room k X.A) (hgd : X.A.guards = some []) (ha : PA X (e :: es) (upA X.K W ar))
    (hdb : (x == ("__debug__" : Str)) = false := by decide) (hcd : (x == ("__classdict__" : Str)) = false := by decide)
    (he : starEach (e :: es) X.env = (false, eval e X.env) :: starEach es X.env := by rfl) (hpl : (backTo pos (starEach es X.env)).any (·.1) = false := by rfl) :
    PE X (.Call (.Name x p) (e :: es) [] pos) (up X.K W (wCallV X.prog X.w X.K X.mg X.base k i ar)) := by
  refine ⟨fun pins s σ H Q I h => ?_⟩
  obtain ⟨env, G, R, Ex, re, rg, ⟨f, ps, es', S, h1, FA, h⟩, fe, fx⟩ := h
  obtain ⟨v, hs, rv⟩ := re.get h1
  refine wpAny_Call_Name_kw (thn ((pe_var (pos := p) hN hv hdb hcd).run pins s σ H (fun u H1 => u = .ref f ∧ H1 = H) I ⟨.ref f, ?_, rfl, rfl⟩) fun u s1 ⟨v1, H1, I1, r1, q1⟩ => ?_)
  · rw [hs, show v = .ref f from rv]
  obtain ⟨rfl, rfl⟩ := q1
  cases r1
  exact at_run FA hr hgd tk ha I1 re rg h fe fx he hpl
end
/-- statements that are never reached -/
theorem s_never {X : Cx} {W : WX} {ss : List Stmt} : PSs X ss (upS X.K W (fun _ _ _ => False)) := ⟨fun _ _ _ _ _ _ h => let ⟨_, _, _, _, _, z, _⟩ := h; z.elim⟩
/-! where a def with keyword-only defaults stands -/
/-- a def whose keyword-only parameters have these defaults -/
def dfnK (nm : Str) (st : Stmt) (kw : List (Str × He.Dv)) : He.DefD := ⟨(nm, none), nm, nm, defArgs st, defBody st, defScope st, [], kw⟩
def dvD : He.Dv → D
  | .bl b => .bl b
  | .int i => .int i
  | .str x => .str x
  | _ => .non
def dvB : He.Dv → Bool
  | .non => true
  | .bl _ => true
  | .int _ => true
  | .str _ => true
  | _ => false
theorem dv_rep {K : PySem.W.Frag} : ∀ {kw : List (Str × He.Dv)}, (kw.all fun q => dvB q.2) = true → ∀ H G, RepL K H G (kw.map fun q => dvD q.2) ((kw.map fun q => (q.1, q.2.v K)).map (·.2))
  | [], _, _, _ => rfl
  | q :: kw, h, H, G => by
    rw [List.all_cons, Bool.and_eq_true] at h
    obtain ⟨x, v⟩ := q
    refine ⟨_, _, rfl, ?_, dv_rep h.2 H G⟩
    cases v <;> first | rfl | (have := h.1; cases this)
section
variable {fn : List He.DefD} {fs : List Fc} {ex : PySem.W.Frag → Bool} {K : PySem.W.Frag} {mg : Str → Option Value} {h : Heap}
theorem SaysM.defAtK (c : SaysM fn ex K) (X : K.In h) (g : h.Ns mainGlobals mg) (i : Nat) {nm : Str} {st : Stmt} {ps : List Str} {kw : List (Str × He.Dv)} (n : Nat) (hi : fn[i]? = some (dfnK nm st kw)) (hg : PySem.W.nsIn K mainGlobals nm = some (some (.ref (He.ga K nm))))
    (hk : kw ≠ []) (hn : n + kw.length = ps.length) (hv : (kw.all fun q => dvB q.2) = true)
    (hb : ∀ (D : Addr) (doc pm : Value) (an : Option Addr) (cdv ct : Value) (us ks : List Value), us.length = n → ks.length = kw.length →
      KwChain D ((kw.map (·.1)).zip ks) (bindArgs (PySem.W.fnOf nm nm (defArgs st) (defBody st) (defScope st) .none (.ref D) doc pm an cdv ct) ⟨us, []⟩) (ps.zip (us ++ ks))) :
    DefAtD K mg nm st ps (kw.map fun q => dvD q.2) := by
  obtain ⟨fd, F⟩ := c.funD i hi
  have m : mg nm = some (.ref (He.ga K nm)) := PySem.W.mg_of X g hg
  have kp := F.kp
  have hkw : (dfnK nm st kw).kws K = kw.map fun q => (q.1, q.2.v K) := rfl
  obtain ⟨ws, hv1, hb1⟩ := FunD.binds0 (ps := ps) F n (by rw [hkw]; simpa using hk) (by rw [hkw, List.length_map]; exact hn) (fun D doc pm an cdv ct us ks h1 h2 => by
    rw [hkw, List.length_map] at h2
    have := hb D doc pm an cdv ct us ks h1 h2
    rw [hkw, List.map_map]
    exact this)
  obtain ⟨oc, od, dV, kV, doc, pm, an, cdv, ct, osl, e, lk, hcd, hD, _⟩ := F.ex
  exact ⟨_, fd, ws, m, ⟨oc, od, dV, kV, doc, pm, an, cdv, ct, osl, e, lk, hcd⟩, kp, hb1, _, hv1, dv_rep hv⟩
theorem Top.defK (T : Top fn fs K mg) (i j : Nat) {nm : Str} {st : Stmt} {ps : List Str} {kw : List (Str × He.Dv)} (n : Nat) (hi : fn[i]? = some (dfnK nm st kw)) (hj : fs[j]? = some (.glo nm))
    (hk : kw ≠ []) (hn : n + kw.length = ps.length) (hv : (kw.all fun q => dvB q.2) = true)
    (hb : ∀ (D : Addr) (doc pm : Value) (an : Option Addr) (cdv ct : Value) (us ks : List Value), us.length = n → ks.length = kw.length →
      KwChain D ((kw.map (·.1)).zip ks) (bindArgs (PySem.W.fnOf nm nm (defArgs st) (defBody st) (defScope st) .none (.ref D) doc pm an cdv ct) ⟨us, []⟩) (ps.zip (us ++ ks))) :
    DefAtD K mg nm st ps (kw.map fun q => dvD q.2) :=
  let ⟨_, X, G⟩ := T.ex; T.c.defAtK X G i n hi (Fc.glo_ok (T.fc j hj)) hk hn hv hb
end
end L3

set_option Elab.async false
set_option linter.all false
set_option maxRecDepth 100000
namespace L3
open PySem PySem.Spec L2
open PyProof.Rows hiding St
open RZ

/-! ### enumerate and zip over lists and tuples alike -/
/-- one argument -/
theorem meets_enumB1 {v : Value} {o : Obj} {H : Heap → Prop} (B : Begins v o H) :
    Meets (Builtin.«enumerate.__new__» ⟨[.type "enumerate", v], []⟩) (fun _ R s => H s.heap ∧
      R (.ok (.ret (.ref (s.heap.push o).objs.size))) { s with heap := (s.heap.push o).push { cls := .type "enumerate", data := .fields #[.none, .bool false, .ref s.heap.objs.size, rawInt 0, .none, .none] } }) :=
  .of_wp fun prog w A R s h => by
    obtain ⟨hp, g, d, tk, os⟩ := s; obtain ⟨h1, h⟩ := h
    have hsub := sub_enumerate
    have q1 : ∀ {A' : Around} {E : Value → Shared → Prop} {Q : Value → Shared → Prop}, Q (.ref hp.objs.size) ⟨hp.push o, g, d, tk, os⟩ → wpAny (model prog w) A' (pyIter v) Q E ⟨hp, g, d, tk, os⟩ :=
      fun q => B.iter prog w _ _ ⟨hp, g, d, tk, os⟩ _ h1 q
    wp_walk using q1
    refine wpAny_stack_any fun st => wpAny_pure ?_
    split
    · rename_i c _ _ _ _ _
      cases (c == Value.type "enumerate")
      · wp_walk using q1
        exact ⟨_, rfl, h⟩
      · wp_walk using q1
        exact ⟨_, rfl, h⟩
    · wp_walk using q1
      exact ⟨_, rfl, h⟩
theorem enum_begins1 {prog : Program} {w : World} {A : Around} {E : Value → Shared → Prop} {s : Shared} {v : Value} {o : Obj} {H : Heap → Prop} {Q : Value → Shared → Prop} (B : Begins v o H) (h1 : H s.heap)
    (h : ∀ h', IsEnum h' (s.heap.objs.size + 1) s.heap.objs.size 0 .none → h'.get? s.heap.objs.size = some o → h'.objs.size = s.heap.objs.size + 2 →
      (∀ b o, s.heap.get? b = some o → h'.get? b = some o) → Q (.ref (s.heap.objs.size + 1)) { s with heap := h' }) :
    wpAny (model prog w) A (call (.type "enumerate") [v]) Q E s := by
  refine callType_new F.called_enumerate (by decide) (F.typeCall_enumerate_1 _) (F.newCall_enumerate_1 _) (fun obj => F.args_object_init_2 obj _) F.entry_enumerate_new
    (meets_enumB1 B) ⟨h1, ?_⟩
  have hz : (s.heap.push o).objs.size = s.heap.objs.size + 1 := Heap.size_push ..
  show _ ∧ _
  rw [hz]
  have he : IsEnum ((s.heap.push o).push { cls := .type "enumerate", data := .fields #[.none, .bool false, .ref s.heap.objs.size, rawInt 0, .none, .none] }) (s.heap.objs.size + 1) s.heap.objs.size 0 .none := by
    have := Heap.get?_push_size (s.heap.push o) (o := { cls := .type "enumerate", data := .fields #[.none, .bool false, .ref s.heap.objs.size, rawInt 0, .none, .none] }) rfl
    rw [hz] at this; exact this
  refine ⟨⟨_, he, rfl⟩, h _ he (Heap.get?_push_of_some _ (Heap.get?_push_size _ B.free)) (by rw [Heap.size_push, hz]) fun b o x => Heap.get?_push_of_some _ (Heap.get?_push_of_some _ x)⟩

/-- a list (true), a tuple (false) -/
def SqX (K : PySem.W.Frag) (H : Hp) (a : Addr) (xs : List V) : Bool → Prop
  | true => SqL K H a xs
  | false => SqT K H a xs
def SeqX (h : Heap) (a : Addr) (its : Array Value) : Bool → Prop
  | true => h.IsList a its
  | false => h.IsTuple a its
def IterX (h : Heap) (it a : Addr) (i : Nat) : Bool → Prop
  | true => h.IsListIter it a i
  | false => h.IsTupleIter it a i
def iterO (a : Addr) : Bool → Obj
  | true => { cls := .type "list_iterator", data := .fields #[.ref a, .int 0 0] }
  | false => { cls := .type "tuple_iterator", data := .fields #[.ref a, .int 0 0] }
section
variable {X : Cx} {pins : List (Addr × Obj)} {σ : L2.St} {H : Hp} {s : Shared} {a it : Addr} {xs ys : List V} {i : Nat} {h h' : Heap} {its : Array Value}
theorem seqX (I : Inv X pins σ H s) : ∀ {l : Bool}, SqX X.K H a xs l → ∃ its, Vals xs its ∧ SeqX s.heap a its.toArray l
  | true, q => let ⟨its, rv, p, _⟩ := I.list q; ⟨its, rv, p.isList⟩
  | false, q => let ⟨its, rv, p, _⟩ := I.tuple q; ⟨its, rv, p⟩
theorem seqX_inj (I : Inv X pins σ H s) : ∀ {l : Bool}, SqX X.K H a ys l → SqX X.K H a xs l → ys = xs
  | true, q, r => I.list_inj q r
  | false, q, r => I.tuple_inj q r
theorem SeqX.lt : ∀ {l : Bool}, SeqX h a its l → a < h.objs.size
  | true, ⟨_, e, _⟩ => Heap.lt_size e
  | false, ⟨_, e, _⟩ => Heap.lt_size e
theorem SeqX.at : ∀ {l : Bool}, SeqX h a its l → (∀ o, h.get? a = some o → h'.get? a = some o) → SeqX h' a its l
  | true, x, e => Heap.IsList.at x e
  | false, x, e => Heap.IsTuple.at x e
theorem IterX.at : ∀ {l : Bool}, IterX h it a i l → (∀ o, h.get? it = some o → h'.get? it = some o) → IterX h' it a i l
  | true, x, e => Heap.IsListIter.at x e
  | false, x, e => Heap.IsTupleIter.at x e
theorem IterX.obj : ∀ {l : Bool}, IterX h it a i l → ∃ o, h.get? it = some o ∧ ∀ v, o.data ≠ .cell v
  | true, ⟨o, e, _, d⟩ => ⟨o, e, fun v q => by rw [d] at q; cases q⟩
  | false, ⟨o, e, _, d⟩ => ⟨o, e, fun v q => by rw [d] at q; cases q⟩
theorem IterX.of_new : ∀ {l : Bool}, h.get? it = some (iterO a l) → IterX h it a 0 l
  | true, e => ⟨_, e, rfl, rfl⟩
  | false, e => ⟨_, e, rfl, rfl⟩
theorem beginsX : ∀ {l : Bool}, Begins (.ref a) (iterO a l) fun h => SeqX h a its l
  | true => begins_list a its
  | false => begins_tuple a its
theorem drawsX {prog : Program} {w : World} {A : Around} (hh : A.handled = none) (hne : a ≠ it) : ∀ {l : Bool}, Draws prog w A it [it, a] its.size (fun i v => its[i]? = some v) (fun i h => IterX h it a i l ∧ SeqX h a its l)
  | true => .list hh it a hne its
  | false => .tuple hh it a hne its
end
def IteX (K : PySem.W.Frag) (l : Bool) (a : Addr) : It :=
  ⟨fun i H => ∃ (xs : List V) (x : V), SqX K H a xs l ∧ xs[i]? = some x, fun i H v H' => ∃ T x, v = .ref T ∧ H T = none ∧ H' = upd H T (.tup [.int (i : Nat), x]) ∧ ∀ xs, SqX K H a xs l → xs[i]? = some x, fun i H => ∃ xs : List V, SqX K H a xs l ∧ xs.length = i⟩
theorem turn_enumX {P : Program} {w : World} {K : PySem.W.Frag} {elts : List Expr} {kk : Nat} {tpos : Pos} {l : Bool} {a e it : Addr} (hne : e ≠ it) (hae : a ≠ e) (hai : a ≠ it) :
    Turn P w K (.Tuple elts kk tpos) (IteX K l a) [e, it] e (fun i h => (∃ old, IsEnum h e it ((i : Nat) : Int) old) ∧ IterX h it a i l) where
  mem := by simp
  obj := fun i h st b hb => by
    obtain ⟨⟨old, he⟩, hi⟩ := st
    have e' : b = e ∨ b = it := by simpa using hb
    rcases e' with z | z
    · rw [z]; exact ⟨_, he, fun v q => nomatch q⟩
    · rw [z]; exact hi.obj
  keep := fun i h h' st k => let ⟨⟨old, he⟩, hi⟩ := st; ⟨⟨old, k e (by simp) _ he⟩, hi.at fun o q => k it (by simp) o q⟩
  item := by
    intro X hP hw hK hc i pins s σ H E I hf st hg
    subst hP hw hK
    obtain ⟨⟨old, he⟩, hit⟩ := st
    obtain ⟨xs, x, hq, hx⟩ := hg
    obtain ⟨its, rv, p⟩ := seqX I hq
    obtain ⟨u, hu, ru⟩ := rv.get hx
    have hu' : its.toArray[i]? = some u := by simpa using hu
    have hel : e < s.heap.objs.size := Heap.lt_size he
    have hil : it < s.heap.objs.size := by obtain ⟨_, q, _⟩ := hit.obj; exact Heap.lt_size q
    refine wpAny_pyNext_enum_itemD (drawsX (A := X.A.in1) (show X.A.in1.handled = none from I.ok.hd hc) hai (its := its.toArray) (l := l)) he ⟨hit, p⟩ (Array.getElem?_eq_some_iff.mp hu').1 hne (by simp only [List.mem_cons, List.not_mem_nil, or_false, not_or]; exact ⟨hne, fun z => hae z.symm⟩) fun v h' tk hv ho hst hT hsz hk => ?_
    rw [hu'] at hv
    cases hv
    refine ⟨_, rfl, wpAny_letOwnedTupleGo_enum (s := { s with heap := h', toks := tk + 1 }) ho fun h'' he' sb => ?_⟩
    have hT2 : h''.get? s.heap.objs.size = some { cls := .type "tuple", data := .seq #[.int i tk, u] } := (sb.2 _ (Nat.ne_of_gt hel)).trans hT
    have new : ObjOk X.prog X.w (upd H s.heap.objs.size (.tup [.int (i : Nat), x])) h'' s.heap.objs.size (.tup [.int (i : Nat), x]) :=
      ⟨by show 2 ≤ sizeLine; decide, [.int i tk, u], .cons ⟨_, rfl⟩ (.cons ru .nil), ⟨_, hT2, rfl, _, rfl⟩⟩
    have I1 : Inv X pins σ (upd H s.heap.objs.size (.tup [.int (i : Nat), x])) { s with heap := h'', toks := tk + 1 } :=
      I.turnedNew (ch := [e, it]) (fun b ob hb q => (sb.2 b (fun z => hb (by simp [z]))).trans (hk b ob (fun z => hb (by simp [z])) (fun z => hb (by simp [z])) q)) hf (Nat.le_refl _) new
    refine ⟨.ref s.heap.objs.size, _, I1, rfl, ⟨_, x, rfl, I.hok.fresh (Nat.le_refl _), rfl, fun ys hy => by rw [seqX_inj I hy hq]; exact hx⟩, ⟨⟨u, ?_⟩, hst.1.at fun o q => (sb.2 it (Ne.symm hne)).trans q⟩, fun b hb => ?_⟩
    · have e1 : ((i + 1 : Nat) : Int) = (i : Int) + 1 := by omega
      rw [e1]; exact he'
    · have hb' : b < s.heap.objs.size := by
        have e' : b = e ∨ b = it := by simpa using hb
        rcases e' with z | z
        · rw [z]; exact hel
        · rw [z]; exact hil
      rw [upd_ne (Nat.ne_of_lt hb')]
      exact (hf b hb).1
  done := by
    intro X hP hw hK hc i pins s σ H E I hf st hg
    subst hP hw hK
    obtain ⟨⟨old, he⟩, hit⟩ := st
    obtain ⟨xs, hq, hx⟩ := hg
    obtain ⟨its, rv, p⟩ := seqX I hq
    obtain ⟨f0, f1, f2, f3, f4, f5⟩ := hf it (by simp)
    have hl := rv.length
    have hi : i = its.toArray.size := by simp; omega
    subst hi
    exact wpAny_pyNext_enum_endD (drawsX (A := X.A.in1) (show X.A.in1.handled = none from I.ok.hd hc) hai (its := its.toArray) (l := l)) he ⟨hit, p⟩ fun h' eb => ⟨rfl, I.turned (t' := s.toks) (fun b o hb q => eb b o hb q) f0 f1 f3 f4 f5⟩
  self := fun A i s Q E st h => let ⟨⟨_, he⟩, _⟩ := st; wpAny_pyIter_enum he h
/-- zip of two, each a list or a tuple; it ends with the shorter -/
def ItzX (K : PySem.W.Frag) (l m : Bool) (a b : Addr) : It :=
  ⟨fun i H => ∃ (xs ys : List V) (x y : V), SqX K H a xs l ∧ SqX K H b ys m ∧ xs[i]? = some x ∧ ys[i]? = some y,
    fun i H v H' => ∃ T x y, v = .ref T ∧ H T = none ∧ H' = upd H T (.tup [x, y]) ∧ (∀ xs, SqX K H a xs l → xs[i]? = some x) ∧ ∀ ys, SqX K H b ys m → ys[i]? = some y,
    fun i H => ∃ xs ys : List V, SqX K H a xs l ∧ SqX K H b ys m ∧ i = min xs.length ys.length⟩
theorem turn_zipX {P : Program} {w : World} {K : PySem.W.Frag} {elts : List Expr} {kk : Nat} {tpos : Pos} {l m : Bool} {a b z TI TO i1 i2 : Addr} (D : ZipSep2 z TI TO i1 i2 [i1, a] [i2, b]) (ha1 : a ≠ i1) (hb2 : b ≠ i2) :
    Turn P w K (.Tuple elts kk tpos) (ItzX K l m a b) [z, TI, TO, i1, i2] z (fun i h => IsZip h z TI TO .none ∧ IsTupOf2 h TI (.ref i1) (.ref i2) ∧ (∃ x y, IsTupOf2 h TO x y) ∧ IterX h i1 a i l ∧ IterX h i2 b i m) where
  mem := by simp
  obj := fun i h st c hc => by
    obtain ⟨hz, hTI, ⟨x, y, hTO⟩, h1, h2⟩ := st
    have e' : c = z ∨ c = TI ∨ c = TO ∨ c = i1 ∨ c = i2 := by simpa using hc
    rcases e' with q | q | q | q | q
    · rw [q]; exact ⟨_, hz, fun v q => nomatch q⟩
    · rw [q]; exact ⟨_, hTI, fun v q => nomatch q⟩
    · rw [q]; exact ⟨_, hTO, fun v q => nomatch q⟩
    · rw [q]; exact h1.obj
    · rw [q]; exact h2.obj
  keep := fun i h h' st k => by
    obtain ⟨hz, hTI, ⟨x, y, hTO⟩, h1, h2⟩ := st
    exact ⟨k z (by simp) _ hz, k TI (by simp) _ hTI, ⟨x, y, k TO (by simp) _ hTO⟩, h1.at fun o q => k i1 (by simp) o q, h2.at fun o q => k i2 (by simp) o q⟩
  item := by
    intro X hP hw hK hc i pins s σ H E I hf st hg
    subst hP hw hK
    obtain ⟨hz, hTI, ⟨x0, y0, hTO⟩, h1, h2⟩ := st
    obtain ⟨xs, ys, x, y, hqx, hqy, hx, hy⟩ := hg
    obtain ⟨its, rv, p⟩ := seqX I hqx
    obtain ⟨its2, rv2, p2⟩ := seqX I hqy
    obtain ⟨u, hu, ru⟩ := rv.get hx
    obtain ⟨u2, hu2, ru2⟩ := rv2.get hy
    have hu' : its.toArray[i]? = some u := by simpa using hu
    have hu2' : its2.toArray[i]? = some u2 := by simpa using hu2
    have hzl : z < s.heap.objs.size := Heap.lt_size hz
    have hh : X.A.in1.handled = none := I.ok.hd hc
    refine wpAny_pyNext_zipD2_item D (drawsX (A := X.A.in1) hh ha1 (its := its.toArray) (l := l)) (drawsX (A := X.A.in1) hh hb2 (its := its2.toArray) (l := m)) hz hTI hTO ⟨h1, p⟩ ⟨h2, p2⟩ (Array.getElem?_eq_some_iff.mp hu').1 (Array.getElem?_eq_some_iff.mp hu2').1 fun v1 v2 h' tk hv1 hv2 z' TO' h1' h2' hT hsz hk => ?_
    rw [hu'] at hv1
    rw [hu2'] at hv2
    cases hv1
    cases hv2
    refine ⟨_, rfl, wpAny_letOwnedTupleGo_zip (s := { s with heap := h', toks := tk }) z' fun h'' z'' sb => ?_⟩
    have hT2 : h''.get? s.heap.objs.size = some { cls := .type "tuple", data := .seq #[u, u2] } := (sb.2 _ (Nat.ne_of_gt hzl)).trans hT
    have new : ObjOk X.prog X.w (upd H s.heap.objs.size (.tup [x, y])) h'' s.heap.objs.size (.tup [x, y]) :=
      ⟨by show 2 ≤ sizeLine; decide, [u, u2], .cons ru (.cons ru2 .nil), ⟨_, hT2, rfl, _, rfl⟩⟩
    have hm : ∀ {c : Addr}, c ∉ [z, TI, TO, i1, i2] → c ≠ z ∧ c ≠ TO ∧ c ≠ i1 ∧ c ≠ i2 := fun {c} hb => by
      simp only [List.mem_cons, List.not_mem_nil, or_false, not_or] at hb
      exact ⟨hb.1, hb.2.2.1, hb.2.2.2.1, hb.2.2.2.2⟩
    have I1 : Inv X pins σ (upd H s.heap.objs.size (.tup [x, y])) { s with heap := h'', toks := tk } :=
      I.turnedNew (t' := tk) (ch := [z, TI, TO, i1, i2]) (fun c o hb q => (sb.2 c (hm hb).1).trans (hk c o (hm hb).1 (hm hb).2.1 (hm hb).2.2.1 (hm hb).2.2.2 q)) hf (Nat.le_refl _) new
    refine ⟨.ref s.heap.objs.size, _, I1, rfl, ⟨_, x, y, rfl, I.hok.fresh (Nat.le_refl _), rfl, fun l hl => by rw [seqX_inj I hl hqx]; exact hx, fun l hl => by rw [seqX_inj I hl hqy]; exact hy⟩, ⟨z'', ?_, ⟨u, u2, ?_⟩, ?_, ?_⟩, fun c hcm => ?_⟩
    · exact (sb.2 _ D.TIz).trans (hk _ _ D.TIz D.TITO D.TIi1 D.TIi2 hTI)
    · exact (sb.2 _ D.TOz).trans TO'
    · exact h1'.1.at fun o q => (sb.2 _ D.zi1.symm).trans q
    · exact h2'.1.at fun o q => (sb.2 _ D.zi2.symm).trans q
    · have hlt : c < s.heap.objs.size := by
        have e' : c = z ∨ c = TI ∨ c = TO ∨ c = i1 ∨ c = i2 := by simpa using hcm
        rcases e' with q | q | q | q | q
        · rw [q]; exact hzl
        · rw [q]; exact Heap.lt_size hTI
        · rw [q]; exact Heap.lt_size hTO
        · rw [q]; obtain ⟨_, e1, _⟩ := h1.obj; exact Heap.lt_size e1
        · rw [q]; obtain ⟨_, e2, _⟩ := h2.obj; exact Heap.lt_size e2
      rw [upd_ne (Nat.ne_of_lt hlt)]
      exact (hf c hcm).1
  done := by
    intro X hP hw hK hc i pins s σ H E I hf st hg
    subst hP hw hK
    obtain ⟨hz, hTI, ⟨x0, y0, hTO⟩, h1, h2⟩ := st
    obtain ⟨xs, ys, hqx, hqy, hend⟩ := hg
    obtain ⟨its, rv, p⟩ := seqX I hqx
    obtain ⟨its2, rv2, p2⟩ := seqX I hqy
    have l1 := rv.length
    have l2 := rv2.length
    have hh : X.A.in1.handled = none := I.ok.hd hc
    have z1 : its.toArray.size = xs.length := by simp [l1]
    have z2 : its2.toArray.size = ys.length := by simp [l2]
    refine wpAny_pyNext_zipD2_end D (drawsX (A := X.A.in1) hh ha1 (its := its.toArray) (l := l)) (drawsX (A := X.A.in1) hh hb2 (its := its2.toArray) (l := m)) hz hTI hTO ⟨h1, p⟩ ⟨h2, p2⟩ (by omega) (by omega) (by omega) fun h' tk hk => ⟨rfl, I.turnedL (t' := tk) (ch := [z, TI, TO, i1, i2]) (fun c o hb q => ?_) hf⟩
    simp only [List.mem_cons, List.not_mem_nil, or_false, not_or] at hb
    exact hk c o hb.1 hb.2.2.1 hb.2.2.2.1 hb.2.2.2.2 q
  self := fun A i s Q E st h => wpAny_pyIter_zip st.1 h

/-! ### the lifted walks -/
/-- a list or a tuple: which -/
def isL : D → Bool
  | .tup _ => false
  | _ => true
section
variable {K : PySem.W.Frag} {G G' : GH} {H H' : Hp}
theorem asX_at {x : D} {v : V} {ds : List D} (r : Rep K H G x v) (g : RG K H G) (h : asS G x = some ds) : ∃ a vs, v = .ref a ∧ SqX K H a vs (isL x) ∧ RepL K H G ds vs := by
  cases x with
  | tup xs =>
    obtain ⟨a, vs, e, k, t⟩ := asT_at r (show asT (.tup xs) = some ds from h)
    exact ⟨a, vs, e, k, t⟩
  | _ =>
    obtain ⟨a, vs, e, k, t⟩ := asL_at r g (show asL G _ = some ds from h)
    exact ⟨a, vs, e, k, t⟩
theorem seq_stays {x : D} {ds : List D} (h : asS G x = some ds) (st : stL x ds G') : asS G' x = some ds := by
  cases x with
  | ref p =>
    have st' : G' p = some (.lst ds) := st
    exact asS_ref st'
  | _ => exact h
theorem sqX_V {a : Addr} {l : Bool} {vs ws : List V} (h : SqX K H a vs l) (k : ∀ ys, SqX K H a ys l → ys = ws) : vs = ws := k _ h
theorem itd_enumX {x : D} {a : Addr} {ds : List D} (r : Rep K H G x (.ref a)) (g : RG K H G) (h : asS G x = some ds) : ItD K (IteX K (isL x) a) (enumD ds) (stL x ds) G H where
  go := fun i G' H' e g' st hi => by
    obtain ⟨p, vs, q, sq, rl⟩ := asX_at (r.ext e) g' (seq_stays h st)
    cases q
    have hi' : i < ds.length := by simpa [enumD] using hi
    exact ⟨vs, _, sq, List.getElem?_eq_getElem (by rw [rl.length]; exact hi')⟩
  stop := fun G' H' e g' st => by
    obtain ⟨p, vs, q, sq, rl⟩ := asX_at (r.ext e) g' (seq_stays h st)
    cases q
    exact ⟨vs, sq, by simp [enumD, rl.length]⟩
  yld := fun i G' H' x' H2 e g' st hi hy => by
    obtain ⟨p, vs, q, sq, rl⟩ := asX_at (r.ext e) g' (seq_stays h st)
    cases q
    obtain ⟨T, y, rfl, hT, rfl, hall⟩ := hy
    have hi' : i < ds.length := by simpa [enumD] using hi
    obtain ⟨d, h1, h2⟩ := rl.getV (hall vs sq)
    obtain ⟨p1, p2, p3⟩ := pair_alloc (x := .int i) (a := .int i) (show Rep K H' G' (.int (i : Nat)) (.int (i : Nat)) from rfl) h2 g' hT
    refine ⟨.tup [.int i, d], ?_, p1, p2, p3⟩
    unfold enumD
    rw [List.getElem?_map, List.getElem?_zipIdx, h1]
    simp
theorem itd_zipX {x y : D} {a b : Addr} {xs ys : List D} (r : Rep K H G x (.ref a)) (s : Rep K H G y (.ref b)) (g : RG K H G) (h : asS G x = some xs) (k : asS G y = some ys) : ItD K (ItzX K (isL x) (isL y) a b) (zipD xs ys) (fun G => stL x xs G ∧ stL y ys G) G H where
  go := fun i G' H' e g' st hi => by
    obtain ⟨p, vs, q, sq, rl⟩ := asX_at (r.ext e) g' (seq_stays h st.1)
    cases q
    obtain ⟨p2, us, q, sq2, rl2⟩ := asX_at (s.ext e) g' (seq_stays k st.2)
    cases q
    have hi' : i < min xs.length ys.length := by simpa [zipD] using hi
    exact ⟨vs, us, _, _, sq, sq2, List.getElem?_eq_getElem (by rw [rl.length]; omega), List.getElem?_eq_getElem (by rw [rl2.length]; omega)⟩
  stop := fun G' H' e g' st => by
    obtain ⟨p, vs, q, sq, rl⟩ := asX_at (r.ext e) g' (seq_stays h st.1)
    cases q
    obtain ⟨p2, us, q, sq2, rl2⟩ := asX_at (s.ext e) g' (seq_stays k st.2)
    cases q
    exact ⟨vs, us, sq, sq2, by simp [zipD, rl.length, rl2.length]⟩
  yld := fun i G' H' x' H2 e g' st hi hy => by
    obtain ⟨p, vs, q, sq, rl⟩ := asX_at (r.ext e) g' (seq_stays h st.1)
    cases q
    obtain ⟨p2, us, q, sq2, rl2⟩ := asX_at (s.ext e) g' (seq_stays k st.2)
    cases q
    obtain ⟨T, x1, y1, rfl, hT, rfl, hx, hy⟩ := hy
    obtain ⟨d, h1, h2⟩ := rl.getV (hx vs sq)
    obtain ⟨f, k1, k2⟩ := rl2.getV (hy us sq2)
    obtain ⟨p1, p2, p3⟩ := pair_alloc h2 k2 g' hT
    exact ⟨.tup [d, f], zip_get h1 k1, p1, p2, p3⟩
end
def iEnumX (K : PySem.W.Frag) (ta : TA) : TI := fun σ H R => ta σ H fun vs H1 => ∃ a xs l, vs = [.ref a] ∧ SqX K H1 a xs l ∧ R (IteX K l a) H1
theorem pi_enumX {X : Cx} {e : Expr} {ta : TA} {p pos tpos : Pos} {elts : List Expr} {kk : Nat} (hg : Gl X "enumerate") (hm : X.mg "enumerate" = none) (ha : PA X [e] ta) (hs : starEach [e] X.env = [(false, eval e X.env)] := by rfl) :
    PI X (.Tuple elts kk tpos) (.Call (.Name "enumerate" p) [e] [] pos) (iEnumX X.K ta) := by
  refine ⟨fun pins s σ H R I h => ?_⟩
  refine Call_ (ld_blt I hg hm boot_enumerate (PyProof.Rows.callWith_type1 (thn (ha.run pos pins s σ H _ I h) fun us s1 ⟨vs, H1, I1, r1, q1⟩ => ?_) hs rfl))
  obtain ⟨a, xs, l, ex, sq, q⟩ := q1
  subst ex
  cases r1 with
  | cons r rr =>
    cases rr
    cases r
    obtain ⟨its, rv, p'⟩ := seqX I1 sq
    have hlt : a < s1.heap.objs.size := p'.lt
    refine enum_begins1 (beginsX (l := l) (its := its.toArray)) p' fun h' he hit hsz hk => wpAny_pyIter_enum he ?_
    have I2 : Inv X pins σ H1 { s1 with heap := h' } := I1.kept (t' := s1.toks) hk
    refine ⟨s1.heap.objs.size + 1, [s1.heap.objs.size + 1, s1.heap.objs.size], _, IteX X.K l a, H1, rfl, I2, turn_enumX (Nat.succ_ne_self _) (Nat.ne_of_lt (Nat.lt_succ_of_lt hlt)) (Nat.ne_of_lt hlt), ⟨⟨.none, he⟩, IterX.of_new hit⟩, fun b hb => ?_, q⟩
    have e' : b = s1.heap.objs.size + 1 ∨ b = s1.heap.objs.size := by simpa using hb
    have hle : s1.heap.objs.size ≤ b := by
      rcases e' with z | z
      · rw [z]; exact Nat.le_add_right _ _
      · rw [z]; exact Nat.le_refl _
    exact I1.fpOk hle (I1.hok.fresh hle)
def iZipX (K : PySem.W.Frag) (ta : TA) : TI := fun σ H R => ta σ H fun vs H1 => ∃ a b xs ys l m, vs = [.ref a, .ref b] ∧ SqX K H1 a xs l ∧ SqX K H1 b ys m ∧ R (ItzX K l m a b) H1
theorem sep_new {n a b : Nat} (ha : a < n) (hb : b < n) : ZipSep2 (n + 4) (n + 2) (n + 3) n (n + 1) [n, a] [n + 1, b] :=
  ⟨show (n + 2 : Nat) ≠ n + 4 by omega, show (n + 3 : Nat) ≠ n + 4 by omega, show (n + 2 : Nat) ≠ n + 3 by omega, show (n + 2 : Nat) ≠ n by omega, List.mem_cons_self, (fun h => by
    have h2 : (n + 4 : Nat) = n ∨ (n + 4 : Nat) = a := by simpa only [List.mem_cons, List.not_mem_nil, or_false] using h
    omega), (fun h => by
    have h2 : (n + 3 : Nat) = n ∨ (n + 3 : Nat) = a := by simpa only [List.mem_cons, List.not_mem_nil, or_false] using h
    omega),
    show (n + 2 : Nat) ≠ n + 1 by omega, List.mem_cons_self, (fun h => by
    have h2 : (n + 4 : Nat) = n + 1 ∨ (n + 4 : Nat) = b := by simpa only [List.mem_cons, List.not_mem_nil, or_false] using h
    omega), (fun h => by
    have h2 : (n + 3 : Nat) = n + 1 ∨ (n + 3 : Nat) = b := by simpa only [List.mem_cons, List.not_mem_nil, or_false] using h
    omega), (fun h => by
    have h2 : (n : Nat) = n + 1 ∨ (n : Nat) = b := by simpa only [List.mem_cons, List.not_mem_nil, or_false] using h
    omega), (fun h => by
    have h2 : (n + 1 : Nat) = n ∨ (n + 1 : Nat) = a := by simpa only [List.mem_cons, List.not_mem_nil, or_false] using h
    omega)⟩
theorem pi_zipX {X : Cx} {e e2 : Expr} {ta : TA} {p pos tpos : Pos} {elts : List Expr} {kk : Nat} (hg : Gl X "zip") (hm : X.mg "zip" = none) (ha : PA X [e, e2] ta)
    (hs : starEach [e, e2] X.env = (false, eval e X.env) :: starEach [e2] X.env := by rfl) (hpl : (backTo pos (starEach [e2] X.env)).any (·.1) = false := by rfl) :
    PI X (.Tuple elts kk tpos) (.Call (.Name "zip" p) [e, e2] [] pos) (iZipX X.K ta) := by
  refine ⟨fun pins s σ H R I h => ?_⟩
  refine Call_ (ld_blt I hg hm PyProof.Rows.boot_zip (PyProof.Rows.callWith_type1 (thn (ha.run pos pins s σ H _ I h) fun us s1 ⟨vs, H1, I1, r1, q1⟩ => ?_) hs hpl))
  obtain ⟨a, b, xs, ys, l, m, ex, sq, sq2, q⟩ := q1
  subst ex
  cases r1 with
  | cons r rr =>
    cases rr with
    | cons r' rr =>
      cases rr
      cases r
      cases r'
      obtain ⟨its, rv, p1⟩ := seqX I1 sq
      obtain ⟨its2, rv2, p2⟩ := seqX I1 sq2
      have l1 : a < s1.heap.objs.size := p1.lt
      have l2 : b < s1.heap.objs.size := p2.lt
      refine zip_begins2 (beginsX (l := l) (its := its.toArray)) (beginsX (l := m) (its := its2.toArray)) p1 p2 fun h' hz hTI hTO h1 h2 hsz hk => wpAny_pyIter_zip hz ?_
      have I2 : Inv X pins σ H1 { s1 with heap := h' } := I1.kept (t' := s1.toks) hk
      refine ⟨s1.heap.objs.size + 4, [s1.heap.objs.size + 4, s1.heap.objs.size + 2, s1.heap.objs.size + 3, s1.heap.objs.size, s1.heap.objs.size + 1], _, ItzX X.K l m a b, H1, rfl, I2, turn_zipX (sep_new l1 l2) (Nat.ne_of_lt l1) (Nat.ne_of_lt (Nat.lt_succ_of_lt l2)), ⟨hz, hTI, ⟨_, _, hTO⟩, IterX.of_new h1, IterX.of_new h2⟩, fun c hcm => ?_, q⟩
      have e' : c = s1.heap.objs.size + 4 ∨ c = s1.heap.objs.size + 2 ∨ c = s1.heap.objs.size + 3 ∨ c = s1.heap.objs.size ∨ c = s1.heap.objs.size + 1 := by simpa using hcm
      have hle : s1.heap.objs.size ≤ c := by
        rcases e' with z | z | z | z | z
        · rw [z]; exact Nat.le_add_right _ _
        · rw [z]; exact Nat.le_add_right _ _
        · rw [z]; exact Nat.le_add_right _ _
        · rw [z]; exact Nat.le_refl _
        · rw [z]; exact Nat.le_add_right _ _
      exact I1.fpOk hle (I1.hok.fresh hle)
/-- enumerate(x), zip(x, y): x, y lists or tuples -/
def iEnX (w : W3) : I3 := fun env G R Ex => w env G (fun x G1 => ∃ ds, asS G1 x = some ds ∧ R (enumD ds) (stL x ds) G1) Ex
def iZpX (w w2 : W3) : I3 := fun env G R Ex => w env G (fun x G1 => w2 env G1 (fun y G2 => ∃ xs ys, asS G2 x = some xs ∧ asS G2 y = some ys ∧ R (zipD xs ys) (fun G => stL x xs G ∧ stL y ys G) G2) Ex) Ex
section
variable {X : Cx} {W : WX} {w w2 : W3} {p pos tpos : Pos} {elts : List Expr} {kk : Nat}
theorem i_enX {e : Expr} (hm : X.mg "enumerate" = none) (ha : PE X e (up X.K W w)) (hg : Gl X "enumerate" := by rfl) (hs : starEach [e] X.env = [(false, eval e X.env)] := by rfl) :
    PI X (.Tuple elts kk tpos) (.Call (.Name "enumerate" p) [e] [] pos) (upI X.K W (iEnX w)) :=
  PI.imp (pi_enumX hg hm (pa_cons ha pa_nil hs) hs) fun σ H R ⟨env, G, R3, Ex, re, rg, h, fx, f⟩ => by
    refine up_go re rg h fx fun x v G1 H1 e1 rx rg1 ⟨ds, h1, h2⟩ => ?_
    obtain ⟨a, vs, rfl, sq, rl⟩ := asX_at rx rg1 h1
    exact ⟨a, vs, isL x, rfl, sq, f _ H1 G1 _ _ e1 rg1 (itd_enumX rx rg1 h1) h2⟩
theorem i_zpX {a b : Expr} (hm : X.mg "zip" = none) (ha : PE X a (up X.K W w)) (hb : PE X b (up X.K W w2)) (hg : Gl X "zip" := by rfl) (hs : starEach [a, b] X.env = (false, eval a X.env) :: starEach [b] X.env := by rfl)
    (hs2 : starEach [b] X.env = (false, eval b X.env) :: starEach [] X.env := by rfl) (hpl : (backTo pos (starEach [b] X.env)).any (·.1) = false := by rfl) : PI X (.Tuple elts kk tpos) (.Call (.Name "zip" p) [a, b] [] pos) (upI X.K W (iZpX w w2)) :=
  PI.imp (pi_zipX hg hm (pa_cons ha (pa_cons hb pa_nil hs2) hs) hs hpl) fun σ H R ⟨env, G, R3, Ex, re, rg, h, fx, f⟩ => by
    refine up_go re rg h fx fun x v G1 H1 e1 rx rg1 h1 => ?_
    refine up_go (re.ext e1) rg1 h1 (fx.ext e1) fun y u G2 H2 e2 ry rg2 ⟨xs, ys, q1, q2, q3⟩ => ?_
    obtain ⟨a, vs, rfl, sq, rl⟩ := asX_at (rx.ext e2) rg2 q1
    obtain ⟨b, us, rfl, sq2, rl2⟩ := asX_at ry rg2 q2
    exact ⟨a, b, vs, us, isL x, isL y, rfl, sq, sq2, f _ H2 G2 _ _ (e1.trans e2) rg2 (itd_zipX (rx.ext e2) ry rg2 q1 q2) q3⟩
end
end L3

set_option Elab.async false
set_option linter.all false
set_option maxRecDepth 100000
namespace L3
open PySem PySem.Spec L2
open PyProof.Rows hiding St

/-! ### t[::-1] -/
section
variable {prog : Program} {w : World} {A : Around} {E : Value → Shared → Prop} {s : Shared}
theorem rev_adjust (n : Nat) : Builtin.Slice.sliceAdjust none none (-1) (n : Int) = ((n : Int) - 1, -1) := by
  unfold Builtin.Slice.sliceAdjust
  simp
theorem rev_places (n : Nat) : Builtin.Slice.slicePlaces ((n : Int) - 1) (-1) (-1) = n := by
  unfold Builtin.Slice.slicePlaces
  by_cases h : n = 0
  · subst h; rfl
  · simp
    omega
theorem fm_congr {α β : Type} {f g : α → Option β} : ∀ {l : List α}, (∀ x ∈ l, f x = g x) → l.filterMap f = l.filterMap g
  | [], _ => rfl
  | a :: l, h => by
    rw [List.filterMap_cons, List.filterMap_cons, h a List.mem_cons_self, fm_congr fun x hx => h x (List.mem_cons_of_mem _ hx)]
theorem rev_pick (xs : Array Value) : ((List.range xs.size).filterMap fun (m : Nat) => xs[(((xs.size : Int) - 1) + (m : Int) * (-1)).toNat]?).toArray = xs.toList.reverse.toArray := by
  have h1 : ((List.range xs.size).filterMap fun (m : Nat) => xs[(((xs.size : Int) - 1) + (m : Int) * (-1)).toNat]?) = ((List.range xs.size).map fun k => xs.size - 1 - k).filterMap (fun j => xs[j]?) := by
    rw [List.filterMap_map]
    refine fm_congr ?_
    intro k hk
    have := List.mem_range.mp hk
    show xs[_]? = xs[xs.size - 1 - k]?
    congr 1
    omega
  rw [h1]
  have := PySem.W.krv_pick xs
  unfold slicePick at this
  rw [PySem.W.krv_bounds] at this
  rw [← this]
  show _ = ((sliceRange ((xs.size : Int) - 1) (-1) (-1)).filterMap (xs[·]?)).toArray
  rw [PySem.W.krv_sliceRange]
theorem sliceApplied_rev {sl : Addr} {vl vu vs : Value} {n : Nat} {Q : Int × Int × Nat → Shared → Prop} (hs : s.heap.IsSliceOf sl vl vu vs) (pl : IsPart vl none) (pu : IsPart vu none) (ps : IsPart vs (some (-1)))
    (h : Q ((n : Int) - 1, -1, n) s) : wpAny (model prog w) A (Builtin.Slice.sliceApplied (.ref sl) (pure (n : Int))) Q E s := by
  obtain ⟨os, hos, hcs, hds⟩ := id hs
  unfold Builtin.Slice.sliceApplied Builtin.Slice.sliceFields
  refine wpAny_bind (wpAny_bind (wpAny_field hos hds (x := vl) rfl (wpAny_bind (wpAny_field hos hds (x := vu) rfl (wpAny_bind (wpAny_field hos hds (x := vs) rfl (wpAny_pure ?_)))))))
  refine wpAny_bind (HT.slicePart_ ps ?_)
  show wpAny _ _ (if ((-1 : Int) == 0) = true then _ else _) _ _ s
  rw [if_neg (by decide)]
  refine wpAny_bind (HT.slicePart_ pl (wpAny_bind (HT.slicePart_ pu (wpAny_bind (wpAny_pure ?_)))))
  show wpAny _ _ (match Builtin.Slice.sliceAdjust none none (-1) (n : Int) with | (lo, hi) => pure (lo, (-1 : Int), Builtin.Slice.slicePlaces lo hi (-1))) _ _ s
  rw [rev_adjust]
  show wpAny _ _ (pure ((n : Int) - 1, (-1 : Int), Builtin.Slice.slicePlaces ((n : Int) - 1) (-1) (-1))) _ _ s
  rw [rev_places]
  exact wpAny_pure h
theorem getItem_tuple_rev {t sl : Addr} {items : Array Value} {vl vu vs : Value} {Q : Value → Shared → Prop} (ht : IsTup s.heap t items) (hs : s.heap.IsSliceOf sl vl vu vs) (pl : IsPart vl none) (pu : IsPart vu none) (ps : IsPart vs (some (-1)))
    (h : Q (.ref s.heap.objs.size) { s with heap := s.heap.push { cls := .type "tuple", data := .seq items.toList.reverse.toArray } })
    (hsz : items.size ≤ sizeLine) : wpAny (model prog w) A (getItem (.ref t) (.ref sl)) Q E s := by
  have htake : sizeOk (.seq items.toList.reverse.toArray) := by
    show items.toList.reverse.toArray.size ≤ sizeLine
    rw [List.size_toArray, List.length_reverse, Array.length_toList]
    exact hsz
  obtain ⟨os, hos, hcs, hds⟩ := id hs
  have hTs : s.TypeIs (.ref sl) "slice" := ⟨os, hos, hcs⟩
  unfold getItem
  try with_reducible refine wpAny_holding ?_
  first | refine wpAny_bind (wpAny_pure ?_) | skip
  refine wpAny_bind (wpAny_sequenceKey ht.typeIs (by decide) ?_)
  refine wpAny_bind (wpAny_callSpecial?_slot (name := Str.ofString "__getitem__") ht.typeIs PyProof.Rows.slot_tuple_getitem
    (wpAny_call_entry PyProof.Rows.slot_tuple_getitem ht.typeIs entry_tuple_getitem ?_ (args_tuple_getitem _ _)))
  show wpAny _ _ (Builtin.Tuple.tupleItemsOf (.ref t) >>= _) _ _ s
  refine wpAny_bind (tupleItemsOf_ ht ?_)
  refine wpAny_bind (wpAny_typeOf hTs ?_)
  rw [if_pos (by decide)]
  refine wpAny_bind (sliceApplied_rev hs pl pu ps ?_)
  have hno : ¬ ((((items.size : Int) - 1) == 0 && (-1 : Int) == 1 && items.size == items.size) = true) := by
    intro q
    rw [Bool.and_eq_true, Bool.and_eq_true] at q
    cases q.1.2
  show wpAny _ _ (if (((items.size : Int) - 1) == 0 && (-1 : Int) == 1 && items.size == items.size) = true then _ else _) _ _ s
  rw [if_neg hno, rev_pick]
  first
    | exact wpAny_bind (m := Builtin.Tuple.tupleExact _) (wpAny_newObj_type (wpAny_pure ⟨_, rfl, wpAny_pure h⟩) htake)
    | exact wpAny_bind (m := Builtin.Tuple.tupleExact _) (wpAny_newObj_type (wpAny_bind (wpAny_pure (wpAny_pure ⟨_, rfl, wpAny_pure h⟩))) htake)
    | exact wpAny_bind (wpAny_bind (m := Builtin.Tuple.tupleExact _) (wpAny_newObj_type (wpAny_pure (wpAny_pure ⟨_, rfl, wpAny_pure h⟩)) htake))
    | exact wpAny_bind (wpAny_bind (m := Builtin.Tuple.tupleExact _) (wpAny_newObj_type (wpAny_pure ⟨_, rfl, wpAny_pure h⟩) htake))
end
def tRevT (K : PySem.W.Frag) (te : TE) : TE := fun σ H Q => te σ H fun x H1 => ∃ a xs, x = .ref a ∧ SqT K H1 a xs ∧ ∀ p, H1 p = none → Q (.ref p) (upd H1 p (.tup xs.reverse))
theorem pe_revT {X : Cx} {e : Expr} {te : TE} {k : Nat} {p1 p2 p3 pos : Pos} (he : PE X e te) : PE X (.Subscript e (.Slice none none (some (.UnaryOp .USub (.Constant (.int 1) k p1) p2)) p3) pos) (tRevT X.K te) := by
  refine ⟨fun pins s σ H Q I h => ?_⟩
  refine Subscript_ (thn (he.run pins s σ H _ I h) fun v s1 ⟨x, H1, I1, r1, q1⟩ => ?_)
  obtain ⟨a, xs, ex, hx, q⟩ := q1
  subst ex
  cases r1
  have hst : PO X (some (.UnaryOp .USub (.Constant (.int 1) k p1) p2)) (tPart (tUn (rU fun i => .int (-i)) (tC (.int 1)))) := po_some (pe_un un_neg pe_int)
  refine wpAny_Slice (thn (po_none.run pins s1 σ H1 (fun o H2 => o = none ∧ H2 = H1) I1 ⟨rfl, rfl⟩) fun vl s2 ⟨l, H2, I2, pl, el, e2⟩ => ?_)
  subst el e2
  refine thn (po_none.run pins s2 σ H2 (fun o H3 => o = none ∧ H3 = H2) I2 ⟨rfl, rfl⟩) fun vu s3 ⟨u, H3, I3, pu, eu, e3⟩ => ?_
  subst eu e3
  refine thn (hst.run pins s3 σ H3 (fun o H4 => o = some (-1) ∧ H4 = H3) I3 ⟨1, rfl, -1, rfl, rfl, rfl⟩) fun vs s4 ⟨o, H4, I4, ps, eo, e4⟩ => ?_
  subst eo e4
  have I5 : Inv X pins σ H4 { s4 with heap := s4.heap.push { cls := .type "slice", data := .fields #[vl, vu, vs] } } := I4.kept (t' := s4.toks) fun b ob q => Heap.get?_push_of_some _ q
  obtain ⟨its, r, ht, hz⟩ := I5.tuple hx
  have hlen := r.length
  show wpAny (model X.prog X.w) X.A (subscriptTail e (.Slice none none (some (.UnaryOp .USub (.Constant (.int 1) k p1) p2)) p3) (.ref a) (.ref s4.heap.objs.size)) (EP X pins σ Q) X.xe { s4 with heap := s4.heap.push { cls := .type "slice", data := .fields #[vl, vu, vs] } }
  refine tail_any (ops := [.ref a, .ref s4.heap.objs.size]) ht.typeIs PyProof.Rows.slot_tuple_getitem.lookup ?_ (by with_unfolding_all rfl)
  refine getItem_tuple_rev ht (Heap.IsSliceOf.new _ vl vu vs) pl pu ps ?_ (by rw [List.size_toArray]; omega)
  refine ⟨.ref _, _, I5.laid (t' := s4.toks) (o := .tup xs.reverse) (fun b ob q => Heap.get?_push_of_some _ q) (Nat.le_refl _) ?_, rfl, q _ (I5.hok.fresh (Nat.le_refl _))⟩
  exact ⟨by rw [List.length_reverse]; exact hz, _, r.reverse, ⟨_, Heap.get?_push_size _ rfl, rfl, _, rfl⟩⟩
def wRevT (w : W3) : W3 := fun env G R Ex => w env G (fun x G1 => ∃ ds, asT x = some ds ∧ R (.tup ds.reverse) G1) Ex
theorem c_revT {X : Cx} {W : WX} {e : Expr} {w : W3} {k : Nat} {p1 p2 p3 pos : Pos} (he : PE X e (up X.K W w)) : PE X (.Subscript e (.Slice none none (some (.UnaryOp .USub (.Constant (.int 1) k p1) p2)) p3) pos) (up X.K W (wRevT w)) :=
  PE.imp (pe_revT he) fun σ H Q ⟨env, G, R, Ex, re, rg, h, fe, fx⟩ => by
    refine up_go re rg h fx fun x v G1 H1 e1 rx rg1 ⟨ds, h1, h2⟩ => ?_
    obtain ⟨a, vs, rfl, sq, rl⟩ := asT_at rx h1
    exact ⟨a, vs, rfl, sq, fin_tup rl.reverse rg1 (fe.ext e1) h2⟩
/-! ### repr(x), x any plain thing -/
def fReprA : FA := fun xs G R => ∃ d, xs = [d] ∧ ReprOk d ∧ R (.str (toPr d).shown) G
def rReprA (K : PySem.W.Frag) : List V → Hp → VK → Prop := fun vs H Q => ∃ (G : GH) (d : D) (v : V), vs = [v] ∧ Rep K H G d v ∧ ReprOk d ∧ Q (.str (toPr d).shown) H
theorem call_reprA {X : Cx} (sy : sysB X.K = true) (hg : X.A.guards = some []) (hu : X.A.units + 190 < cLine) : CallR X (.builtin "repr") (rReprA X.K) := by
  rintro pins s σ H xs us Q I r ⟨G, d, v, rfl, rp, ok, q⟩
  cases r with
  | cons r1 r2 =>
    cases r2
    rename_i u
    obtain ⟨as, rd, ns⟩ := Rep.reads I sy d rp r1 ok.rd
    have obj : ∀ a, u = .ref a → wpAny (model X.prog X.w) X.A (call (.builtin "repr") [u]) (EP X pins σ Q) X.xe s := fun a e => by
      subst e
      refine repr_of_reads' rd ok.sh (fun _ => ns) hg (by have := ok.dp; omega) (fun _ _ e => e) (fun h' u tk k => ?_) ok.sz
      exact ⟨.str _, H, I.kept k, ⟨u, rfl⟩, q⟩
    cases d with
    | non =>
      obtain rfl : v = .non := rp
      cases r1
      exact PySem.P.repr_of_none ⟨.str _, H, I.tok _, ⟨_, rfl⟩, q⟩
    | bl b =>
      obtain rfl : v = .bl b := rp
      cases r1
      exact PySem.P.repr_of_bool ⟨.str _, H, I.tok _, ⟨_, rfl⟩, q⟩
    | int i =>
      obtain rfl : v = .int i := rp
      obtain ⟨t, rfl⟩ := r1
      have hs : decide (i.natAbs.log2 < 1920) = true := ok.sh
      exact PySem.P.repr_of_int (of_decide_eq_true hs) ⟨.str _, H, I.tok _, ⟨_, rfl⟩, q⟩
    | str x =>
      obtain rfl : v = .str x := rp
      obtain ⟨t, rfl⟩ := r1
      exact PySem.P.repr_of_str ⟨.str _, H, I.tok _, ⟨_, rfl⟩, q⟩ ok.sz
    | tup xs => obtain ⟨a, vs, rfl, _⟩ := rp; cases r1; exact obj a rfl
    | lst xs => obtain ⟨a, vs, rfl, _⟩ := rp; cases r1; exact obj a rfl
    | lsx xs => obtain ⟨a, vs, rfl, _⟩ := rp; cases r1; exact obj a rfl
    | dct ks xs => obtain ⟨a, vs, rfl, _⟩ := rp; cases r1; exact obj a rfl
    | ty _ => exact absurd ok.rd (by intro z; cases z)
    | ins _ _ _ => exact absurd ok.rd (by intro z; cases z)
    | ref _ => exact absurd ok.rd (by intro z; cases z)
    | tpf _ => exact absurd ok.rd (by intro z; cases z)
    | exc _ _ _ _ => exact absurd ok.rd (by intro z; cases z)
theorem lift_reprA {K : PySem.W.Frag} : LiftC K (rReprA K) fReprA := by
  rintro xs vs H G R Q r g ⟨d, rfl, ok, h⟩ fe
  obtain ⟨v, rfl, a⟩ := r.one_inv
  exact ⟨G, d, v, rfl, a, ok, fe (.str _) _ G H .refl rfl g h⟩

/-! ### str(i), str(x) -/
def fStrA : FA := fun xs G R => match xs with
  | [.int i] => i.natAbs.log2 < 1920 ∧ R (.str (toString i)) G
  | [.str x] => R (.str x) G
  | _ => False
def rStrA : List V → Hp → VK → Prop := fun xs H Q => (∃ i, xs = [.int i] ∧ i.natAbs.log2 < 1920 ∧ Q (.str (toString i)) H) ∨ ∃ a, xs = [.str a] ∧ Q (.str a) H
theorem call_strA {X : Cx} : CallR X (.type "str") rStrA := CallR.or call_str_int SkE.call_str_str
theorem lift_strA {K : PySem.W.Frag} : LiftC K rStrA fStrA := by
  intro xs vs H G R Q r g h fe
  unfold fStrA at h
  split at h
  · obtain ⟨v, rfl, a⟩ := r.one_inv
    exact .inl ⟨_, by rw [show v = _ from a], h.1, fe (.str _) _ G H .refl rfl g h.2⟩
  · obtain ⟨v, rfl, a⟩ := r.one_inv
    exact .inr ⟨_, by rw [show v = _ from a], fe (.str _) _ G H .refl rfl g h⟩
  · exact h.elim

/-! ### is, is not of truths -/
def fIsB : F2 := fun x y G R => ∃ a b, x = .bl a ∧ y = .bl b ∧ R (.bl (a == b)) G
def fNotB : F2 := fun x y G R => ∃ a b, x = .bl a ∧ y = .bl b ∧ R (.bl (!(a == b))) G
theorem lift_isB {K : PySem.W.Frag} : Lift2 K rIsB fIsB := by
  rintro x y a b H G R Q rx ry rg ⟨c, d, rfl, rfl, h⟩ fe
  refine ⟨c, d, rx, ry, ?_⟩
  have e : decide (c = d) = (c == d) := by cases c <;> cases d <;> rfl
  rw [e]
  exact fe (.bl _) _ G H .refl rfl rg h
theorem lift_notB {K : PySem.W.Frag} : Lift2 K rNotB fNotB := by
  rintro x y a b H G R Q rx ry rg ⟨c, d, rfl, rfl, h⟩ fe
  refine ⟨c, d, rx, ry, ?_⟩
  have e : decide (c = d) = (c == d) := by cases c <;> cases d <;> rfl
  rw [e]
  exact fe (.bl _) _ G H .refl rfl rg h
theorem eqB {a b : Bool} {G : GH} {R : K3} : fEq (.bl a) (.bl b) G R = R (.bl (a == b)) G := by
  apply propext
  have e : eq3 (.bl a) (.bl b) = (a == b) := by cases a <;> cases b <;> rfl
  exact ⟨fun h => e ▸ h.2.2, fun h => ⟨rfl, rfl, e.symm ▸ h⟩⟩
theorem neB {a b : Bool} {G : GH} {R : K3} : fNe (.bl a) (.bl b) G R = R (.bl (!(a == b))) G := by
  apply propext
  have e : eq3 (.bl a) (.bl b) = (a == b) := by cases a <;> cases b <;> rfl
  exact ⟨fun h => e ▸ h.2.2, fun h => ⟨rfl, rfl, e.symm ▸ h⟩⟩

/-! ### a, b, c = x, y, z; t * k -/
def wPar3 (i j k : Nat) (ar : A3) : S3 := fun E env G => ar env G (fun ds G1 => match ds with
  | [x, y, z] => E.nx (((env.set i (some x)).set j (some y)).set k (some z)) G1
  | _ => False) E.ex
theorem s_par3 {X : Cx} {W : WX} (i j l : Nat) {x y z : Str} {a b c : Expr} {ar : A3} {px py pz pt pos : Pos} {kt k2 pt2} (hc : X.calm = true) (hN : X.N.Nodup) (hi : X.N[i]? = some x) (hj : X.N[j]? = some y) (hl : X.N[l]? = some z) (hij : i ≠ j) (hil : i ≠ l) (hjl : j ≠ l)
    (hx : X.env.scope.names.lookup x = some .local) (hy : X.env.scope.names.lookup y = some .local) (hz : X.env.scope.names.lookup z = some .local) (ha : PA X [a, b, c] (upA X.K W ar))
    (hw : swappedStores [.Tuple [.Name x px, .Name y py, .Name z pz] kt pt] (.Tuple [a, b, c] k2 pt2) X.env = pure (some [x, y, z]))
    (hs : swapsWithSole [.Tuple [.Name x px, .Name y py, .Name z pz] kt pt] (.Tuple [a, b, c] k2 pt2) pos.line X.env = pure false := by rfl) :
    PS X (.Assign [.Tuple [.Name x px, .Name y py, .Name z pz] kt pt] (.Tuple [a, b, c] k2 pt2) pos) (upS X.K W (wPar3 i j l ar)) := PS.imp (ps_par3 hc hN hi hj hl hij hil hjl hx hy hz ha hw hs) fun D σ H ⟨env, G, E, re, rg, h, f⟩ =>
  upA_go re rg h f.ex fun ds vs G1 H1 e1 rd rg1 h1 => by
    rcases ds with _ | ⟨x, _ | ⟨y, _ | ⟨z, _ | ⟨u, us⟩⟩⟩⟩
    · exact h1.elim
    · exact h1.elim
    · exact h1.elim
    · obtain ⟨v, r1, q1, a1, v2, r2, q2, a2, v3, r3, q3, a3, q4⟩ := rd
      have q4 : r3 = [] := q4
      subst q4 q3 q2 q1
      exact ⟨v, v2, v3, rfl, f.nx _ _ G1 H1 e1 ((((re.ext e1).set a1 i).set a2 j).set a3 l) rg1 h1⟩
    · exact h1.elim
def fRepT : F2 := fun x y G R => ∃ xs k, x = .tup xs ∧ y = .int k ∧ xs ≠ [] ∧ 2 ≤ k ∧ k ≤ 1000 ∧ xs.length ≤ 1000 ∧ R (.tup (List.replicate k.toNat xs).flatten) G
theorem lift_repT {K : PySem.W.Frag} : Lift2 K (rRepT K) fRepT := by
  rintro x y a b H G R Q rx ry rg ⟨xs, k, rfl, rfl, h1, h2, h3, h4, h5⟩ fe
  obtain ⟨p, vs, rfl, sq, rl⟩ := asT_at rx (show asT (.tup xs) = some xs from rfl)
  have hn : vs ≠ [] := fun e => h1 (List.length_eq_zero_iff.mp (by rw [← rl.length, e]; rfl))
  exact ⟨p, k, vs, rfl, ry, sq, hn, h2, h3, by rw [rl.length]; exact h4, fin_tup (rl.reps _) rg fe h5⟩
end L3

set_option Elab.async false
set_option linter.all false
set_option maxRecDepth 100000
namespace L3
open PySem PySem.Spec L2
open PyProof.Rows hiding St

/-! ### loops by place -/
theorem lp_ix {st : GH → Prop} {g : G3} {b : S3} {E : E3} (ds : List D) (I : Nat → Env3 → GH → Prop) (hst : ∀ i env G, I i env G → st G)
    (step : ∀ i d, ds[i]? = some d → ∀ env G N, I i env G → (∀ env' G', I (i + 1) env' G' → N env' G') → g d env G fun env1 G1 => b { E with nx := N, ct := N, bk := E.nx } env1 G1)
    (fin : ∀ env G, I ds.length env G → E.nx env G) : ∀ env G, I 0 env G → lp st g b E ds env G := by
  have main : ∀ (r : List D) (k : Nat), (∀ i d, r[i]? = some d → ds[k + i]? = some d) → k + r.length = ds.length → ∀ env G, I k env G → lp st g b E r env G := by
    intro r
    induction r with
    | nil =>
      intro k hk hl env G h
      rw [List.length_nil, Nat.add_zero] at hl
      subst hl
      exact ⟨hst _ _ _ h, fin env G h⟩
    | cons d r ih =>
      intro k hk hl env G h
      refine ⟨hst _ _ _ h, step k d (by simpa using hk 0 d rfl) env G _ h fun env' G' h' => ih (k + 1) (fun i e he => ?_) (by rw [List.length_cons] at hl; omega) env' G' h'⟩
      have := hk (i + 1) e (by simpa using he)
      rw [show k + 1 + i = k + (i + 1) by omega]
      exact this
  intro env G h
  exact main ds 0 (fun i d h => by rw [Nat.zero_add]; exact h) (by omega) env G h
/-- the same where the item is known to be in the list -/
theorem lp_in {st : GH → Prop} {g : G3} {b : S3} {E : E3} (I : Env3 → GH → Prop) (hst : ∀ env G, I env G → st G) (ds : List D)
    (step : ∀ d ∈ ds, ∀ env G N, I env G → (∀ env' G', I env' G' → N env' G') → g d env G fun env1 G1 => b { E with nx := N, ct := N, bk := E.nx } env1 G1) (fin : ∀ env G, I env G → E.nx env G) :
    ∀ env G, I env G → lp st g b E ds env G :=
  lp_ix ds (fun _ => I) (fun _ => hst) (fun i d h env G N hI hN => step d (List.mem_of_getElem? h) env G N hI hN) fin
theorem enum_get {xs : List D} {i : Nat} {d : D} (h : (enumD xs)[i]? = some d) : ∃ x, xs[i]? = some x ∧ d = .tup [.int (i : Nat), x] := by
  unfold enumD at h
  rw [List.getElem?_map, List.getElem?_zipIdx] at h
  cases e : xs[i]? with
  | none => rw [e] at h; cases h
  | some x =>
    rw [e] at h
    cases h
    exact ⟨x, rfl, by simp⟩
theorem enum_len {xs : List D} : (enumD xs).length = xs.length := by simp [enumD]
theorem zip_get' {xs ys : List D} {i : Nat} {d : D} (h : (zipD xs ys)[i]? = some d) : ∃ x y, xs[i]? = some x ∧ ys[i]? = some y ∧ d = .tup [x, y] := by
  unfold zipD at h
  rw [List.getElem?_zipWith] at h
  cases e : xs[i]? with
  | none => rw [e] at h; cases h
  | some x =>
    cases e2 : ys[i]? with
    | none => rw [e, e2] at h; cases h
    | some y =>
      rw [e, e2] at h
      cases h
      exact ⟨x, y, rfl, rfl, rfl⟩
theorem zip_len {xs ys : List D} : (zipD xs ys).length = min xs.length ys.length := by simp [zipD]
/-! ### slices by a place -/
theorem cut_upto {xs : List D} {j : Nat} : cutD xs none (some (j : Int)) = xs.take j := by
  unfold cutD
  show (xs.drop 0).take ((if (j : Int) < 0 then ((j : Int) + (xs.length : Int)).toNat else min (j : Int).toNat xs.length) - 0) = _
  rw [if_neg (by omega), List.drop_zero, Nat.sub_zero, Int.toNat_natCast]
  by_cases q : j ≤ xs.length
  · rw [Nat.min_eq_left q]
  · rw [Nat.min_eq_right (by omega), List.take_of_length_le (Nat.le_refl _), List.take_of_length_le (by omega)]
theorem cut_from {xs : List D} {j : Nat} : cutD xs (some (j : Int)) none = xs.drop j := by
  have e : HT.sIx xs.length 0 (some (j : Int)) = min j xs.length := HT.sIx_nat _ _ _
  unfold cutD
  rw [e, HT.sIx_none]
  by_cases q : j ≤ xs.length
  · rw [Nat.min_eq_left q, List.take_of_length_le]
    rw [List.length_drop]
    exact Nat.le_refl _
  · rw [Nat.min_eq_right (by omega), List.drop_of_length_le (Nat.le_refl _), List.drop_of_length_le (by omega), List.take_nil]
theorem sl_t {xs : List D} {lo hi : Option Int} {G : GH} {R : K3} : fSl (.tup xs) lo hi G R = R (.tup (cutD xs lo hi)) G := rfl
theorem add_t {xs ys : List D} {G : GH} {R : K3} : fAdd (.tup xs) (.tup ys) G R = (xs.length + ys.length ≤ sizeLine ∧ R (.tup (xs ++ ys)) G) := rfl
theorem ix_t {xs : List D} {i : Nat} {d : D} {G : GH} {R : K3} (h : xs[i]? = some d) : fIx (.tup xs) (.int (i : Nat)) G R = R d G := ix_tup (atD_nat h)
theorem ix_l {xs : List D} {i : Nat} {d : D} {G : GH} {R : K3} (h : xs[i]? = some d) : fIx (.lst xs) (.int (i : Nat)) G R = R d G := ix_lst (atD_nat h)
theorem size_small {n : Nat} (h : n ≤ 1000000) : n ≤ sizeLine := by rw [sizeLine_eq]; omega

/-! ### == of plain data, at any depth -/
mutual
def eqOk : D → Bool
  | .non => true
  | .bl _ => true
  | .int _ => true
  | .str x => PyData.canLay0 (.str x)
  | .tup xs => eqOkL xs
  | .lst xs => eqOkL xs
  | .lsx xs => eqOkL xs
  | _ => false
def eqOkL : List D → Bool
  | [] => true
  | x :: xs => eqOk x && eqOkL xs
end
mutual
def dpt : D → Nat
  | .tup xs => dptL xs + 1
  | .lst xs => dptL xs + 1
  | .lsx xs => dptL xs + 1
  | _ => 0
def dptL : List D → Nat
  | [] => 0
  | x :: xs => max (dpt x) (dptL xs)
end
mutual
theorem eqOk_lay : ∀ d : D, eqOk d = true → PyData.canLay0 (toPy d) = true ∧ flat3 d = true ∧ (toPy d).depth = dpt d
  | .non, _ => ⟨rfl, rfl, rfl⟩
  | .bl _, _ => ⟨rfl, rfl, rfl⟩
  | .int _, _ => ⟨rfl, rfl, rfl⟩
  | .str x, h => ⟨h, rfl, rfl⟩
  | .tup xs, h => by
    obtain ⟨a, b, c⟩ := eqOk_layL xs h
    exact ⟨a, b, by show PyData.depthAll (toPyL xs) + 1 = dptL xs + 1; rw [c]⟩
  | .lst xs, h => by
    obtain ⟨a, b, c⟩ := eqOk_layL xs h
    exact ⟨a, b, by show PyData.depthAll (toPyL xs) + 1 = dptL xs + 1; rw [c]⟩
  | .lsx xs, h => by
    obtain ⟨a, b, c⟩ := eqOk_layL xs h
    exact ⟨a, b, by show PyData.depthAll (toPyL xs) + 1 = dptL xs + 1; rw [c]⟩
  | .dct _ _, h => by cases h
  | .ty _, h => by cases h
  | .ins _ _ _, h => by cases h
  | .ref _, h => by cases h
  | .tpf _, h => by cases h
  | .exc _ _ _ _, h => by cases h
theorem eqOk_layL : ∀ ds : List D, eqOkL ds = true → PyData.canLayAll0 (toPyL ds) = true ∧ flat3L ds = true ∧ PyData.depthAll (toPyL ds) = dptL ds
  | [], _ => ⟨rfl, rfl, rfl⟩
  | d :: ds, h => by
    simp only [eqOkL, Bool.and_eq_true] at h
    obtain ⟨a, b, c⟩ := eqOk_lay d h.1
    obtain ⟨a', b', c'⟩ := eqOk_layL ds h.2
    refine ⟨?_, ?_, ?_⟩
    · show (PyData.canLay0 (toPy d) && PyData.canLayAll0 (toPyL ds)) = true
      rw [a, a']; rfl
    · show (flat3 d && flat3L ds) = true
      rw [b, b']; rfl
    · show max (toPy d).depth (PyData.depthAll (toPyL ds)) = max (dpt d) (dptL ds)
      rw [c, c']
end
theorem okEq_of {d : D} (h : eqOk d = true) (hd : dpt d ≤ 64) : okEq d = true := by
  obtain ⟨a, b, c⟩ := eqOk_lay d h
  unfold okEq SeqAt.shaped
  rw [b, a, c]
  simp only [Bool.true_and, decide_eq_true_eq]
  exact hd
theorem eq3_refl {d : D} (h : eqOk d = true) : eq3 d d = true := PySem.SeqAt.eqv_refl _ (eqOk_lay d h).1
theorem eqOk_ints {l : List Int} : eqOkL (l.map D.int) = true ∧ dptL (l.map D.int) = 0 := by
  induction l with
  | nil => exact ⟨rfl, rfl⟩
  | cons a l ih =>
    simp only [List.map_cons, eqOkL, dptL, eqOk, dpt, ih.1, ih.2, Bool.and_self, Nat.max_self, and_self]
theorem eq_same {d : D} {G : GH} {R : K3} (hs : ∀ x, d ≠ .str x) (h : eqOk d = true) (hd : dpt d ≤ 64) (q : R (.bl true) G) : fEq d d G R := by
  have r : okEq d = true ∧ okEq d = true ∧ R (.bl (eq3 d d)) G := ⟨okEq_of h hd, okEq_of h hd, by rw [eq3_refl h]; exact q⟩
  cases d with
  | str x => exact absurd rfl (hs x)
  | _ => exact r
theorem ne_same {d : D} {G : GH} {R : K3} (hs : ∀ x, d ≠ .str x) (h : eqOk d = true) (hd : dpt d ≤ 64) (q : R (.bl false) G) : fNe d d G R := by
  have r : okEq d = true ∧ okEq d = true ∧ R (.bl (!eq3 d d)) G := ⟨okEq_of h hd, okEq_of h hd, by rw [eq3_refl h]; exact q⟩
  cases d with
  | str x => exact absurd rfl (hs x)
  | _ => exact r
end L3

set_option Elab.async false
set_option linter.all false
set_option maxRecDepth 100000
namespace L3
open PySem PySem.Spec L2
open PyProof.Rows hiding St

/-! ### a list or a tuple walked, whichever it is -/
def iSeqR (K : PySem.W.Frag) (tl : TE) : TI := fun σ H R => tl σ H fun x H1 => ∃ a, x = .ref a ∧ (((∃ xs, SqL K H1 a xs) ∧ R (Itl K a) H1) ∨ ((∃ xs, SqT K H1 a xs) ∧ R (Itt K a) H1))
theorem pi_seqR {X : Cx} {tg l : Expr} {tl : TE} (hl : PE X l tl) : PI X tg l (iSeqR X.K tl) := by
  refine ⟨fun pins s σ H R I h => ?_⟩
  refine thn (hl.run pins s σ H _ I h) fun v s1 ⟨x, H1, I1, r1, q1⟩ => ?_
  obtain ⟨a, e, q1⟩ := q1
  subst e
  cases r1
  rcases q1 with ⟨⟨xs, hq⟩, q⟩ | ⟨⟨xs, hq⟩, q⟩
  · obtain ⟨its, rv, p, hz⟩ := I1.list hq
    refine wpAny_pyIter_list p.isList ?_
    refine ⟨s1.heap.objs.size, [s1.heap.objs.size], _, _, H1, rfl, I1.kept (t' := s1.toks) fun b o e => Heap.get?_push_of_some _ e, turn_list a _, ⟨_, Heap.get?_push_size _ rfl, rfl, rfl⟩, fun b hb => ?_, q⟩
    have e : b = s1.heap.objs.size := by simpa using hb
    subst e
    exact I1.fpOk (Nat.le_refl _) (I1.hok.fresh (Nat.le_refl _))
  · obtain ⟨its, rv, p, hz⟩ := I1.tuple hq
    refine wpAny_pyIter_tuple (show s1.heap.IsTuple a its.toArray from p) ?_
    refine ⟨s1.heap.objs.size, [s1.heap.objs.size], _, _, H1, rfl, I1.kept (t' := s1.toks) fun b o e => Heap.get?_push_of_some _ e, turn_tuple a _, ⟨_, Heap.get?_push_size _ rfl, rfl, rfl⟩, fun b hb => ?_, q⟩
    have e : b = s1.heap.objs.size := by simpa using hb
    subst e
    exact I1.fpOk (Nat.le_refl _) (I1.hok.fresh (Nat.le_refl _))
def iSq (w : W3) : I3 := fun env G R Ex => w env G (fun x G1 => ∃ ds, asS G1 x = some ds ∧ R ds (stL x ds) G1) Ex
theorem i_seq {X : Cx} {W : WX} {tg l : Expr} {w : W3} (hl : PE X l (up X.K W w)) : PI X tg l (upI X.K W (iSq w)) := PI.imp (pi_seqR hl) fun σ H R ⟨env, G, R3, Ex, re, rg, h, fx, f⟩ => by
  refine up_go re rg h fx fun x v G1 H1 e1 rx rg1 ⟨ds, h1, h2⟩ => ?_
  cases x with
  | tup xs =>
    obtain ⟨a, vs, rfl, k, rl⟩ := rx
    have e : xs = ds := Option.some.inj h1
    subst e
    exact ⟨a, rfl, .inr ⟨⟨vs, k.sq⟩, f _ H1 G1 xs _ e1 rg1 (itd_tup k rl) h2⟩⟩
  | _ =>
    obtain ⟨a, vs, rfl, sq, rl⟩ := asL_at rx rg1 (show asL G1 _ = some ds from h1)
    exact ⟨a, rfl, .inl ⟨⟨vs, sq⟩, f _ H1 G1 ds _ e1 rg1 (itd_list rx rg1 h1) h2⟩⟩
end L3

set_option Elab.async false
set_option linter.all false
set_option maxRecDepth 100000
set_option maxHeartbeats 0
namespace K01
open PySem PySem.Spec L2 L3
open PyProof.Rows hiding St
def topS (i : Nat) : Stmt := PySem.Challenge.pw_seenbins_k01_whole_recipes_judged.main.body.getD i (.Pass ⟨0, 0, 0, 0⟩)
abbrev s_is_int : Stmt := topS 12
theorem sc_is_int : FnScope ["thing"] ["thing"] (defScope s_is_int) := ⟨rfl, rfl, rfl, by decide +kernel, rfl, by decide +kernel, by decide +kernel⟩
abbrev s_is_within : Stmt := topS 13
theorem sc_is_within : FnScope ["thing", "least", "greatest"] ["thing", "least", "greatest"] (defScope s_is_within) := ⟨rfl, rfl, rfl, by decide +kernel, rfl, by decide +kernel, by decide +kernel⟩
abbrev s_divisor : Stmt := topS 14
theorem sc_divisor : FnScope ["one", "other"] ["one", "other"] (defScope s_divisor) := ⟨rfl, rfl, rfl, by decide +kernel, rfl, by decide +kernel, by decide +kernel⟩
abbrev s_fraction : Stmt := topS 16
theorem sc_fraction : FnScope ["n", "d", "common"] ["n", "d"] (defScope s_fraction) := ⟨rfl, rfl, rfl, by decide +kernel, rfl, by decide +kernel, by decide +kernel⟩
abbrev s_is_fraction : Stmt := topS 17
theorem sc_is_fraction : FnScope ["thing"] ["thing"] (defScope s_is_fraction) := ⟨rfl, rfl, rfl, by decide +kernel, rfl, by decide +kernel, by decide +kernel⟩
abbrev s_add : Stmt := topS 20
theorem sc_add : FnScope ["one", "other"] ["one", "other"] (defScope s_add) := ⟨rfl, rfl, rfl, by decide +kernel, rfl, by decide +kernel, by decide +kernel⟩
abbrev s_is_less : Stmt := topS 24
theorem sc_is_less : FnScope ["one", "other"] ["one", "other"] (defScope s_is_less) := ⟨rfl, rfl, rfl, by decide +kernel, rfl, by decide +kernel, by decide +kernel⟩
abbrev s_total : Stmt := topS 27
theorem sc_total : FnScope ["parts", "found", "part"] ["parts"] (defScope s_total) := ⟨rfl, rfl, rfl, by decide +kernel, rfl, by decide +kernel, by decide +kernel⟩
abbrev s_is_share : Stmt := topS 38
theorem sc_is_share : FnScope ["thing"] ["thing"] (defScope s_is_share) := ⟨rfl, rfl, rfl, by decide +kernel, rfl, by decide +kernel, by decide +kernel⟩
abbrev s_is_bound : Stmt := topS 39
theorem sc_is_bound : FnScope ["thing"] ["thing"] (defScope s_is_bound) := ⟨rfl, rfl, rfl, by decide +kernel, rfl, by decide +kernel, by decide +kernel⟩
abbrev s_is_part_alone : Stmt := topS 40
theorem sc_is_part_alone : FnScope ["thing"] ["thing"] (defScope s_is_part_alone) := ⟨rfl, rfl, rfl, by decide +kernel, rfl, by decide +kernel, by decide +kernel⟩
abbrev s_found_bins : Stmt := topS 41
theorem sc_found_bins : FnScope ["thing", "depth_left", "found", "part", "below", "one"] ["thing", "depth_left"] (defScope s_found_bins) := ⟨rfl, rfl, rfl, by decide +kernel, rfl, by decide +kernel, by decide +kernel⟩
abbrev s_is_recipe : Stmt := topS 42
theorem sc_is_recipe : FnScope ["thing"] ["thing"] (defScope s_is_recipe) := ⟨rfl, rfl, rfl, by decide +kernel, rfl, by decide +kernel, by decide +kernel⟩
abbrev s_check_recipe : Stmt := topS 43
theorem sc_check_recipe : FnScope ["thing"] ["thing"] (defScope s_check_recipe) := ⟨rfl, rfl, rfl, by decide +kernel, rfl, by decide +kernel, by decide +kernel⟩
abbrev s_recipe_bins : Stmt := topS 44
theorem sc_recipe_bins : FnScope ["recipe", "part", "one"] ["recipe"] (defScope s_recipe_bins) := ⟨rfl, rfl, rfl, by decide +kernel, rfl, by decide +kernel, by decide +kernel⟩
abbrev s_bins_of : Stmt := topS 45
theorem sc_bins_of : FnScope ["recipe"] ["recipe"] (defScope s_bins_of) := ⟨rfl, rfl, rfl, by decide +kernel, rfl, by decide +kernel, by decide +kernel⟩
abbrev s_depth_of : Stmt := topS 46
theorem sc_depth_of : FnScope ["recipe", "part"] ["recipe"] (defScope s_depth_of) := ⟨rfl, rfl, rfl, by decide +kernel, rfl, by decide +kernel, by decide +kernel⟩
abbrev s_depth : Stmt := topS 47
theorem sc_depth : FnScope ["recipe"] ["recipe"] (defScope s_depth) := ⟨rfl, rfl, rfl, by decide +kernel, rfl, by decide +kernel, by decide +kernel⟩
abbrev s_is_makeup : Stmt := topS 52
theorem sc_is_makeup : FnScope ["recipe", "many", "thing"] ["recipe", "many", "thing"] (defScope s_is_makeup) := ⟨rfl, rfl, rfl, by decide +kernel, rfl, by decide +kernel, by decide +kernel⟩
abbrev s_tightened : Stmt := topS 55
theorem sc_tightened : FnScope ["recipe", "found"] ["recipe"] (defScope s_tightened) := ⟨rfl, rfl, rfl, by decide +kernel, rfl, by decide +kernel, by decide +kernel⟩
abbrev s_simplified : Stmt := topS 57
theorem sc_simplified : FnScope ["recipe", "found"] ["recipe"] (defScope s_simplified) := ⟨rfl, rfl, rfl, by decide +kernel, rfl, by decide +kernel, by decide +kernel⟩
abbrev s_exchanged : Stmt := topS 58
theorem sc_exchanged : FnScope ["recipe", "old", "other", "part"] ["recipe", "old", "other"] (defScope s_exchanged) := ⟨rfl, rfl, rfl, by decide +kernel, rfl, by decide +kernel, by decide +kernel⟩
abbrev s_put : Stmt := topS 59
theorem sc_put : FnScope ["recipe", "old", "other", "found"] ["recipe", "old", "other"] (defScope s_put) := ⟨rfl, rfl, rfl, by decide +kernel, rfl, by decide +kernel, by decide +kernel⟩
abbrev s_numbered : Stmt := topS 60
theorem sc_numbered : FnScope ["recipe", "order", "part"] ["recipe", "order"] (defScope s_numbered) := ⟨rfl, rfl, rfl, by decide +kernel, rfl, by decide +kernel, by decide +kernel⟩
abbrev s_renamed : Stmt := topS 61
theorem sc_renamed : FnScope ["recipe", "order", "part"] ["recipe", "order"] (defScope s_renamed) := ⟨rfl, rfl, rfl, by decide +kernel, rfl, by decide +kernel, by decide +kernel⟩
abbrev s_recipe_text : Stmt := topS 63
theorem sc_recipe_text : FnScope ["recipe"] ["recipe"] (defScope s_recipe_text) := ⟨rfl, rfl, rfl, by decide +kernel, rfl, by decide +kernel, by decide +kernel⟩
abbrev s_check_prices : Stmt := topS 69
theorem sc_check_prices : FnScope ["recipe", "prices"] ["recipe", "prices"] (defScope s_check_prices) := ⟨rfl, rfl, rfl, by decide +kernel, rfl, by decide +kernel, by decide +kernel⟩
abbrev s_cheapest : Stmt := topS 75
theorem sc_cheapest : FnScope ["recipe", "prices"] ["recipe", "prices"] (defScope s_cheapest) := ⟨rfl, rfl, rfl, by decide +kernel, rfl, by decide +kernel, by decide +kernel⟩
abbrev s_is_paper : Stmt := topS 78
theorem sc_is_paper : FnScope ["recipe", "thing"] ["recipe", "thing"] (defScope s_is_paper) := ⟨rfl, rfl, rfl, by decide +kernel, rfl, by decide +kernel, by decide +kernel⟩
abbrev s_corners : Stmt := topS 83
theorem sc_corners : FnScope ["recipe", "many", "most", "found"] ["recipe", "many", "most"] (defScope s_corners) := ⟨rfl, rfl, rfl, by decide +kernel, rfl, by decide +kernel, by decide +kernel⟩
abbrev s_check_both : Stmt := topS 86
theorem sc_check_both : FnScope ["one", "other", "many"] ["one", "other", "many"] (defScope s_check_both) := ⟨rfl, rfl, rfl, by decide +kernel, rfl, by decide +kernel, by decide +kernel⟩
abbrev s_same_makeups : Stmt := topS 87
theorem sc_same_makeups : FnScope ["one", "other", "many"] ["one", "other", "many"] (defScope s_same_makeups) := ⟨rfl, rfl, rfl, by decide +kernel, rfl, by decide +kernel, by decide +kernel⟩
abbrev s__law_hand : Stmt := topS 89
theorem sc__law_hand : FnScope ["script", "cells", "cell"] ["script"] (defScope s__law_hand) := ⟨rfl, rfl, rfl, by decide +kernel, rfl, by decide +kernel, by decide +kernel⟩
abbrev s__law_draw : Stmt := topS 90
theorem sc__law_draw : FnScope ["hand", "many", "cell", "digit", "number"] ["hand", "many"] (defScope s__law_draw) := ⟨rfl, rfl, rfl, by decide +kernel, rfl, by decide +kernel, by decide +kernel⟩
abbrev s__law_any : Stmt := topS 91
theorem sc__law_any : FnScope ["hand", "some"] ["hand", "some"] (defScope s__law_any) := ⟨rfl, rfl, rfl, by decide +kernel, rfl, by decide +kernel, by decide +kernel⟩
abbrev s__law_mixed : Stmt := topS 92
theorem sc__law_mixed : FnScope ["hand", "some", "left", "found"] ["hand", "some"] (defScope s__law_mixed) := ⟨rfl, rfl, rfl, by decide +kernel, rfl, by decide +kernel, by decide +kernel⟩
abbrev s__law_odd : Stmt := topS 93
theorem sc__law_odd : FnScope ["hand", "deep", "turn", "some"] ["hand"] (defScope s__law_odd) := ⟨rfl, rfl, rfl, by decide +kernel, rfl, by decide +kernel, by decide +kernel⟩
abbrev s__law_is_whole : Stmt := topS 94
theorem sc__law_is_whole : FnScope ["thing"] ["thing"] (defScope s__law_is_whole) := ⟨rfl, rfl, rfl, by decide +kernel, rfl, by decide +kernel, by decide +kernel⟩
abbrev s__law_frac : Stmt := topS 95
theorem sc__law_frac : FnScope ["top", "low", "one", "other"] ["top", "low"] (defScope s__law_frac) := ⟨rfl, rfl, rfl, by decide +kernel, rfl, by decide +kernel, by decide +kernel⟩
abbrev s__law_plus : Stmt := topS 96
theorem sc__law_plus : FnScope ["x", "y"] ["x", "y"] (defScope s__law_plus) := ⟨rfl, rfl, rfl, by decide +kernel, rfl, by decide +kernel, by decide +kernel⟩
abbrev s__law_is_frac : Stmt := topS 97
theorem sc__law_is_frac : FnScope ["thing"] ["thing"] (defScope s__law_is_frac) := ⟨rfl, rfl, rfl, by decide +kernel, rfl, by decide +kernel, by decide +kernel⟩
abbrev s__law_sum_is : Stmt := topS 98
theorem sc__law_sum_is : FnScope ["parts", "which", "side", "left", "part"] ["parts", "which", "side"] (defScope s__law_sum_is) := ⟨rfl, rfl, rfl, by decide +kernel, rfl, by decide +kernel, by decide +kernel⟩
abbrev s__law_is_part : Stmt := topS 99
theorem sc__law_is_part : FnScope ["part"] ["part"] (defScope s__law_is_part) := ⟨rfl, rfl, rfl, by decide +kernel, rfl, by decide +kernel, by decide +kernel⟩
abbrev s__law_looked : Stmt := topS 100
theorem sc__law_looked : FnScope ["thing", "deep", "found", "part", "under"] ["thing"] (defScope s__law_looked) := ⟨rfl, rfl, rfl, by decide +kernel, rfl, by decide +kernel, by decide +kernel⟩
abbrev s__law_is_recipe : Stmt := topS 101
theorem sc__law_is_recipe : FnScope ["thing", "found"] ["thing"] (defScope s__law_is_recipe) := ⟨rfl, rfl, rfl, by decide +kernel, rfl, by decide +kernel, by decide +kernel⟩
abbrev s__law_range : Stmt := topS 102
theorem sc__law_range : FnScope ["hand", "share", "kind", "scale", "low", "high"] ["hand", "share"] (defScope s__law_range) := ⟨rfl, rfl, rfl, by decide +kernel, rfl, by decide +kernel, by decide +kernel⟩
abbrev s__law_shares : Stmt := topS 103
theorem sc__law_shares : FnScope ["hand", "many", "scale", "left", "found", "turn", "one"] ["hand", "many"] (defScope s__law_shares) := ⟨rfl, rfl, rfl, by decide +kernel, rfl, by decide +kernel, by decide +kernel⟩
abbrev s__law_recipe : Stmt := topS 104
theorem sc__law_recipe : FnScope ["hand", "some", "deep", "count", "groups", "place", "one", "parts", "group", "share", "least", "greatest"] ["hand", "some", "deep"] (defScope s__law_recipe) := ⟨rfl, rfl, rfl, by decide +kernel, rfl, by decide +kernel, by decide +kernel⟩
abbrev s__law_is_flag : Stmt := topS 105
theorem sc__law_is_flag : FnScope ["one", "due"] ["one", "due"] (defScope s__law_is_flag) := ⟨rfl, rfl, rfl, by decide +kernel, rfl, by decide +kernel, by decide +kernel⟩
abbrev s__law_places : Stmt := topS 106
theorem sc__law_places : FnScope ["recipe", "way", "found", "place", "part"] ["recipe", "way"] (defScope s__law_places) := ⟨rfl, rfl, rfl, by decide +kernel, rfl, by decide +kernel, by decide +kernel⟩
abbrev s__law_at : Stmt := topS 107
theorem sc__law_at : FnScope ["recipe", "way", "found", "place"] ["recipe", "way"] (defScope s__law_at) := ⟨rfl, rfl, rfl, by decide +kernel, rfl, by decide +kernel, by decide +kernel⟩
abbrev s__law_with : Stmt := topS 108
theorem sc__law_with : FnScope ["recipe", "way", "other", "place", "part"] ["recipe", "way", "other"] (defScope s__law_with) := ⟨rfl, rfl, rfl, by decide +kernel, rfl, by decide +kernel, by decide +kernel⟩
abbrev s__law_bound_bent : Stmt := topS 109
theorem sc__law_bound_bent : FnScope ["hand", "bound", "step", "top", "low", "some"] ["hand", "bound"] (defScope s__law_bound_bent) := ⟨rfl, rfl, rfl, by decide +kernel, rfl, by decide +kernel, by decide +kernel⟩
abbrev s__law_part_bent : Stmt := topS 110
theorem sc__law_part_bent : FnScope ["hand", "part", "least", "greatest", "under", "kind"] ["hand", "part"] (defScope s__law_part_bent) := ⟨rfl, rfl, rfl, by decide +kernel, rfl, by decide +kernel, by decide +kernel⟩
abbrev s__law_bent : Stmt := topS 111
theorem sc__law_bent : FnScope ["hand", "recipe", "ways", "way", "mix", "kind", "place", "wrapped", "turn"] ["hand", "recipe"] (defScope s__law_bent) := ⟨rfl, rfl, rfl, by decide +kernel, rfl, by decide +kernel, by decide +kernel⟩
abbrev s__law_known : Stmt := topS 112
theorem sc__law_known : FnScope ["none", "one", "half", "more", "less", "deep", "turn", "eight", "found", "place"] [] (defScope s__law_known) := ⟨rfl, rfl, rfl, by decide +kernel, rfl, by decide +kernel, by decide +kernel⟩
abbrev s__law_is_refused : Stmt := topS 113
theorem sc__law_is_refused : FnScope ["hand", "thing", "which", "prices", "found", "many", "ask", "error"] ["hand", "thing"] (defScope s__law_is_refused) := ⟨rfl, rfl, rfl, by decide +kernel, rfl, by decide +kernel, by decide +kernel⟩
abbrev s__law_is_judged : Stmt := topS 114
theorem sc__law_is_judged : FnScope ["hand", "thing", "due", "before"] ["hand", "thing"] (defScope s__law_is_judged) := ⟨rfl, rfl, rfl, by decide +kernel, rfl, by decide +kernel, by decide +kernel⟩
abbrev s__law_is_bad_second : Stmt := topS 115
theorem sc__law_is_bad_second : FnScope ["thing", "error"] ["thing"] (defScope s__law_is_bad_second) := ⟨rfl, rfl, rfl, by decide +kernel, rfl, by decide +kernel, by decide +kernel⟩
abbrev s_law : Stmt := topS 116
theorem sc_law : FnScope ["script", "hand", "thing", "due", "turn", "some", "recipe", "again"] ["script"] (defScope s_law) := ⟨rfl, rfl, rfl, by decide +kernel, rfl, by decide +kernel, by decide +kernel⟩
def fnL : List He.DefD := ([dfn "is_int" s_is_int, dfn "is_within" s_is_within, dfn "divisor" s_divisor, dfn "fraction" s_fraction, dfn "is_fraction" s_is_fraction, dfn "add" s_add, dfn "is_less" s_is_less, dfn "total" s_total, dfn "is_share" s_is_share, dfn "is_bound" s_is_bound, dfn "is_part_alone" s_is_part_alone, dfn "found_bins" s_found_bins, dfn "is_recipe" s_is_recipe, dfn "check_recipe" s_check_recipe, dfn "recipe_bins" s_recipe_bins, dfn "bins_of" s_bins_of, dfn "depth_of" s_depth_of, dfn "depth" s_depth, dfn "is_makeup" s_is_makeup, dfn "tightened" s_tightened, dfn "simplified" s_simplified, dfn "exchanged" s_exchanged, dfn "put" s_put, dfn "numbered" s_numbered, dfn "renamed" s_renamed, dfn "recipe_text" s_recipe_text, dfn "check_prices" s_check_prices, dfn "cheapest" s_cheapest, dfn "is_paper" s_is_paper, dfnK "corners" s_corners [("most", .int 1000)]] : List He.DefD) ++ ([dfn "check_both" s_check_both, dfn "same_makeups" s_same_makeups, dfn "_law_hand" s__law_hand, dfn "_law_draw" s__law_draw, dfn "_law_any" s__law_any, dfn "_law_mixed" s__law_mixed, dfn "_law_odd" s__law_odd, dfn "_law_is_whole" s__law_is_whole, dfn "_law_frac" s__law_frac, dfn "_law_plus" s__law_plus, dfn "_law_is_frac" s__law_is_frac, dfn "_law_sum_is" s__law_sum_is, dfn "_law_is_part" s__law_is_part, dfn "_law_looked" s__law_looked, dfn "_law_is_recipe" s__law_is_recipe, dfn "_law_range" s__law_range, dfn "_law_shares" s__law_shares, dfn "_law_recipe" s__law_recipe, dfn "_law_is_flag" s__law_is_flag, dfn "_law_places" s__law_places, dfn "_law_at" s__law_at, dfn "_law_with" s__law_with, dfn "_law_bound_bent" s__law_bound_bent, dfn "_law_part_bent" s__law_part_bent, dfn "_law_bent" s__law_bent, dfn "_law_known" s__law_known, dfn "_law_is_refused" s__law_is_refused, dfn "_law_is_judged" s__law_is_judged, dfn "_law_is_bad_second" s__law_is_bad_second, dfn "law" s_law] : List He.DefD)
def fcL : List Fc := ([.glo "is_int", .glo "is_within", .glo "divisor", .glo "fraction", .glo "is_fraction", .glo "add", .glo "is_less", .glo "total", .glo "is_share", .glo "is_bound", .glo "is_part_alone", .glo "found_bins", .glo "is_recipe", .glo "check_recipe", .glo "recipe_bins", .glo "bins_of", .glo "depth_of", .glo "depth", .glo "is_makeup", .glo "tightened", .glo "simplified", .glo "exchanged", .glo "put", .glo "numbered", .glo "renamed", .glo "recipe_text", .glo "check_prices", .glo "cheapest", .glo "is_paper", .glo "corners"] : List Fc) ++ ([.glo "check_both", .glo "same_makeups", .glo "_law_hand", .glo "_law_draw", .glo "_law_any", .glo "_law_mixed", .glo "_law_odd", .glo "_law_is_whole", .glo "_law_frac", .glo "_law_plus", .glo "_law_is_frac", .glo "_law_sum_is", .glo "_law_is_part", .glo "_law_looked", .glo "_law_is_recipe", .glo "_law_range", .glo "_law_shares", .glo "_law_recipe", .glo "_law_is_flag", .glo "_law_places", .glo "_law_at", .glo "_law_with", .glo "_law_bound_bent", .glo "_law_part_bent", .glo "_law_bent", .glo "_law_known", .glo "_law_is_refused", .glo "_law_is_judged", .glo "_law_is_bad_second", .glo "law"] : List Fc) ++ ([.free "abs", .free "all", .free "any", .free "bool", .free "enumerate", .free "int", .free "isinstance", .free "len", .free "list", .free "max", .free "range", .free "repr", .free "set", .free "sorted", .free "str", .free "tuple", .free "zip", .dat "ZERO" (.tup [(.int 0), (.int 1)]), .dat "ONE" (.tup [(.int 1), (.int 1)]), .dat "MOST_BIN" (.int 7), .dat "MOST_PARTS" (.int 8), .dat "MOST_DEPTH" (.int 6), .dat "MOST_UNDER" (.int 1000), .exc "BinError", .exc "BadOrder", .exc "BadRecipe", .exc "NoBin", .exm "BadOrder" "BinError" true, .exm "BadRecipe" "BinError" true, .exm "NoBin" "BinError" true] : List Fc) ++ ([.kit "BadRecipe" "BadRecipe" true, .sys] : List Fc)
abbrev Tx (K : PySem.W.Frag) (mg : Str → Option Value) : Prop := Top fnL fcL K mg
section
variable {K : PySem.W.Frag} {mg : Str → Option Value}
theorem d_is_int (T : Tx K mg) : DefAt K mg "is_int" s_is_int ["thing"] := T.def_ 0 0 rfl rfl fun _ _ _ _ _ _ us hl => match us, hl with | [_], _ => rfl
theorem d_is_within (T : Tx K mg) : DefAt K mg "is_within" s_is_within ["thing", "least", "greatest"] := T.def_ 1 1 rfl rfl fun _ _ _ _ _ _ us hl => match us, hl with | [_, _, _], _ => rfl
theorem d_divisor (T : Tx K mg) : DefAt K mg "divisor" s_divisor ["one", "other"] := T.def_ 2 2 rfl rfl fun _ _ _ _ _ _ us hl => match us, hl with | [_, _], _ => rfl
theorem d_fraction (T : Tx K mg) : DefAt K mg "fraction" s_fraction ["n", "d"] := T.def_ 3 3 rfl rfl fun _ _ _ _ _ _ us hl => match us, hl with | [_, _], _ => rfl
theorem d_is_fraction (T : Tx K mg) : DefAt K mg "is_fraction" s_is_fraction ["thing"] := T.def_ 4 4 rfl rfl fun _ _ _ _ _ _ us hl => match us, hl with | [_], _ => rfl
theorem d_add (T : Tx K mg) : DefAt K mg "add" s_add ["one", "other"] := T.def_ 5 5 rfl rfl fun _ _ _ _ _ _ us hl => match us, hl with | [_, _], _ => rfl
theorem d_is_less (T : Tx K mg) : DefAt K mg "is_less" s_is_less ["one", "other"] := T.def_ 6 6 rfl rfl fun _ _ _ _ _ _ us hl => match us, hl with | [_, _], _ => rfl
theorem d_total (T : Tx K mg) : DefAt K mg "total" s_total ["parts"] := T.def_ 7 7 rfl rfl fun _ _ _ _ _ _ us hl => match us, hl with | [_], _ => rfl
theorem d_is_share (T : Tx K mg) : DefAt K mg "is_share" s_is_share ["thing"] := T.def_ 8 8 rfl rfl fun _ _ _ _ _ _ us hl => match us, hl with | [_], _ => rfl
theorem d_is_bound (T : Tx K mg) : DefAt K mg "is_bound" s_is_bound ["thing"] := T.def_ 9 9 rfl rfl fun _ _ _ _ _ _ us hl => match us, hl with | [_], _ => rfl
theorem d_is_part_alone (T : Tx K mg) : DefAt K mg "is_part_alone" s_is_part_alone ["thing"] := T.def_ 10 10 rfl rfl fun _ _ _ _ _ _ us hl => match us, hl with | [_], _ => rfl
theorem d_found_bins (T : Tx K mg) : DefAt K mg "found_bins" s_found_bins ["thing", "depth_left"] := T.def_ 11 11 rfl rfl fun _ _ _ _ _ _ us hl => match us, hl with | [_, _], _ => rfl
theorem d_is_recipe (T : Tx K mg) : DefAt K mg "is_recipe" s_is_recipe ["thing"] := T.def_ 12 12 rfl rfl fun _ _ _ _ _ _ us hl => match us, hl with | [_], _ => rfl
theorem d_check_recipe (T : Tx K mg) : DefAt K mg "check_recipe" s_check_recipe ["thing"] := T.def_ 13 13 rfl rfl fun _ _ _ _ _ _ us hl => match us, hl with | [_], _ => rfl
theorem d_recipe_bins (T : Tx K mg) : DefAt K mg "recipe_bins" s_recipe_bins ["recipe"] := T.def_ 14 14 rfl rfl fun _ _ _ _ _ _ us hl => match us, hl with | [_], _ => rfl
theorem d_bins_of (T : Tx K mg) : DefAt K mg "bins_of" s_bins_of ["recipe"] := T.def_ 15 15 rfl rfl fun _ _ _ _ _ _ us hl => match us, hl with | [_], _ => rfl
theorem d_depth_of (T : Tx K mg) : DefAt K mg "depth_of" s_depth_of ["recipe"] := T.def_ 16 16 rfl rfl fun _ _ _ _ _ _ us hl => match us, hl with | [_], _ => rfl
theorem d_depth (T : Tx K mg) : DefAt K mg "depth" s_depth ["recipe"] := T.def_ 17 17 rfl rfl fun _ _ _ _ _ _ us hl => match us, hl with | [_], _ => rfl
theorem d_is_makeup (T : Tx K mg) : DefAt K mg "is_makeup" s_is_makeup ["recipe", "many", "thing"] := T.def_ 18 18 rfl rfl fun _ _ _ _ _ _ us hl => match us, hl with | [_, _, _], _ => rfl
theorem d_tightened (T : Tx K mg) : DefAt K mg "tightened" s_tightened ["recipe"] := T.def_ 19 19 rfl rfl fun _ _ _ _ _ _ us hl => match us, hl with | [_], _ => rfl
theorem d_simplified (T : Tx K mg) : DefAt K mg "simplified" s_simplified ["recipe"] := T.def_ 20 20 rfl rfl fun _ _ _ _ _ _ us hl => match us, hl with | [_], _ => rfl
theorem d_exchanged (T : Tx K mg) : DefAt K mg "exchanged" s_exchanged ["recipe", "old", "other"] := T.def_ 21 21 rfl rfl fun _ _ _ _ _ _ us hl => match us, hl with | [_, _, _], _ => rfl
theorem d_put (T : Tx K mg) : DefAt K mg "put" s_put ["recipe", "old", "other"] := T.def_ 22 22 rfl rfl fun _ _ _ _ _ _ us hl => match us, hl with | [_, _, _], _ => rfl
theorem d_numbered (T : Tx K mg) : DefAt K mg "numbered" s_numbered ["recipe", "order"] := T.def_ 23 23 rfl rfl fun _ _ _ _ _ _ us hl => match us, hl with | [_, _], _ => rfl
theorem d_renamed (T : Tx K mg) : DefAt K mg "renamed" s_renamed ["recipe", "order"] := T.def_ 24 24 rfl rfl fun _ _ _ _ _ _ us hl => match us, hl with | [_, _], _ => rfl
theorem d_recipe_text (T : Tx K mg) : DefAt K mg "recipe_text" s_recipe_text ["recipe"] := T.def_ 25 25 rfl rfl fun _ _ _ _ _ _ us hl => match us, hl with | [_], _ => rfl
theorem d_check_prices (T : Tx K mg) : DefAt K mg "check_prices" s_check_prices ["recipe", "prices"] := T.def_ 26 26 rfl rfl fun _ _ _ _ _ _ us hl => match us, hl with | [_, _], _ => rfl
theorem d_cheapest (T : Tx K mg) : DefAt K mg "cheapest" s_cheapest ["recipe", "prices"] := T.def_ 27 27 rfl rfl fun _ _ _ _ _ _ us hl => match us, hl with | [_, _], _ => rfl
theorem d_is_paper (T : Tx K mg) : DefAt K mg "is_paper" s_is_paper ["recipe", "thing"] := T.def_ 28 28 rfl rfl fun _ _ _ _ _ _ us hl => match us, hl with | [_, _], _ => rfl
theorem d_corners (T : Tx K mg) : DefAtD K mg "corners" s_corners ["recipe", "many", "most"] [(.int 1000)] := T.defK (kw := [("most", .int 1000)]) 29 29 2 rfl rfl (by simp) rfl rfl fun _ _ _ _ _ _ us ks h1 h2 => match us, ks, h1, h2 with | [_, _], [_], _, _ => ⟨_, _, _, _, _, _, rfl, rfl, rfl⟩
theorem d_check_both (T : Tx K mg) : DefAt K mg "check_both" s_check_both ["one", "other", "many"] := T.def_ 30 30 rfl rfl fun _ _ _ _ _ _ us hl => match us, hl with | [_, _, _], _ => rfl
theorem d_same_makeups (T : Tx K mg) : DefAt K mg "same_makeups" s_same_makeups ["one", "other", "many"] := T.def_ 31 31 rfl rfl fun _ _ _ _ _ _ us hl => match us, hl with | [_, _, _], _ => rfl
theorem d__law_hand (T : Tx K mg) : DefAt K mg "_law_hand" s__law_hand ["script"] := T.def_ 32 32 rfl rfl fun _ _ _ _ _ _ us hl => match us, hl with | [_], _ => rfl
theorem d__law_draw (T : Tx K mg) : DefAt K mg "_law_draw" s__law_draw ["hand", "many"] := T.def_ 33 33 rfl rfl fun _ _ _ _ _ _ us hl => match us, hl with | [_, _], _ => rfl
theorem d__law_any (T : Tx K mg) : DefAt K mg "_law_any" s__law_any ["hand", "some"] := T.def_ 34 34 rfl rfl fun _ _ _ _ _ _ us hl => match us, hl with | [_, _], _ => rfl
theorem d__law_mixed (T : Tx K mg) : DefAt K mg "_law_mixed" s__law_mixed ["hand", "some"] := T.def_ 35 35 rfl rfl fun _ _ _ _ _ _ us hl => match us, hl with | [_, _], _ => rfl
theorem d__law_odd (T : Tx K mg) : DefAt K mg "_law_odd" s__law_odd ["hand"] := T.def_ 36 36 rfl rfl fun _ _ _ _ _ _ us hl => match us, hl with | [_], _ => rfl
theorem d__law_is_whole (T : Tx K mg) : DefAt K mg "_law_is_whole" s__law_is_whole ["thing"] := T.def_ 37 37 rfl rfl fun _ _ _ _ _ _ us hl => match us, hl with | [_], _ => rfl
theorem d__law_frac (T : Tx K mg) : DefAt K mg "_law_frac" s__law_frac ["top", "low"] := T.def_ 38 38 rfl rfl fun _ _ _ _ _ _ us hl => match us, hl with | [_, _], _ => rfl
theorem d__law_plus (T : Tx K mg) : DefAt K mg "_law_plus" s__law_plus ["x", "y"] := T.def_ 39 39 rfl rfl fun _ _ _ _ _ _ us hl => match us, hl with | [_, _], _ => rfl
theorem d__law_is_frac (T : Tx K mg) : DefAt K mg "_law_is_frac" s__law_is_frac ["thing"] := T.def_ 40 40 rfl rfl fun _ _ _ _ _ _ us hl => match us, hl with | [_], _ => rfl
theorem d__law_sum_is (T : Tx K mg) : DefAt K mg "_law_sum_is" s__law_sum_is ["parts", "which", "side"] := T.def_ 41 41 rfl rfl fun _ _ _ _ _ _ us hl => match us, hl with | [_, _, _], _ => rfl
theorem d__law_is_part (T : Tx K mg) : DefAt K mg "_law_is_part" s__law_is_part ["part"] := T.def_ 42 42 rfl rfl fun _ _ _ _ _ _ us hl => match us, hl with | [_], _ => rfl
theorem d__law_looked (T : Tx K mg) : DefAt K mg "_law_looked" s__law_looked ["thing"] := T.def_ 43 43 rfl rfl fun _ _ _ _ _ _ us hl => match us, hl with | [_], _ => rfl
theorem d__law_is_recipe (T : Tx K mg) : DefAt K mg "_law_is_recipe" s__law_is_recipe ["thing"] := T.def_ 44 44 rfl rfl fun _ _ _ _ _ _ us hl => match us, hl with | [_], _ => rfl
theorem d__law_range (T : Tx K mg) : DefAt K mg "_law_range" s__law_range ["hand", "share"] := T.def_ 45 45 rfl rfl fun _ _ _ _ _ _ us hl => match us, hl with | [_, _], _ => rfl
theorem d__law_shares (T : Tx K mg) : DefAt K mg "_law_shares" s__law_shares ["hand", "many"] := T.def_ 46 46 rfl rfl fun _ _ _ _ _ _ us hl => match us, hl with | [_, _], _ => rfl
theorem d__law_recipe (T : Tx K mg) : DefAt K mg "_law_recipe" s__law_recipe ["hand", "some", "deep"] := T.def_ 47 47 rfl rfl fun _ _ _ _ _ _ us hl => match us, hl with | [_, _, _], _ => rfl
theorem d__law_is_flag (T : Tx K mg) : DefAt K mg "_law_is_flag" s__law_is_flag ["one", "due"] := T.def_ 48 48 rfl rfl fun _ _ _ _ _ _ us hl => match us, hl with | [_, _], _ => rfl
theorem d__law_places (T : Tx K mg) : DefAt K mg "_law_places" s__law_places ["recipe", "way"] := T.def_ 49 49 rfl rfl fun _ _ _ _ _ _ us hl => match us, hl with | [_, _], _ => rfl
theorem d__law_at (T : Tx K mg) : DefAt K mg "_law_at" s__law_at ["recipe", "way"] := T.def_ 50 50 rfl rfl fun _ _ _ _ _ _ us hl => match us, hl with | [_, _], _ => rfl
theorem d__law_with (T : Tx K mg) : DefAt K mg "_law_with" s__law_with ["recipe", "way", "other"] := T.def_ 51 51 rfl rfl fun _ _ _ _ _ _ us hl => match us, hl with | [_, _, _], _ => rfl
theorem d__law_bound_bent (T : Tx K mg) : DefAt K mg "_law_bound_bent" s__law_bound_bent ["hand", "bound"] := T.def_ 52 52 rfl rfl fun _ _ _ _ _ _ us hl => match us, hl with | [_, _], _ => rfl
theorem d__law_part_bent (T : Tx K mg) : DefAt K mg "_law_part_bent" s__law_part_bent ["hand", "part"] := T.def_ 53 53 rfl rfl fun _ _ _ _ _ _ us hl => match us, hl with | [_, _], _ => rfl
theorem d__law_bent (T : Tx K mg) : DefAt K mg "_law_bent" s__law_bent ["hand", "recipe"] := T.def_ 54 54 rfl rfl fun _ _ _ _ _ _ us hl => match us, hl with | [_, _], _ => rfl
theorem d__law_known (T : Tx K mg) : DefAt K mg "_law_known" s__law_known [] := T.def_ 55 55 rfl rfl fun _ _ _ _ _ _ us hl => match us, hl with | [], _ => rfl
theorem d__law_is_refused (T : Tx K mg) : DefAt K mg "_law_is_refused" s__law_is_refused ["hand", "thing"] := T.def_ 56 56 rfl rfl fun _ _ _ _ _ _ us hl => match us, hl with | [_, _], _ => rfl
theorem d__law_is_judged (T : Tx K mg) : DefAt K mg "_law_is_judged" s__law_is_judged ["hand", "thing"] := T.def_ 57 57 rfl rfl fun _ _ _ _ _ _ us hl => match us, hl with | [_, _], _ => rfl
theorem d__law_is_bad_second (T : Tx K mg) : DefAt K mg "_law_is_bad_second" s__law_is_bad_second ["thing"] := T.def_ 58 58 rfl rfl fun _ _ _ _ _ _ us hl => match us, hl with | [_], _ => rfl
theorem d_law (T : Tx K mg) : DefAt K mg "law" s_law ["script"] := T.def_ 59 59 rfl rfl fun _ _ _ _ _ _ us hl => match us, hl with | [_], _ => rfl
theorem n_abs (T : Tx K mg) : mg "abs" = none := T.free 60
theorem n_all (T : Tx K mg) : mg "all" = none := T.free 61
theorem n_any (T : Tx K mg) : mg "any" = none := T.free 62
theorem n_bool (T : Tx K mg) : mg "bool" = none := T.free 63
theorem n_enumerate (T : Tx K mg) : mg "enumerate" = none := T.free 64
theorem n_int (T : Tx K mg) : mg "int" = none := T.free 65
theorem n_isinstance (T : Tx K mg) : mg "isinstance" = none := T.free 66
theorem n_len (T : Tx K mg) : mg "len" = none := T.free 67
theorem n_list (T : Tx K mg) : mg "list" = none := T.free 68
theorem n_max (T : Tx K mg) : mg "max" = none := T.free 69
theorem n_range (T : Tx K mg) : mg "range" = none := T.free 70
theorem n_repr (T : Tx K mg) : mg "repr" = none := T.free 71
theorem n_set (T : Tx K mg) : mg "set" = none := T.free 72
theorem n_sorted (T : Tx K mg) : mg "sorted" = none := T.free 73
theorem n_str (T : Tx K mg) : mg "str" = none := T.free 74
theorem n_tuple (T : Tx K mg) : mg "tuple" = none := T.free 75
theorem n_zip (T : Tx K mg) : mg "zip" = none := T.free 76
theorem v_ZERO (T : Tx K mg) : ∃ u v, mg "ZERO" = some u ∧ RelV v u ∧ ∀ H G, Rep K H G (.tup [(.int 0), (.int 1)]) v := T.dat 77
theorem v_ONE (T : Tx K mg) : ∃ u v, mg "ONE" = some u ∧ RelV v u ∧ ∀ H G, Rep K H G (.tup [(.int 1), (.int 1)]) v := T.dat 78
theorem v_MOST_BIN (T : Tx K mg) : ∃ u v, mg "MOST_BIN" = some u ∧ RelV v u ∧ ∀ H G, Rep K H G (.int 7) v := T.dat 79
theorem v_MOST_PARTS (T : Tx K mg) : ∃ u v, mg "MOST_PARTS" = some u ∧ RelV v u ∧ ∀ H G, Rep K H G (.int 8) v := T.dat 80
theorem v_MOST_DEPTH (T : Tx K mg) : ∃ u v, mg "MOST_DEPTH" = some u ∧ RelV v u ∧ ∀ H G, Rep K H G (.int 6) v := T.dat 81
theorem v_MOST_UNDER (T : Tx K mg) : ∃ u v, mg "MOST_UNDER" = some u ∧ RelV v u ∧ ∀ H G, Rep K H G (.int 1000) v := T.dat 82
theorem e_BinError (T : Tx K mg) : ExcT K mg "BinError" (He.ga K "BinError") := T.exc 83
theorem e_BadOrder (T : Tx K mg) : ExcT K mg "BadOrder" (He.ga K "BadOrder") := T.exc 84
theorem e_BadRecipe (T : Tx K mg) : ExcT K mg "BadRecipe" (He.ga K "BadRecipe") := T.exc 85
theorem e_NoBin (T : Tx K mg) : ExcT K mg "NoBin" (He.ga K "NoBin") := T.exc 86
theorem m_BadOrder_BinError (T : Tx K mg) : PySem.W.exmOne K (.ref (He.ga K "BadOrder")) (.ref (He.ga K "BinError")) = some true := Fc.exm_ok (T.fc 87 (f := .exm "BadOrder" "BinError" true))
theorem m_BadRecipe_BinError (T : Tx K mg) : PySem.W.exmOne K (.ref (He.ga K "BadRecipe")) (.ref (He.ga K "BinError")) = some true := Fc.exm_ok (T.fc 88 (f := .exm "BadRecipe" "BinError" true))
theorem m_NoBin_BinError (T : Tx K mg) : PySem.W.exmOne K (.ref (He.ga K "NoBin")) (.ref (He.ga K "BinError")) = some true := Fc.exm_ok (T.fc 89 (f := .exm "NoBin" "BinError" true))
theorem k_BadRecipe_BadRecipe (T : Tx K mg) : PySem.W.kitOne K (.ref (He.ga K "BadRecipe")) (.ref (He.ga K "BadRecipe")) = some true := Fc.kit_ok (T.fc 90 (f := .kit "BadRecipe" "BadRecipe" true))
theorem sys_at (T : Tx K mg) : sysB K = true := T.sysM 91
end

end K01

set_option Elab.async false
set_option linter.all false
set_option maxRecDepth 100000
set_option maxHeartbeats 0
namespace K01
open PySem PySem.Spec L2 L3
open PyProof.Rows hiding St
/-! ### numbers -/
/-- a bound far beyond what the law makes -/
def Bd (i : Int) : Prop := i.natAbs < 2 ^ 8000
theorem Bd.log {i : Int} (h : Bd i) : i.natAbs.log2 < 8000 := by
  by_cases z : i.natAbs = 0
  · rw [z]; decide
  · exact (Nat.log2_lt z).mpr h
theorem Bd.mul {i j : Int} (h : Bd i) (k : Bd j) : MulC i j := MulC.w (by have := h.log; have := k.log; omega)
theorem Bd.div {i j : Int} (k : Bd j) (h : j ≠ 0) : DivC i j := ⟨h, by have := k.log; omega⟩
theorem Bd.le {i j : Int} (h : Bd j) (k : i.natAbs ≤ j.natAbs) : Bd i := Nat.lt_of_le_of_lt k h
theorem Bd.small {i : Int} (h1 : -(2 ^ 63) < i) (h2 : i < 2 ^ 63) : Bd i := by
  have : i.natAbs < 2 ^ 63 := by omega
  exact Nat.lt_of_lt_of_le this (Nat.pow_le_pow_right (by decide) (by decide))
theorem euclid {a b : Int} (hb : 0 < b) : Int.gcd b (a - a.fdiv b * b) = Int.gcd a b ∧ 0 ≤ a - a.fdiv b * b ∧ a - a.fdiv b * b < b := by
  have e : a - a.fdiv b * b = a.fmod b := by
    have := Int.fdiv_mul_self a b
    omega
  refine ⟨?_, ?_, ?_⟩
  · have : a - a.fdiv b * b = a + (-(a.fdiv b)) * b := by rw [Int.neg_mul]; rfl
    rw [this, Int.gcd_add_mul_right_right, Int.gcd_comm]
  · rw [e]; exact Int.fmod_nonneg_of_pos a hb
  · rw [e]; exact Int.fmod_lt_of_pos a hb
def redN (n d : Int) : Int := n / (Int.gcd n d : Int)
def redD (n d : Int) : Int := d / (Int.gcd n d : Int)
def frD (n d : Int) : D := .tup [.int (redN n d), .int (redD n d)]
/-- p/q is n/m -/
def Rt (p q n m : Int) : Prop := 0 < q ∧ 0 < m ∧ p * m = n * q
theorem gcd_pos {n d : Int} (hd : 0 < d) : (0 : Int) < (Int.gcd n d : Int) := by
  have := Int.gcd_pos_of_ne_zero_right n (show d ≠ 0 by omega)
  omega
theorem red_eq {n d : Int} (hd : 0 < d) : redN n d * (Int.gcd n d : Int) = n ∧ redD n d * (Int.gcd n d : Int) = d :=
  ⟨Int.ediv_mul_cancel (Int.gcd_dvd_left n d), Int.ediv_mul_cancel (Int.gcd_dvd_right n d)⟩
theorem redD_pos {n d : Int} (hd : 0 < d) : 0 < redD n d := by
  have g := gcd_pos (n := n) hd
  have e := (red_eq (n := n) hd).2
  rcases Int.lt_or_le 0 (redD n d) with h | h
  · exact h
  · have : redD n d * (Int.gcd n d : Int) ≤ 0 := Int.mul_nonpos_of_nonpos_of_nonneg h (Int.le_of_lt g)
    omega
theorem red_rt {n d : Int} (hd : 0 < d) : Rt (redN n d) (redD n d) n d := by
  obtain ⟨e1, e2⟩ := red_eq (n := n) hd
  refine ⟨redD_pos hd, hd, ?_⟩
  generalize redN n d = p at *
  generalize redD n d = q at *
  generalize (Int.gcd n d : Int) = g at *
  subst e1 e2
  grind
theorem red_le {n d : Int} (hd : 0 < d) : (redN n d).natAbs ≤ n.natAbs ∧ (redD n d).natAbs ≤ d.natAbs := by
  have g := Int.gcd_pos_of_ne_zero_right n (show d ≠ 0 by omega)
  unfold redN redD
  rw [Int.natAbs_ediv_of_dvd (Int.gcd_dvd_left n d), Int.natAbs_ediv_of_dvd (Int.gcd_dvd_right n d)]
  exact ⟨Nat.div_le_self _ _, Nat.div_le_self _ _⟩
theorem red_one {n : Int} : redN n 1 = n ∧ redD n 1 = 1 := by
  unfold redN redD
  rw [Int.gcd_one]
  simp
section
variable {P : Program} {w : World} {K : PySem.W.Frag} {mg : Str → Option Value} {base : Heap}
def S_is_int : SP3 := fun ds G R _ => match ds with
  | [x] => rdD x = true ∧ R (.bl (isIntD x)) G
  | _ => False
theorem ok_is_int (T : Tx K mg) : Good P w K mg base "is_int" ["thing"] 1 S_is_int := by
  refine good_of (d_is_int T) sc_is_int fun f cd A outer s H E hp tk hgd hr => ⟨_, (s_one (s_ret (c_and (c_callB call_isi3 lift_isi (n_isinstance T) (a_cons (c_var 0) (a_cons (c_bltn (n := "int") (n_int T)) a_nil))) (c_one (c_not (c_callB call_isi3 lift_isi (n_isinstance T) (a_cons (c_var 0) (a_cons (c_bltn (n := "bool") (n_bool T)) a_nil)))))))), fun ds G R Ex hlen hS => ?_⟩
  clear hp tk hgd hr hlen
  match ds, hS with
  | [x], ⟨h1, h2⟩ =>
    rw [show start3 ["thing"] [x] = [some (x)] from rfl]
    simp only [wExpr, wRaise, gSb, wSeq, wNext, wRet, wRetN, wExpr, wIfS, wSet, wAsg, wPar, wAug, w1, w2, wA, aNil, aCons, wVar, wVarT, wC, tOfW, w3c, wAnd, wOr, wNot, tAnd3, tOr3, tNot3, wIf, wTup, wLst, wLstO, wCall, wSl, pNone, pSome, wipe3, List.map_cons, List.map_nil, fI2, fI2C, fI1, fAbs, addI, mulI, intI, eqS, neS, isN_, notN_, L3.isNon, gN, gsN, gsC, gT, asT, at3, List.set_cons_zero, List.set_cons_succ, Option.some.injEq, exists_eq_left', D.bl.injEq, D.int.injEq, D.tup.injEq, List.length_cons, List.length_nil, Nat.reduceAdd, true_and, if_true, if_false, Bool.false_eq_true, reduceIte, ite_true, ite_false, len_t0, len_t1, len_t2, len_t3, len_l0, len_l1, eqI, neI, Int.reduceBEq, Int.reduceLT, Int.reduceLE, Int.reduceNeg, decide_true, decide_false, Bool.not_true, Bool.not_false, ix0, ix1, ix2, and_true, and_self, isi_int h1, isi_bool h1]
    cases x <;> exact h2
def isWithin (x : D) (a b : Int) : Bool := match x with
  | .int i => decide (a ≤ i) && decide (i ≤ b)
  | _ => false
def S_is_within : SP3 := fun ds G R _ => match ds with
  | [x, .int a, .int b] => rdD x = true ∧ R (.bl (isWithin x a b)) G
  | _ => False
theorem ok_is_within (T : Tx K mg) : Good P w K mg base "is_within" ["thing", "least", "greatest"] 2 S_is_within := by
  have g_is_int := ok_is_int (P := P) (w := w) (base := base) T
  refine good_of (d_is_within T) sc_is_within fun f cd A outer s H E hp tk hgd hr => ⟨_, (s_one (s_ret (c_and (c_call g_is_int (hr.mono (by omega)) hgd tk (a_cons (c_var 0) a_nil)) (c_one (c_chain op_le lift_I2b op_le lift_I2b (c_var 1) (c_var 0) (c_var 2)))))), fun ds G R Ex hlen hS => ?_⟩
  clear hp tk hgd hr hlen
  match ds, hS with
  | [x, .int a, .int b], ⟨h1, h2⟩ =>
    rw [show start3 ["thing", "least", "greatest"] [x, .int a, .int b] = [some (x), some (.int a), some (.int b)] from rfl]
    simp only [wExpr, wRaise, gSb, wSeq, wNext, wRet, wRetN, wExpr, wIfS, wSet, wAsg, wPar, wAug, w1, w2, wA, aNil, aCons, wVar, wVarT, wC, tOfW, w3c, wAnd, wOr, wNot, tAnd3, tOr3, tNot3, wIf, wTup, wLst, wLstO, wCall, wSl, pNone, pSome, wipe3, List.map_cons, List.map_nil, fI2, fI2C, fI1, fAbs, addI, mulI, intI, eqS, neS, isN_, notN_, L3.isNon, gN, gsN, gsC, gT, asT, at3, List.set_cons_zero, List.set_cons_succ, Option.some.injEq, exists_eq_left', D.bl.injEq, D.int.injEq, D.tup.injEq, List.length_cons, List.length_nil, Nat.reduceAdd, true_and, if_true, if_false, Bool.false_eq_true, reduceIte, ite_true, ite_false, len_t0, len_t1, len_t2, len_t3, len_l0, len_l1, eqI, neI, Int.reduceBEq, Int.reduceLT, Int.reduceLE, Int.reduceNeg, decide_true, decide_false, Bool.not_true, Bool.not_false, ix0, ix1, ix2, and_true, and_self, S_is_int, h1]
    cases x with
    | int i =>
      simp only [isIntD, if_true]
      simp only [isWithin] at h2
      by_cases h : a ≤ i
      · simpa [h] using h2
      · simpa [h] using h2
    | _ => exact h2
theorem whl_div {E : E3} {G : GH} {tt : T3} {bb : S3} (Hyp : ∀ (a b : Int), 0 ≤ b → Bd a → Bd b → ∀ (n : Nat) (E : E3), (b = 0 → E.nx [some (.int a), some (.int b)] G) → (0 < b → whl tt bb E n [some (.int b), some (.int (a - a.fdiv b * b))] G) → whl tt bb E (n + 1) [some (.int a), some (.int b)] G) :
    ∀ (m : Nat) (a b : Int), b.natAbs ≤ m → 0 ≤ b → Bd a → Bd b → (∀ x : Int, x.natAbs = Int.gcd a b → Bd x → E.nx [some (.int x), some (.int 0)] G) → whl tt bb E (m + 1) [some (.int a), some (.int b)] G
  | 0, a, b, h1, h2, h3, h4, h5 => by
    have e : b = 0 := by omega
    subst e
    exact Hyp a 0 h2 h3 h4 0 E (fun _ => h5 a (by simp) h3) (fun z => by omega)
  | m + 1, a, b, h1, h2, h3, h4, h5 => by
    refine Hyp a b h2 h3 h4 (m + 1) E (fun e => ?_) (fun hb => ?_)
    · subst e
      exact h5 a (by simp) h3
    · obtain ⟨e1, e2, e3⟩ := euclid (a := a) hb
      refine whl_div Hyp m b _ (by omega) e2 h4 (h4.le (by omega)) fun x hx bx => h5 x (by rw [← e1]; exact hx) bx
def S_divisor : SP3 := fun ds G R _ => match ds with
  | [.int n, .int d] => 0 < d ∧ Bd n ∧ Bd d ∧ R (.int (Int.gcd n d : Nat)) G
  | _ => False
theorem ok_divisor (T : Tx K mg) : Good P w K mg base "divisor" ["one", "other"] 1 S_divisor := by
  refine good_of (d_divisor T) sc_divisor fun f cd A outer s H E hp tk hgd hr => ⟨_, (s_cons (s_while hp (t_cmp (op_ne3 hr.units) lift_ne (c_var 1) c_int) (s_one (s_par 0 1 rfl sc_divisor.nd rfl rfl (by decide) rfl rfl (a_cons (c_var 1) (a_cons (c_op op_sub lift_I2i (c_var 0) (c_op op_mul3 lift_mul (c_op op_fdivG lift_I2C (c_var 0) (c_var 1)) (c_var 1))) a_nil)) rfl)))
      (s_one (s_ret (c_callB call_abs lift_abs (n_abs T) (a_cons (c_var 0) a_nil))))), fun ds G R Ex hlen hS => ?_⟩
  clear hp tk hgd hr hlen
  match ds, hS with
  | [.int n, .int d], ⟨h1, h2, h3, h4⟩ =>
    rw [show start3 ["one", "other"] [.int n, .int d] = [some (.int n), some (.int d)] from rfl]
    simp only [wExpr, wRaise, gSb, wSeq, wNext, wRet, wRetN, wExpr, wIfS, wSet, wAsg, wPar, wAug, w1, w2, wA, aNil, aCons, wVar, wVarT, wC, tOfW, w3c, wAnd, wOr, wNot, tAnd3, tOr3, tNot3, wIf, wTup, wLst, wLstO, wCall, wSl, pNone, pSome, wipe3, List.map_cons, List.map_nil, fI2, fI2C, fI1, fAbs, addI, mulI, intI, eqS, neS, isN_, notN_, L3.isNon, gN, gsN, gsC, gT, asT, at3, List.set_cons_zero, List.set_cons_succ, Option.some.injEq, exists_eq_left', D.bl.injEq, D.int.injEq, D.tup.injEq, List.length_cons, List.length_nil, Nat.reduceAdd, true_and, if_true, if_false, Bool.false_eq_true, reduceIte, ite_true, ite_false, len_t0, len_t1, len_t2, len_t3, len_l0, len_l1, eqI, neI, Int.reduceBEq, Int.reduceLT, Int.reduceLE, Int.reduceNeg, decide_true, decide_false, Bool.not_true, Bool.not_false, ix0, ix1, ix2, and_true, and_self, wWhile]
    refine ⟨d.natAbs + 1, whl_div ?_ d.natAbs n d (Nat.le_refl _) (by omega) h2 h3 fun x hx bx => ?_⟩
    · intro a b hb ha hB k E he hg
      simp only [whl, wExpr, wRaise, gSb, wSeq, wNext, wRet, wRetN, wExpr, wIfS, wSet, wAsg, wPar, wAug, w1, w2, wA, aNil, aCons, wVar, wVarT, wC, tOfW, w3c, wAnd, wOr, wNot, tAnd3, tOr3, tNot3, wIf, wTup, wLst, wLstO, wCall, wSl, pNone, pSome, wipe3, List.map_cons, List.map_nil, fI2, fI2C, fI1, fAbs, addI, mulI, intI, eqS, neS, isN_, notN_, L3.isNon, gN, gsN, gsC, gT, asT, at3, List.set_cons_zero, List.set_cons_succ, Option.some.injEq, exists_eq_left', D.bl.injEq, D.int.injEq, D.tup.injEq, List.length_cons, List.length_nil, Nat.reduceAdd, true_and, if_true, if_false, Bool.false_eq_true, reduceIte, ite_true, ite_false, len_t0, len_t1, len_t2, len_t3, len_l0, len_l1, eqI, neI, Int.reduceBEq, Int.reduceLT, Int.reduceLE, Int.reduceNeg, decide_true, decide_false, Bool.not_true, Bool.not_false, ix0, ix1, ix2, and_true, and_self]
      by_cases z : b = 0
      · subst z
        simpa using he rfl
      · have zb : (b == 0) = false := by simpa using z
        simp only [zb, Bool.not_false, if_true]
        have hb' : 0 < b := by omega
        refine ⟨hB.div z, ?_, hg hb'⟩
        obtain ⟨_, e2, e3⟩ := euclid (a := a) hb'
        refine MulC.w ?_
        have q : (a.fdiv b).natAbs ≤ a.natAbs + 1 := by
          rw [Int.fdiv_eq_ediv_of_nonneg a hb]
          have := Int.natAbs_ediv_le_natAbs a b
          omega
        have l1 := ha.log
        have l2 := hB.log
        have l3 : (a.fdiv b).natAbs.log2 ≤ 8001 := by
          by_cases z2 : (a.fdiv b).natAbs = 0
          · rw [z2]; decide
          · have : (a.fdiv b).natAbs < 2 ^ 8001 := by
              have : a.natAbs < 2 ^ 8000 := ha
              have p1 : (2 : Nat) ^ 8001 = 2 * 2 ^ 8000 := by rw [Nat.pow_succ, Nat.mul_comm]
              have p2 : 0 < (2 : Nat) ^ 2000 := Nat.pow_pos (by decide)
              rw [p1]
              generalize (2 : Nat) ^ 2000 = B at *
              omega
            have := (Nat.log2_lt z2).mpr this
            omega
        omega
    · have e : (if x < 0 then -x else x) = ((Int.gcd n d : Nat) : Int) := by
        rw [← hx]
        split <;> omega
      simp only [wExpr, wRaise, gSb, wSeq, wNext, wRet, wRetN, wExpr, wIfS, wSet, wAsg, wPar, wAug, w1, w2, wA, aNil, aCons, wVar, wVarT, wC, tOfW, w3c, wAnd, wOr, wNot, tAnd3, tOr3, tNot3, wIf, wTup, wLst, wLstO, wCall, wSl, pNone, pSome, wipe3, List.map_cons, List.map_nil, fI2, fI2C, fI1, fAbs, addI, mulI, intI, eqS, neS, isN_, notN_, L3.isNon, gN, gsN, gsC, gT, asT, at3, List.set_cons_zero, List.set_cons_succ, Option.some.injEq, exists_eq_left', D.bl.injEq, D.int.injEq, D.tup.injEq, List.length_cons, List.length_nil, Nat.reduceAdd, true_and, if_true, if_false, Bool.false_eq_true, reduceIte, ite_true, ite_false, len_t0, len_t1, len_t2, len_t3, len_l0, len_l1, eqI, neI, Int.reduceBEq, Int.reduceLT, Int.reduceLE, Int.reduceNeg, decide_true, decide_false, Bool.not_true, Bool.not_false, ix0, ix1, ix2, and_true, and_self, e]
      exact h4
end

end K01

set_option Elab.async false
set_option linter.all false
set_option maxRecDepth 100000
set_option maxHeartbeats 0
namespace K01
open PySem PySem.Spec L2 L3
open PyProof.Rows hiding St
section
variable {P : Program} {w : World} {K : PySem.W.Frag} {mg : Str → Option Value} {base : Heap}
def S_fraction : SP3 := fun ds G R _ => match ds with
  | [.int n, .int d] => 0 < d ∧ Bd n ∧ Bd d ∧ R (frD n d) G
  | _ => False
theorem ok_fraction (T : Tx K mg) : Good P w K mg base "fraction" ["n", "d"] 2 S_fraction := by
  have g_divisor := ok_divisor (P := P) (w := w) (base := base) T
  refine good_of (d_fraction T) sc_fraction fun f cd A outer s H E hp tk hgd hr => ⟨_, (s_cons (s_if (t_cmp (op_eq3 hr.units) lift_eq (c_var 1) c_int) (s_one (s_ret (c_tup (a_cons (c_var 0) (a_cons c_int a_nil))))) s_nil)
      (s_cons (s_set 2 sc_fraction.nd rfl (.inl rfl) rfl (c_call g_divisor (hr.mono (by omega)) hgd tk (a_cons (c_var 0) (a_cons (c_var 1) a_nil))))
      (s_cons (s_if (t_cmp op_lt lift_I2b (c_var 1) c_int) (s_one (s_set 2 sc_fraction.nd rfl (.inl rfl) rfl (c_un un_neg lift_I1 (c_var 2)))) s_nil)
      (s_one (s_ret (c_tup (a_cons (c_op op_fdivG lift_I2C (c_var 0) (c_var 2)) (a_cons (c_op op_fdivG lift_I2C (c_var 1) (c_var 2)) a_nil)))))))), fun ds G R Ex hlen hS => ?_⟩
  clear hp tk hgd hr hlen
  match ds, hS with
  | [.int n, .int d], ⟨h1, h2, h3, h4⟩ =>
    rw [show start3 ["n", "d", "common"] [.int n, .int d] = [some (.int n), some (.int d), none] from rfl]
    simp only [wExpr, wRaise, gSb, wSeq, wNext, wRet, wRetN, wExpr, wIfS, wSet, wAsg, wPar, wAug, w1, w2, wA, aNil, aCons, wVar, wVarT, wC, tOfW, w3c, wAnd, wOr, wNot, tAnd3, tOr3, tNot3, wIf, wTup, wLst, wLstO, wCall, wSl, pNone, pSome, wipe3, List.map_cons, List.map_nil, fI2, fI2C, fI1, fAbs, addI, mulI, intI, eqS, neS, isN_, notN_, L3.isNon, gN, gsN, gsC, gT, asT, at3, List.set_cons_zero, List.set_cons_succ, Option.some.injEq, exists_eq_left', D.bl.injEq, D.int.injEq, D.tup.injEq, List.length_cons, List.length_nil, Nat.reduceAdd, true_and, if_true, if_false, Bool.false_eq_true, reduceIte, ite_true, ite_false, len_t0, len_t1, len_t2, len_t3, len_l0, len_l1, eqI, neI, Int.reduceBEq, Int.reduceLT, Int.reduceLE, Int.reduceNeg, decide_true, decide_false, Bool.not_true, Bool.not_false, ix0, ix1, ix2, and_true, and_self, S_divisor]
    by_cases z : d = 1
    · subst z
      have e : frD n 1 = .tup [.int n, .int 1] := by
        unfold frD
        rw [red_one.1, red_one.2]
      rw [e] at h4
      simpa using ⟨sizeLine_eq ▸ (by decide), h4⟩
    · have zb : (d == 1) = false := by simpa using z
      have zn : decide (d < 0) = false := by simpa using Int.le_of_lt h1
      have gp := gcd_pos (n := n) h1
      have gb : Bd (Int.gcd n d : Nat) := by
        refine h3.le ?_
        have := Int.gcd_le_right n h1
        omega
      simp only [zb, Bool.false_eq_true, if_false, zn, h1, h2, h3, true_and]
      refine ⟨gb.div (by omega), gb.div (by omega), sizeLine_eq ▸ (by decide), ?_⟩
      rw [Int.fdiv_eq_ediv_of_nonneg _ (Int.le_of_lt gp), Int.fdiv_eq_ediv_of_nonneg _ (Int.le_of_lt gp)]
      exact h4
def fracAt (a b : D) : Bool := match a, b with
  | .int n, .int d => decide (1 ≤ d) && (Int.gcd n d == 1)
  | _, _ => false
def isFracD : D → Bool
  | .tup [a, b] => fracAt a b
  | _ => false
def S_is_fraction : SP3 := fun ds G R _ => match ds with
  | [x] => saneD x = true ∧ R (.bl (isFracD x)) G
  | _ => False
theorem ok_is_fraction (T : Tx K mg) : Good P w K mg base "is_fraction" ["thing"] 2 S_is_fraction := by
  have g_is_int := ok_is_int (P := P) (w := w) (base := base) T
  have g_divisor := ok_divisor (P := P) (w := w) (base := base) T
  refine good_of (d_is_fraction T) sc_is_fraction fun f cd A outer s H E hp tk hgd hr => ⟨_, (s_cons (s_if (t_w (o_or (t_not (t_val (c_callB call_isi3 lift_isi (n_isinstance T) (a_cons (c_var 0) (a_cons (c_bltn (n := "tuple") (n_tuple T)) a_nil))))) (o_or (t_cmp (op_ne3 hr.units) lift_ne (c_callB call_len lift_len (n_len T) (a_cons (c_var 0) a_nil)) c_int) (o_or (t_not (t_val (c_call g_is_int (hr.mono (by omega)) hgd tk (a_cons (c_ix (c_var 0) c_int) a_nil)))) (o_or1 (t_not (t_val (c_call g_is_int (hr.mono (by omega)) hgd tk (a_cons (c_ix (c_var 0) c_int) a_nil))))))))) (s_one (s_ret c_bl)) s_nil)
      (s_one (s_ret (c_and (c_cmp op_ge lift_I2b (c_ix (c_var 0) c_int) c_int) (c_one (c_cmp (op_eq3 hr.units) lift_eq (c_call g_divisor (hr.mono (by omega)) hgd tk (a_cons (c_ix (c_var 0) c_int) (a_cons (c_ix (c_var 0) c_int) a_nil))) c_int)))))), fun ds G R Ex hlen hS => ?_⟩
  clear hp tk hgd hr hlen
  match ds, hS with
  | [x], ⟨h1, h2⟩ =>
    rw [show start3 ["thing"] [x] = [some (x)] from rfl]
    have hr := sane_rd x h1
    simp only [wExpr, wRaise, gSb, wSeq, wNext, wRet, wRetN, wExpr, wIfS, wSet, wAsg, wPar, wAug, w1, w2, wA, aNil, aCons, wVar, wVarT, wC, tOfW, w3c, wAnd, wOr, wNot, tAnd3, tOr3, tNot3, wIf, wTup, wLst, wLstO, wCall, wSl, pNone, pSome, wipe3, List.map_cons, List.map_nil, fI2, fI2C, fI1, fAbs, addI, mulI, intI, eqS, neS, isN_, notN_, L3.isNon, gN, gsN, gsC, gT, asT, at3, List.set_cons_zero, List.set_cons_succ, Option.some.injEq, exists_eq_left', D.bl.injEq, D.int.injEq, D.tup.injEq, List.length_cons, List.length_nil, Nat.reduceAdd, true_and, if_true, if_false, Bool.false_eq_true, reduceIte, ite_true, ite_false, len_t0, len_t1, len_t2, len_t3, len_l0, len_l1, eqI, neI, Int.reduceBEq, Int.reduceLT, Int.reduceLE, Int.reduceNeg, decide_true, decide_false, Bool.not_true, Bool.not_false, ix0, ix1, ix2, and_true, and_self, S_is_int, S_divisor, isi_tup hr]
    cases x with
    | tup xs =>
      have hx := sane_tup h1
      simp only [wExpr, wRaise, gSb, wSeq, wNext, wRet, wRetN, wExpr, wIfS, wSet, wAsg, wPar, wAug, w1, w2, wA, aNil, aCons, wVar, wVarT, wC, tOfW, w3c, wAnd, wOr, wNot, tAnd3, tOr3, tNot3, wIf, wTup, wLst, wLstO, wCall, wSl, pNone, pSome, wipe3, List.map_cons, List.map_nil, fI2, fI2C, fI1, fAbs, addI, mulI, intI, eqS, neS, isN_, notN_, L3.isNon, gN, gsN, gsC, gT, asT, at3, List.set_cons_zero, List.set_cons_succ, Option.some.injEq, exists_eq_left', D.bl.injEq, D.int.injEq, D.tup.injEq, List.length_cons, List.length_nil, Nat.reduceAdd, true_and, if_true, if_false, Bool.false_eq_true, reduceIte, ite_true, ite_false, len_t0, len_t1, len_t2, len_t3, len_l0, len_l1, eqI, neI, Int.reduceBEq, Int.reduceLT, Int.reduceLE, Int.reduceNeg, decide_true, decide_false, Bool.not_true, Bool.not_false, ix0, ix1, ix2, and_true, and_self, isTupD, sane_rd]
      match xs, hx with
      | [], _ => (simp only [wExpr, wRaise, gSb, wSeq, wNext, wRet, wRetN, wExpr, wIfS, wSet, wAsg, wPar, wAug, w1, w2, wA, aNil, aCons, wVar, wVarT, wC, tOfW, w3c, wAnd, wOr, wNot, tAnd3, tOr3, tNot3, wIf, wTup, wLst, wLstO, wCall, wSl, pNone, pSome, wipe3, List.map_cons, List.map_nil, fI2, fI2C, fI1, fAbs, addI, mulI, intI, eqS, neS, isN_, notN_, L3.isNon, gN, gsN, gsC, gT, asT, at3, List.set_cons_zero, List.set_cons_succ, Option.some.injEq, exists_eq_left', D.bl.injEq, D.int.injEq, D.tup.injEq, List.length_cons, List.length_nil, Nat.reduceAdd, true_and, if_true, if_false, Bool.false_eq_true, reduceIte, ite_true, ite_false, len_t0, len_t1, len_t2, len_t3, len_l0, len_l1, eqI, neI, Int.reduceBEq, Int.reduceLT, Int.reduceLE, Int.reduceNeg, decide_true, decide_false, Bool.not_true, Bool.not_false, ix0, ix1, ix2, and_true, and_self]; exact h2)
      | [a], _ => (simp only [wExpr, wRaise, gSb, wSeq, wNext, wRet, wRetN, wExpr, wIfS, wSet, wAsg, wPar, wAug, w1, w2, wA, aNil, aCons, wVar, wVarT, wC, tOfW, w3c, wAnd, wOr, wNot, tAnd3, tOr3, tNot3, wIf, wTup, wLst, wLstO, wCall, wSl, pNone, pSome, wipe3, List.map_cons, List.map_nil, fI2, fI2C, fI1, fAbs, addI, mulI, intI, eqS, neS, isN_, notN_, L3.isNon, gN, gsN, gsC, gT, asT, at3, List.set_cons_zero, List.set_cons_succ, Option.some.injEq, exists_eq_left', D.bl.injEq, D.int.injEq, D.tup.injEq, List.length_cons, List.length_nil, Nat.reduceAdd, true_and, if_true, if_false, Bool.false_eq_true, reduceIte, ite_true, ite_false, len_t0, len_t1, len_t2, len_t3, len_l0, len_l1, eqI, neI, Int.reduceBEq, Int.reduceLT, Int.reduceLE, Int.reduceNeg, decide_true, decide_false, Bool.not_true, Bool.not_false, ix0, ix1, ix2, and_true, and_self]; exact h2)
      | [a, b], hx =>
        have ha := hx a (by simp)
        have hb := hx b (by simp)
        simp only [wExpr, wRaise, gSb, wSeq, wNext, wRet, wRetN, wExpr, wIfS, wSet, wAsg, wPar, wAug, w1, w2, wA, aNil, aCons, wVar, wVarT, wC, tOfW, w3c, wAnd, wOr, wNot, tAnd3, tOr3, tNot3, wIf, wTup, wLst, wLstO, wCall, wSl, pNone, pSome, wipe3, List.map_cons, List.map_nil, fI2, fI2C, fI1, fAbs, addI, mulI, intI, eqS, neS, isN_, notN_, L3.isNon, gN, gsN, gsC, gT, asT, at3, List.set_cons_zero, List.set_cons_succ, Option.some.injEq, exists_eq_left', D.bl.injEq, D.int.injEq, D.tup.injEq, List.length_cons, List.length_nil, Nat.reduceAdd, true_and, if_true, if_false, Bool.false_eq_true, reduceIte, ite_true, ite_false, len_t0, len_t1, len_t2, len_t3, len_l0, len_l1, eqI, neI, Int.reduceBEq, Int.reduceLT, Int.reduceLE, Int.reduceNeg, decide_true, decide_false, Bool.not_true, Bool.not_false, ix0, ix1, ix2, and_true, and_self, sane_rd a ha, sane_rd b hb]
        cases a with
        | int n =>
          cases b with
          | int d =>
            have bn := sane_int ha
            have bd := sane_int hb
            simp only [wExpr, wRaise, gSb, wSeq, wNext, wRet, wRetN, wExpr, wIfS, wSet, wAsg, wPar, wAug, w1, w2, wA, aNil, aCons, wVar, wVarT, wC, tOfW, w3c, wAnd, wOr, wNot, tAnd3, tOr3, tNot3, wIf, wTup, wLst, wLstO, wCall, wSl, pNone, pSome, wipe3, List.map_cons, List.map_nil, fI2, fI2C, fI1, fAbs, addI, mulI, intI, eqS, neS, isN_, notN_, L3.isNon, gN, gsN, gsC, gT, asT, at3, List.set_cons_zero, List.set_cons_succ, Option.some.injEq, exists_eq_left', D.bl.injEq, D.int.injEq, D.tup.injEq, List.length_cons, List.length_nil, Nat.reduceAdd, true_and, if_true, if_false, Bool.false_eq_true, reduceIte, ite_true, ite_false, len_t0, len_t1, len_t2, len_t3, len_l0, len_l1, eqI, neI, Int.reduceBEq, Int.reduceLT, Int.reduceLE, Int.reduceNeg, decide_true, decide_false, Bool.not_true, Bool.not_false, ix0, ix1, ix2, and_true, and_self, isIntD]
            simp only [isFracD, fracAt] at h2
            by_cases hd : 1 ≤ d
            · have hd' : 0 < d := by omega
              simp only [hd, decide_true, Bool.true_and] at h2
              simp only [hd, hd', Bd.small bn.1 bn.2, Bd.small bd.1 bd.2, true_and, if_true]
              have e : (((Int.gcd n d : Nat) : Int) == 1) = (Int.gcd n d == 1) := by
                rw [Bool.eq_iff_iff, beq_iff_eq, beq_iff_eq]
                omega
              rw [e]
              exact h2
            · simp only [hd, decide_false, Bool.false_and] at h2
              simp only [hd, wExpr, wRaise, gSb, wSeq, wNext, wRet, wRetN, wExpr, wIfS, wSet, wAsg, wPar, wAug, w1, w2, wA, aNil, aCons, wVar, wVarT, wC, tOfW, w3c, wAnd, wOr, wNot, tAnd3, tOr3, tNot3, wIf, wTup, wLst, wLstO, wCall, wSl, pNone, pSome, wipe3, List.map_cons, List.map_nil, fI2, fI2C, fI1, fAbs, addI, mulI, intI, eqS, neS, isN_, notN_, L3.isNon, gN, gsN, gsC, gT, asT, at3, List.set_cons_zero, List.set_cons_succ, Option.some.injEq, exists_eq_left', D.bl.injEq, D.int.injEq, D.tup.injEq, List.length_cons, List.length_nil, Nat.reduceAdd, true_and, if_true, if_false, Bool.false_eq_true, reduceIte, ite_true, ite_false, len_t0, len_t1, len_t2, len_t3, len_l0, len_l1, eqI, neI, Int.reduceBEq, Int.reduceLT, Int.reduceLE, Int.reduceNeg, decide_true, decide_false, Bool.not_true, Bool.not_false, ix0, ix1, ix2, and_true, and_self]
              exact h2
          | _ => (simp only [wExpr, wRaise, gSb, wSeq, wNext, wRet, wRetN, wExpr, wIfS, wSet, wAsg, wPar, wAug, w1, w2, wA, aNil, aCons, wVar, wVarT, wC, tOfW, w3c, wAnd, wOr, wNot, tAnd3, tOr3, tNot3, wIf, wTup, wLst, wLstO, wCall, wSl, pNone, pSome, wipe3, List.map_cons, List.map_nil, fI2, fI2C, fI1, fAbs, addI, mulI, intI, eqS, neS, isN_, notN_, L3.isNon, gN, gsN, gsC, gT, asT, at3, List.set_cons_zero, List.set_cons_succ, Option.some.injEq, exists_eq_left', D.bl.injEq, D.int.injEq, D.tup.injEq, List.length_cons, List.length_nil, Nat.reduceAdd, true_and, if_true, if_false, Bool.false_eq_true, reduceIte, ite_true, ite_false, len_t0, len_t1, len_t2, len_t3, len_l0, len_l1, eqI, neI, Int.reduceBEq, Int.reduceLT, Int.reduceLE, Int.reduceNeg, decide_true, decide_false, Bool.not_true, Bool.not_false, ix0, ix1, ix2, and_true, and_self, isIntD]; exact h2)
        | _ => (simp only [wExpr, wRaise, gSb, wSeq, wNext, wRet, wRetN, wExpr, wIfS, wSet, wAsg, wPar, wAug, w1, w2, wA, aNil, aCons, wVar, wVarT, wC, tOfW, w3c, wAnd, wOr, wNot, tAnd3, tOr3, tNot3, wIf, wTup, wLst, wLstO, wCall, wSl, pNone, pSome, wipe3, List.map_cons, List.map_nil, fI2, fI2C, fI1, fAbs, addI, mulI, intI, eqS, neS, isN_, notN_, L3.isNon, gN, gsN, gsC, gT, asT, at3, List.set_cons_zero, List.set_cons_succ, Option.some.injEq, exists_eq_left', D.bl.injEq, D.int.injEq, D.tup.injEq, List.length_cons, List.length_nil, Nat.reduceAdd, true_and, if_true, if_false, Bool.false_eq_true, reduceIte, ite_true, ite_false, len_t0, len_t1, len_t2, len_t3, len_l0, len_l1, eqI, neI, Int.reduceBEq, Int.reduceLT, Int.reduceLE, Int.reduceNeg, decide_true, decide_false, Bool.not_true, Bool.not_false, ix0, ix1, ix2, and_true, and_self, isIntD]; exact h2)
      | a :: b :: c :: r, _ => (simp only [wExpr, wRaise, gSb, wSeq, wNext, wRet, wRetN, wExpr, wIfS, wSet, wAsg, wPar, wAug, w1, w2, wA, aNil, aCons, wVar, wVarT, wC, tOfW, w3c, wAnd, wOr, wNot, tAnd3, tOr3, tNot3, wIf, wTup, wLst, wLstO, wCall, wSl, pNone, pSome, wipe3, List.map_cons, List.map_nil, fI2, fI2C, fI1, fAbs, addI, mulI, intI, eqS, neS, isN_, notN_, L3.isNon, gN, gsN, gsC, gT, asT, at3, List.set_cons_zero, List.set_cons_succ, Option.some.injEq, exists_eq_left', D.bl.injEq, D.int.injEq, D.tup.injEq, List.length_cons, List.length_nil, Nat.reduceAdd, true_and, if_true, if_false, Bool.false_eq_true, reduceIte, ite_true, ite_false, len_t0, len_t1, len_t2, len_t3, len_l0, len_l1, eqI, neI, Int.reduceBEq, Int.reduceLT, Int.reduceLE, Int.reduceNeg, decide_true, decide_false, Bool.not_true, Bool.not_false, ix0, ix1, ix2, and_true, and_self, len_tup, more2]; exact h2)
    | _ => exact h2
end

end K01

set_option Elab.async false
set_option linter.all false
set_option maxRecDepth 100000
set_option maxHeartbeats 0
namespace K01
open PySem PySem.Spec L2 L3
open PyProof.Rows hiding St

/-! ### sums of fractions -/
abbrev Fr := Int × Int
def frO (p : Fr) : D := .tup [.int p.1, .int p.2]
def addP (x y : Fr) : Fr := if x.2 = y.2 then (redN (x.1 + y.1) x.2, redD (x.1 + y.1) x.2) else (redN (x.1 * y.2 + y.1 * x.2) (x.2 * y.2), redD (x.1 * y.2 + y.1 * x.2) (x.2 * y.2))
def plusP (x y : Fr) : Fr := (redN (x.1 * y.2 + y.1 * x.2) (x.2 * y.2), redD (x.1 * y.2 + y.1 * x.2) (x.2 * y.2))
def addU (x y : Fr) : Fr := (x.1 * y.2 + y.1 * x.2, x.2 * y.2)
/-- the same number -/
def Eqv (x y : Fr) : Prop := Rt x.1 x.2 y.1 y.2
theorem addP_u {x y u : Fr} (h : Eqv x u) (hy : 0 < y.2) : Eqv (addP x y) (addU u y) := by
  obtain ⟨a, b⟩ := x
  obtain ⟨c, e⟩ := y
  obtain ⟨n, m⟩ := u
  obtain ⟨h1, h2, h3⟩ := h
  simp only at h1 h2 h3 hy
  unfold addP Eqv addU
  simp only
  split
  · rename_i z
    subst z
    obtain ⟨r1, r2, r3⟩ := red_rt (n := a + c) h1
    refine ⟨r1, Int.mul_pos h2 h1, ?_⟩
    generalize redN (a + c) b = p at *
    generalize redD (a + c) b = q at *
    refine Int.eq_of_mul_eq_mul_left (show b ≠ 0 by omega) ?_
    grind
  · obtain ⟨r1, r2, r3⟩ := red_rt (n := a * e + c * b) (Int.mul_pos h1 hy)
    refine ⟨r1, Int.mul_pos h2 hy, ?_⟩
    generalize redN (a * e + c * b) (b * e) = p at *
    generalize redD (a * e + c * b) (b * e) = q at *
    refine Int.eq_of_mul_eq_mul_left (show b ≠ 0 by omega) ?_
    grind
theorem plusP_u {x y u : Fr} (h : Eqv x u) (hy : 0 < y.2) : Eqv (plusP x y) (addU u y) := by
  obtain ⟨a, b⟩ := x
  obtain ⟨c, e⟩ := y
  obtain ⟨n, m⟩ := u
  obtain ⟨h1, h2, h3⟩ := h
  simp only at h1 h2 h3 hy
  unfold plusP Eqv addU
  simp only
  obtain ⟨r1, r2, r3⟩ := red_rt (n := a * e + c * b) (Int.mul_pos h1 hy)
  refine ⟨r1, Int.mul_pos h2 hy, ?_⟩
  generalize redN (a * e + c * b) (b * e) = p at *
  generalize redD (a * e + c * b) (b * e) = q at *
  refine Int.eq_of_mul_eq_mul_left (show b ≠ 0 by omega) ?_
  grind
theorem Eqv.refl {x : Fr} (h : 0 < x.2) : Eqv x x := ⟨h, h, rfl⟩
theorem Eqv.lt {x y : Fr} (h : Eqv x y) : (x.2 < x.1) ↔ (y.2 < y.1) := by
  obtain ⟨h1, h2, h3⟩ := h
  constructor
  · intro q
    have e1 : x.2 * y.2 < x.1 * y.2 := Int.mul_lt_mul_of_pos_right q h2
    rw [h3, Int.mul_comm x.2] at e1
    exact Int.lt_of_mul_lt_mul_right e1 (Int.le_of_lt h1)
  · intro q
    have e1 : y.2 * x.2 < y.1 * x.2 := Int.mul_lt_mul_of_pos_right q h1
    rw [← h3, Int.mul_comm y.2] at e1
    exact Int.lt_of_mul_lt_mul_right e1 (Int.le_of_lt h2)
theorem Eqv.gt {x y : Fr} (h : Eqv x y) : (x.1 < x.2) ↔ (y.1 < y.2) := by
  obtain ⟨h1, h2, h3⟩ := h
  constructor
  · intro q
    have e1 : x.1 * y.2 < x.2 * y.2 := Int.mul_lt_mul_of_pos_right q h2
    rw [h3, Int.mul_comm x.2] at e1
    exact Int.lt_of_mul_lt_mul_right e1 (Int.le_of_lt h1)
  · intro q
    have e1 : y.1 * x.2 < y.2 * x.2 := Int.mul_lt_mul_of_pos_right q h1
    rw [← h3, Int.mul_comm y.2] at e1
    exact Int.lt_of_mul_lt_mul_right e1 (Int.le_of_lt h2)
theorem Eqv.nn {x y : Fr} (h : Eqv x y) : (0 ≤ x.1) ↔ (0 ≤ y.1) := by
  obtain ⟨h1, h2, h3⟩ := h
  constructor
  · intro q
    have e1 : 0 ≤ x.1 * y.2 := Int.mul_nonneg q (Int.le_of_lt h2)
    rw [h3] at e1
    rcases Int.lt_or_le y.1 0 with z | z
    · have := Int.mul_neg_of_neg_of_pos z h1
      omega
    · exact z
  · intro q
    have e1 : 0 ≤ y.1 * x.2 := Int.mul_nonneg q (Int.le_of_lt h1)
    rw [← h3] at e1
    rcases Int.lt_or_le x.1 0 with z | z
    · have := Int.mul_neg_of_neg_of_pos z h2
      omega
    · exact z
/-- small parts -/
def PtOk (p : Fr) : Prop := 0 < p.2 ∧ p.2 ≤ 1000 ∧ p.1.natAbs ≤ 1000
theorem PtOk.bd {p : Fr} (h : PtOk p) : Bd p.1 ∧ Bd p.2 := by
  obtain ⟨h1, h2, h3⟩ := h
  exact ⟨Bd.small (by omega) (by omega), Bd.small (by omega) (by omega)⟩
def tot (ps : List Fr) : Fr := ps.foldl addP (0, 1)
def totU (ps : List Fr) : Fr := ps.foldl addU (0, 1)
theorem fold_eqv (f : Fr → Fr → Fr) (hf : ∀ {x y u : Fr}, Eqv x u → 0 < y.2 → Eqv (f x y) (addU u y)) : ∀ (ps : List Fr) {x u : Fr}, Eqv x u → (∀ p ∈ ps, PtOk p) → Eqv (ps.foldl f x) (ps.foldl addU u)
  | [], _, _, h, _ => h
  | p :: ps, x, u, h, k => fold_eqv f hf ps (hf h (k p (by simp)).1) fun q hq => k q (by simp [hq])
theorem tot_u {ps : List Fr} (k : ∀ p ∈ ps, PtOk p) : Eqv (tot ps) (totU ps) := fold_eqv addP addP_u ps (Eqv.refl (by decide)) k
/-- how large it may be behind n parts -/
def Sz (n : Nat) (x : Fr) : Prop := 0 < x.2 ∧ x.2.natAbs ≤ 10000 ^ n ∧ x.1.natAbs ≤ 10000 ^ n
theorem Sz.bd {n : Nat} {x : Fr} (h : Sz n x) (hn : n ≤ 60) : Bd x.1 ∧ Bd x.2 := by
  have e : 10000 ^ n < 2 ^ 8000 := Nat.lt_of_le_of_lt (Nat.pow_le_pow_right (by decide) hn) (by
    have : 10000 ^ 60 < 2 ^ 840 := by decide +kernel
    exact Nat.lt_of_lt_of_le this (Nat.pow_le_pow_right (by decide) (by decide)))
  exact ⟨Nat.lt_of_le_of_lt h.2.2 e, Nat.lt_of_le_of_lt h.2.1 e⟩
theorem nat_mul_le {a b B C : Nat} (h : a ≤ B) (k : b ≤ C) : a * b ≤ B * C := Nat.mul_le_mul h k
theorem Sz.cross {n : Nat} {x y : Fr} (h : Sz n x) (k : PtOk y) : (x.1 * y.2 + y.1 * x.2).natAbs ≤ 10000 ^ (n + 1) ∧ (x.2 * y.2).natAbs ≤ 10000 ^ (n + 1) ∧ (x.1 + y.1).natAbs ≤ 10000 ^ (n + 1) ∧ (x.1 * y.2).natAbs ≤ 10000 ^ (n + 1) ∧ (y.1 * x.2).natAbs ≤ 10000 ^ (n + 1) := by
  obtain ⟨h1, h2, h3⟩ := h
  obtain ⟨k1, k2, k3⟩ := k
  have y2 : y.2.natAbs ≤ 1000 := by omega
  have p0 : 0 < 10000 ^ n := Nat.pow_pos (by decide)
  rw [Nat.pow_succ]
  have a1 := nat_mul_le h3 y2
  have a2 := nat_mul_le k3 h2
  have a3 := nat_mul_le h2 y2
  rw [← Int.natAbs_mul] at a1 a2 a3
  generalize 10000 ^ n = B at *
  generalize x.1 * y.2 = u at *
  generalize y.1 * x.2 = v at *
  generalize x.2 * y.2 = w at *
  omega
theorem addP_sz {n : Nat} {x y : Fr} (h : Sz n x) (k : PtOk y) : Sz (n + 1) (addP x y) := by
  obtain ⟨c1, c2, c3, _⟩ := h.cross k
  unfold addP
  split
  · have r := red_le (n := x.1 + y.1) h.1
    exact ⟨redD_pos h.1, Nat.le_trans r.2 (Nat.le_trans h.2.1 (Nat.pow_le_pow_right (by decide) (Nat.le_succ n))), Nat.le_trans r.1 c3⟩
  · have hp := Int.mul_pos h.1 k.1
    have r := red_le (n := x.1 * y.2 + y.1 * x.2) hp
    exact ⟨redD_pos hp, Nat.le_trans r.2 c2, Nat.le_trans r.1 c1⟩
theorem plusP_sz {n : Nat} {x y : Fr} (h : Sz n x) (k : PtOk y) : Sz (n + 1) (plusP x y) := by
  obtain ⟨c1, c2, c3, _⟩ := h.cross k
  have hp := Int.mul_pos h.1 k.1
  have r := red_le (n := x.1 * y.2 + y.1 * x.2) hp
  exact ⟨redD_pos hp, Nat.le_trans r.2 c2, Nat.le_trans r.1 c1⟩

/-! ### recipes -/
def intOf : D → Int
  | .int i => i
  | _ => 0
def nmD : D → Int
  | .tup [a, _] => intOf a
  | _ => 0
def dnD : D → Int
  | .tup [_, b] => intOf b
  | _ => 0
def ptD (x : D) : Fr := (nmD x, dnD x)
def isShareD (x : D) : Bool := isFracD x && (decide (0 ≤ nmD x) && decide (nmD x ≤ dnD x))
def isBndD (x : D) : Bool := isShareD x && decide (dnD x ≤ 1000)
def third : List D → D
  | [_, _, t] => t
  | _ => .non
def lowD : D → D
  | .tup (a :: _) => a
  | _ => .non
def highD : D → D
  | .tup (_ :: b :: _) => b
  | _ => .non
def partAt (a b : D) : Bool := isBndD a && isBndD b && decide (nmD a * dnD b ≤ nmD b * dnD a)
def partOk : D → Bool
  | .tup [a, b, _] => partAt a b
  | _ => false
def sumsOk (xs : List D) : Bool := (let l := totU (xs.map fun x => ptD (lowD x)); decide (l.1 ≤ l.2)) && (let h := totU (xs.map fun x => ptD (highD x)); decide (h.2 ≤ h.1))
def fitLen (n : Nat) : Bool := decide (1 ≤ n) && decide (n ≤ 8)
mutual
/-- depth and bins, as the law looks -/
def lk : D → Option (Nat × List Int)
  | .int i => if 0 ≤ i ∧ i ≤ 7 then some (0, [i]) else none
  | .tup xs => if (fitLen xs.length && xs.all partOk && sumsOk xs) = true then (lkL xs).map fun p => (p.1 + 1, p.2) else none
  | _ => none
def lkL : List D → Option (Nat × List Int)
  | [] => some (0, [])
  | x :: xs => match lkP x, lkL xs with
    | some (d, l), some (e, m) => some (max d e, l ++ m)
    | _, _ => none
def lkP : D → Option (Nat × List Int)
  | .tup ys => lkT ys
  | _ => none
def lkT : List D → Option (Nat × List Int)
  | [] => none
  | [_] => none
  | [_, _] => none
  | [_, _, t] => lk t
  | _ => none
end

end K01

set_option Elab.async false
set_option linter.all false
set_option maxRecDepth 100000
set_option maxHeartbeats 0
namespace K01
open PySem PySem.Spec L2 L3
open PyProof.Rows hiding St
section
variable {P : Program} {w : World} {K : PySem.W.Frag} {mg : Str → Option Value} {base : Heap}
theorem Bd.pow {i : Int} {n : Nat} (h : i.natAbs ≤ 10000 ^ n) (hn : n ≤ 60) : Bd i := (Sz.bd (n := n) (x := (i, 1)) ⟨show (0 : Int) < 1 by decide, Nat.one_le_iff_ne_zero.mpr (Nat.pos_iff_ne_zero.mp (Nat.pow_pos (by decide))), h⟩ hn).1
def S_add : SP3 := fun ds G R _ => match ds with
  | [x, y] => ∃ (p q : Fr) (n : Nat), x = frO p ∧ y = frO q ∧ n ≤ 50 ∧ Sz n p ∧ PtOk q ∧ R (frO (addP p q)) G
  | _ => False
theorem ok_add (T : Tx K mg) : Good P w K mg base "add" ["one", "other"] 3 S_add := by
  have g_fraction := ok_fraction (P := P) (w := w) (base := base) T
  refine good_of (d_add T) sc_add fun f cd A outer s H E hp tk hgd hr => ⟨_, (s_cons (s_if (t_cmp (op_eq3 hr.units) lift_eq (c_ix (c_var 0) c_int) (c_ix (c_var 1) c_int)) (s_one (s_ret (c_call g_fraction (hr.mono (by omega)) hgd tk (a_cons (c_op op_add3 lift_add (c_ix (c_var 0) c_int) (c_ix (c_var 1) c_int)) (a_cons (c_ix (c_var 0) c_int) a_nil))))) s_nil)
      (s_one (s_ret (c_call g_fraction (hr.mono (by omega)) hgd tk (a_cons (c_op op_add3 lift_add (c_op op_mul3 lift_mul (c_ix (c_var 0) c_int) (c_ix (c_var 1) c_int)) (c_op op_mul3 lift_mul (c_ix (c_var 1) c_int) (c_ix (c_var 0) c_int))) (a_cons (c_op op_mul3 lift_mul (c_ix (c_var 0) c_int) (c_ix (c_var 1) c_int)) a_nil)))))), fun ds G R Ex hlen hS => ?_⟩
  clear hp tk hgd hr hlen
  match ds, hS with
  | [x, y], ⟨p, q, n, e1, e2, hn, hp, hq, h⟩ =>
    subst e1 e2
    rw [show start3 ["one", "other"] [frO p, frO q] = [some (frO p), some (frO q)] from rfl]
    obtain ⟨a, b⟩ := p
    obtain ⟨c, e⟩ := q
    obtain ⟨c1, c2, c3, c4, c5⟩ := hp.cross hq
    have bp := hp.bd (by omega)
    have bq : Bd c ∧ Bd e := by
      obtain ⟨k1, k2, k3⟩ := hq
      simp only at k1 k2 k3
      exact ⟨Bd.small (by omega) (by omega), Bd.small (by omega) (by omega)⟩
    have hb : 0 < b := hp.1
    have he : 0 < e := hq.1
    simp only [wExpr, wRaise, gSb, wSeq, wNext, wRet, wRetN, wExpr, wIfS, wSet, wAsg, wPar, wAug, w1, w2, wA, aNil, aCons, wVar, wVarT, wC, tOfW, w3c, wAnd, wOr, wNot, tAnd3, tOr3, tNot3, wIf, wTup, wLst, wLstO, wCall, wSl, pNone, pSome, wipe3, List.map_cons, List.map_nil, fI2, fI2C, fI1, fAbs, addI, mulI, intI, eqS, neS, isN_, notN_, L3.isNon, gN, gsN, gsC, gT, asT, at3, List.set_cons_zero, List.set_cons_succ, Option.some.injEq, exists_eq_left', D.bl.injEq, D.int.injEq, D.tup.injEq, List.length_cons, List.length_nil, Nat.reduceAdd, true_and, if_true, if_false, Bool.false_eq_true, reduceIte, ite_true, ite_false, len_t0, len_t1, len_t2, len_t3, len_l0, len_l1, eqI, neI, Int.reduceBEq, Int.reduceLT, Int.reduceLE, Int.reduceNeg, decide_true, decide_false, Bool.not_true, Bool.not_false, ix0, ix1, ix2, and_true, and_self, frO, S_fraction, fMul, fAdd]
    unfold addP at h
    simp only [frO] at h
    by_cases z : b = e
    · subst z
      simp only [beq_self_eq_true, if_true]
      simp only [if_true] at h
      exact ⟨hb, Bd.pow c3 (by omega), bp.2, h⟩
    · have zb : (b == e) = false := by simpa using z
      simp only [zb, Bool.false_eq_true, if_false]
      rw [if_neg z] at h
      exact ⟨bp.1.mul bq.2, bq.1.mul bp.2, bp.2.mul bq.2, Int.mul_pos hb he, Bd.pow c1 (by omega), Bd.pow c2 (by omega), h⟩
def S_is_less : SP3 := fun ds G R _ => match ds with
  | [x, y] => ∃ p q : Fr, x = frO p ∧ y = frO q ∧ Bd p.1 ∧ Bd p.2 ∧ Bd q.1 ∧ Bd q.2 ∧ R (.bl (decide (p.1 * q.2 < q.1 * p.2))) G
  | _ => False
theorem ok_is_less (T : Tx K mg) : Good P w K mg base "is_less" ["one", "other"] 1 S_is_less := by
  refine good_of (d_is_less T) sc_is_less fun f cd A outer s H E hp tk hgd hr => ⟨_, (s_one (s_ret (c_cmp op_lt lift_I2b (c_op op_mul3 lift_mul (c_ix (c_var 0) c_int) (c_ix (c_var 1) c_int)) (c_op op_mul3 lift_mul (c_ix (c_var 1) c_int) (c_ix (c_var 0) c_int))))), fun ds G R Ex hlen hS => ?_⟩
  clear hp tk hgd hr hlen
  match ds, hS with
  | [x, y], ⟨p, q, e1, e2, h1, h2, h3, h4, h⟩ =>
    subst e1 e2
    rw [show start3 ["one", "other"] [frO p, frO q] = [some (frO p), some (frO q)] from rfl]
    simp only [wExpr, wRaise, gSb, wSeq, wNext, wRet, wRetN, wExpr, wIfS, wSet, wAsg, wPar, wAug, w1, w2, wA, aNil, aCons, wVar, wVarT, wC, tOfW, w3c, wAnd, wOr, wNot, tAnd3, tOr3, tNot3, wIf, wTup, wLst, wLstO, wCall, wSl, pNone, pSome, wipe3, List.map_cons, List.map_nil, fI2, fI2C, fI1, fAbs, addI, mulI, intI, eqS, neS, isN_, notN_, L3.isNon, gN, gsN, gsC, gT, asT, at3, List.set_cons_zero, List.set_cons_succ, Option.some.injEq, exists_eq_left', D.bl.injEq, D.int.injEq, D.tup.injEq, List.length_cons, List.length_nil, Nat.reduceAdd, true_and, if_true, if_false, Bool.false_eq_true, reduceIte, ite_true, ite_false, len_t0, len_t1, len_t2, len_t3, len_l0, len_l1, eqI, neI, Int.reduceBEq, Int.reduceLT, Int.reduceLE, Int.reduceNeg, decide_true, decide_false, Bool.not_true, Bool.not_false, ix0, ix1, ix2, and_true, and_self, frO, fMul]
    exact ⟨h1.mul h4, h3.mul h2, h⟩
def S_total : SP3 := fun ds G R _ => match ds with
  | [x] => ∃ ps : List Fr, x = .lst (ps.map frO) ∧ ps.length ≤ 8 ∧ (∀ p ∈ ps, PtOk p) ∧ (Sz ps.length (tot ps) → R (frO (tot ps)) G)
  | _ => False
theorem lp_total {g : G3} {bb : S3} {E : E3} {G : GH} {v0 : Option D} (Hyp : ∀ (p x : Fr) (n : Nat) (u1 : Option D) (E : E3), n ≤ 50 → Sz n x → PtOk p → E.nx [v0, some (frO (addP x p)), some (frO p)] G → g (frO p) [v0, some (frO x), u1] G fun env1 G1 => bb E env1 G1) :
    ∀ (ps : List Fr) (x : Fr) (n : Nat) (u1 : Option D), n + ps.length ≤ 50 → Sz n x → (∀ p ∈ ps, PtOk p) → (∀ u2 : Option D, Sz (n + ps.length) (ps.foldl addP x) → E.nx [v0, some (frO (ps.foldl addP x)), u2] G) → lp (fun _ => True) g bb E (ps.map frO) [v0, some (frO x), u1] G
  | [], x, n, u1, _, hx, _, h => ⟨trivial, h u1 hx⟩
  | p :: ps, x, n, u1, hn, hx, hp, h => by
    rw [List.length_cons] at hn
    refine ⟨trivial, Hyp p x n u1 _ (by omega) hx (hp p (by simp)) ?_⟩
    refine lp_total Hyp ps (addP x p) (n + 1) _ (by omega) (addP_sz hx (hp p (by simp))) (fun q hq => hp q (by simp [hq])) fun u2 hs => ?_
    refine h u2 ?_
    rw [List.length_cons, show n + (ps.length + 1) = n + 1 + ps.length by omega]
    exact hs
theorem ok_total (T : Tx K mg) : Good P w K mg base "total" ["parts"] 4 S_total := by
  have g_add := ok_add (P := P) (w := w) (base := base) T
  refine good_of (d_total T) sc_total fun f cd A outer s H E hp tk hgd hr => ⟨_, (s_cons (s_set 1 sc_total.nd rfl (.inl rfl) rfl (c_dat (v_ZERO T)))
      (s_cons (s_for hp rfl (i_lst (c_var 0)) (g_name 2 sc_total.nd rfl (.inl rfl)) (s_one (s_set 1 sc_total.nd rfl (.inl rfl) rfl (c_call g_add (hr.mono (by omega)) hgd tk (a_cons (c_var 1) (a_cons (c_var 2) a_nil))))))
      (s_one (s_ret (c_var 1))))), fun ds G R Ex hlen hS => ?_⟩
  clear hp tk hgd hr hlen
  match ds, hS with
  | [x], ⟨ps, e1, h1, h2, h⟩ =>
    subst e1
    rw [show start3 ["parts", "found", "part"] [.lst (ps.map frO)] = [some (.lst (ps.map frO)), none, none] from rfl]
    simp only [wExpr, wRaise, gSb, wSeq, wNext, wRet, wRetN, wExpr, wIfS, wSet, wAsg, wPar, wAug, w1, w2, wA, aNil, aCons, wVar, wVarT, wC, tOfW, w3c, wAnd, wOr, wNot, tAnd3, tOr3, tNot3, wIf, wTup, wLst, wLstO, wCall, wSl, pNone, pSome, wipe3, List.map_cons, List.map_nil, fI2, fI2C, fI1, fAbs, addI, mulI, intI, eqS, neS, isN_, notN_, L3.isNon, gN, gsN, gsC, gT, asT, at3, List.set_cons_zero, List.set_cons_succ, Option.some.injEq, exists_eq_left', D.bl.injEq, D.int.injEq, D.tup.injEq, List.length_cons, List.length_nil, Nat.reduceAdd, true_and, if_true, if_false, Bool.false_eq_true, reduceIte, ite_true, ite_false, len_t0, len_t1, len_t2, len_t3, len_l0, len_l1, eqI, neI, Int.reduceBEq, Int.reduceLT, Int.reduceLE, Int.reduceNeg, decide_true, decide_false, Bool.not_true, Bool.not_false, ix0, ix1, ix2, and_true, and_self, wFor, iLst, asL, stL]
    refine lp_total (v0 := some (.lst (ps.map frO))) ?_ ps (0, 1) 0 none (by omega) ⟨by decide, by decide, by decide⟩ h2 fun u2 hs => ?_
    · intro p x n u1 E hn hx hp hE
      simp only [wExpr, wRaise, gSb, wSeq, wNext, wRet, wRetN, wExpr, wIfS, wSet, wAsg, wPar, wAug, w1, w2, wA, aNil, aCons, wVar, wVarT, wC, tOfW, w3c, wAnd, wOr, wNot, tAnd3, tOr3, tNot3, wIf, wTup, wLst, wLstO, wCall, wSl, pNone, pSome, wipe3, List.map_cons, List.map_nil, fI2, fI2C, fI1, fAbs, addI, mulI, intI, eqS, neS, isN_, notN_, L3.isNon, gN, gsN, gsC, gT, asT, at3, List.set_cons_zero, List.set_cons_succ, Option.some.injEq, exists_eq_left', D.bl.injEq, D.int.injEq, D.tup.injEq, List.length_cons, List.length_nil, Nat.reduceAdd, true_and, if_true, if_false, Bool.false_eq_true, reduceIte, ite_true, ite_false, len_t0, len_t1, len_t2, len_t3, len_l0, len_l1, eqI, neI, Int.reduceBEq, Int.reduceLT, Int.reduceLE, Int.reduceNeg, decide_true, decide_false, Bool.not_true, Bool.not_false, ix0, ix1, ix2, and_true, and_self, S_add]
      exact ⟨x, p, n, rfl, rfl, hn, hx, hp, hE⟩
    · simp only [wExpr, wRaise, gSb, wSeq, wNext, wRet, wRetN, wExpr, wIfS, wSet, wAsg, wPar, wAug, w1, w2, wA, aNil, aCons, wVar, wVarT, wC, tOfW, w3c, wAnd, wOr, wNot, tAnd3, tOr3, tNot3, wIf, wTup, wLst, wLstO, wCall, wSl, pNone, pSome, wipe3, List.map_cons, List.map_nil, fI2, fI2C, fI1, fAbs, addI, mulI, intI, eqS, neS, isN_, notN_, L3.isNon, gN, gsN, gsC, gT, asT, at3, List.set_cons_zero, List.set_cons_succ, Option.some.injEq, exists_eq_left', D.bl.injEq, D.int.injEq, D.tup.injEq, List.length_cons, List.length_nil, Nat.reduceAdd, true_and, if_true, if_false, Bool.false_eq_true, reduceIte, ite_true, ite_false, len_t0, len_t1, len_t2, len_t3, len_l0, len_l1, eqI, neI, Int.reduceBEq, Int.reduceLT, Int.reduceLE, Int.reduceNeg, decide_true, decide_false, Bool.not_true, Bool.not_false, ix0, ix1, ix2, and_true, and_self]
      rw [Nat.zero_add] at hs
      exact h hs
end

end K01

set_option Elab.async false
set_option linter.all false
set_option maxRecDepth 100000
set_option maxHeartbeats 0
namespace K01
open PySem PySem.Spec L2 L3
open PyProof.Rows hiding St
theorem frac_cases {x : D} (h : isFracD x = true) : ∃ n d : Int, x = .tup [.int n, .int d] ∧ 1 ≤ d ∧ nmD x = n ∧ dnD x = d := by
  match x, h with
  | .tup [a, b], h =>
    have h' : fracAt a b = true := h
    unfold fracAt at h'
    split at h'
    · rename_i n d
      rw [Bool.and_eq_true, decide_eq_true_eq] at h'
      exact ⟨n, d, rfl, h'.1, rfl, rfl⟩
    · cases h'
theorem bnd_cases {x : D} (h : isBndD x = true) : ∃ n d : Int, x = .tup [.int n, .int d] ∧ 1 ≤ d ∧ 0 ≤ n ∧ n ≤ d ∧ d ≤ 1000 ∧ nmD x = n ∧ dnD x = d := by
  unfold isBndD isShareD at h
  simp only [Bool.and_eq_true, decide_eq_true_eq] at h
  obtain ⟨⟨h1, h2, h3⟩, h4⟩ := h
  obtain ⟨n, d, e, k1, k2, k3⟩ := frac_cases h1
  rw [k2] at h2 h3
  rw [k3] at h3 h4
  exact ⟨n, d, e, k1, h2, h3, h4, k2, k3⟩
theorem bnd_pt {x : D} (h : isBndD x = true) : x = frO (ptD x) ∧ PtOk (ptD x) := by
  obtain ⟨n, d, e, k1, k2, k3, k4, k5, k6⟩ := bnd_cases h
  subst e
  exact ⟨rfl, by show (0 : Int) < d; omega, k4, by show n.natAbs ≤ 1000; omega⟩
section
variable {P : Program} {w : World} {K : PySem.W.Frag} {mg : Str → Option Value} {base : Heap}
def S_is_share : SP3 := fun ds G R _ => match ds with
  | [x] => saneD x = true ∧ R (.bl (isShareD x)) G
  | _ => False
theorem ok_is_share (T : Tx K mg) : Good P w K mg base "is_share" ["thing"] 3 S_is_share := by
  have g_is_fraction := ok_is_fraction (P := P) (w := w) (base := base) T
  refine good_of (d_is_share T) sc_is_share fun f cd A outer s H E hp tk hgd hr => ⟨_, (s_one (s_ret (c_and (c_call g_is_fraction (hr.mono (by omega)) hgd tk (a_cons (c_var 0) a_nil)) (c_one (c_chain op_le lift_I2b op_le lift_I2b c_int (c_ix (c_var 0) c_int) (c_ix (c_var 0) c_int)))))), fun ds G R Ex hlen hS => ?_⟩
  clear hp tk hgd hr hlen
  match ds, hS with
  | [x], ⟨h1, h2⟩ =>
    rw [show start3 ["thing"] [x] = [some (x)] from rfl]
    simp only [wExpr, wRaise, gSb, wSeq, wNext, wRet, wRetN, wExpr, wIfS, wSet, wAsg, wPar, wAug, w1, w2, wA, aNil, aCons, wVar, wVarT, wC, tOfW, w3c, wAnd, wOr, wNot, tAnd3, tOr3, tNot3, wIf, wTup, wLst, wLstO, wCall, wSl, pNone, pSome, wipe3, List.map_cons, List.map_nil, fI2, fI2C, fI1, fAbs, addI, mulI, intI, eqS, neS, isN_, notN_, L3.isNon, gN, gsN, gsC, gT, asT, at3, List.set_cons_zero, List.set_cons_succ, Option.some.injEq, exists_eq_left', D.bl.injEq, D.int.injEq, D.tup.injEq, List.length_cons, List.length_nil, Nat.reduceAdd, true_and, if_true, if_false, Bool.false_eq_true, reduceIte, ite_true, ite_false, len_t0, len_t1, len_t2, len_t3, len_l0, len_l1, eqI, neI, Int.reduceBEq, Int.reduceLT, Int.reduceLE, Int.reduceNeg, decide_true, decide_false, Bool.not_true, Bool.not_false, ix0, ix1, ix2, and_true, and_self, S_is_fraction, h1]
    unfold isShareD at h2
    cases hf : isFracD x with
    | false =>
      rw [hf] at h2
      exact h2
    | true =>
      rw [hf, Bool.true_and] at h2
      obtain ⟨n, d, e, k1, k2, k3⟩ := frac_cases hf
      rw [k2, k3] at h2
      subst e
      simp only [wExpr, wRaise, gSb, wSeq, wNext, wRet, wRetN, wExpr, wIfS, wSet, wAsg, wPar, wAug, w1, w2, wA, aNil, aCons, wVar, wVarT, wC, tOfW, w3c, wAnd, wOr, wNot, tAnd3, tOr3, tNot3, wIf, wTup, wLst, wLstO, wCall, wSl, pNone, pSome, wipe3, List.map_cons, List.map_nil, fI2, fI2C, fI1, fAbs, addI, mulI, intI, eqS, neS, isN_, notN_, L3.isNon, gN, gsN, gsC, gT, asT, at3, List.set_cons_zero, List.set_cons_succ, Option.some.injEq, exists_eq_left', D.bl.injEq, D.int.injEq, D.tup.injEq, List.length_cons, List.length_nil, Nat.reduceAdd, true_and, if_true, if_false, Bool.false_eq_true, reduceIte, ite_true, ite_false, len_t0, len_t1, len_t2, len_t3, len_l0, len_l1, eqI, neI, Int.reduceBEq, Int.reduceLT, Int.reduceLE, Int.reduceNeg, decide_true, decide_false, Bool.not_true, Bool.not_false, ix0, ix1, ix2, and_true, and_self]
      by_cases z : 0 ≤ n
      · simpa only [z, decide_true, Bool.true_and, if_true] using h2
      · simpa only [z, decide_false, Bool.false_and, wExpr, wRaise, gSb, wSeq, wNext, wRet, wRetN, wExpr, wIfS, wSet, wAsg, wPar, wAug, w1, w2, wA, aNil, aCons, wVar, wVarT, wC, tOfW, w3c, wAnd, wOr, wNot, tAnd3, tOr3, tNot3, wIf, wTup, wLst, wLstO, wCall, wSl, pNone, pSome, wipe3, List.map_cons, List.map_nil, fI2, fI2C, fI1, fAbs, addI, mulI, intI, eqS, neS, isN_, notN_, L3.isNon, gN, gsN, gsC, gT, asT, at3, List.set_cons_zero, List.set_cons_succ, Option.some.injEq, exists_eq_left', D.bl.injEq, D.int.injEq, D.tup.injEq, List.length_cons, List.length_nil, Nat.reduceAdd, true_and, if_true, if_false, Bool.false_eq_true, reduceIte, ite_true, ite_false, len_t0, len_t1, len_t2, len_t3, len_l0, len_l1, eqI, neI, Int.reduceBEq, Int.reduceLT, Int.reduceLE, Int.reduceNeg, decide_true, decide_false, Bool.not_true, Bool.not_false, ix0, ix1, ix2, and_true, and_self] using h2
def S_is_bound : SP3 := fun ds G R _ => match ds with
  | [x] => saneD x = true ∧ R (.bl (isBndD x)) G
  | _ => False
theorem ok_is_bound (T : Tx K mg) : Good P w K mg base "is_bound" ["thing"] 4 S_is_bound := by
  have g_is_share := ok_is_share (P := P) (w := w) (base := base) T
  refine good_of (d_is_bound T) sc_is_bound fun f cd A outer s H E hp tk hgd hr => ⟨_, (s_one (s_ret (c_and (c_call g_is_share (hr.mono (by omega)) hgd tk (a_cons (c_var 0) a_nil)) (c_one (c_cmp op_le lift_I2b (c_ix (c_var 0) c_int) (c_dat (v_MOST_UNDER T))))))), fun ds G R Ex hlen hS => ?_⟩
  clear hp tk hgd hr hlen
  match ds, hS with
  | [x], ⟨h1, h2⟩ =>
    rw [show start3 ["thing"] [x] = [some (x)] from rfl]
    simp only [wExpr, wRaise, gSb, wSeq, wNext, wRet, wRetN, wExpr, wIfS, wSet, wAsg, wPar, wAug, w1, w2, wA, aNil, aCons, wVar, wVarT, wC, tOfW, w3c, wAnd, wOr, wNot, tAnd3, tOr3, tNot3, wIf, wTup, wLst, wLstO, wCall, wSl, pNone, pSome, wipe3, List.map_cons, List.map_nil, fI2, fI2C, fI1, fAbs, addI, mulI, intI, eqS, neS, isN_, notN_, L3.isNon, gN, gsN, gsC, gT, asT, at3, List.set_cons_zero, List.set_cons_succ, Option.some.injEq, exists_eq_left', D.bl.injEq, D.int.injEq, D.tup.injEq, List.length_cons, List.length_nil, Nat.reduceAdd, true_and, if_true, if_false, Bool.false_eq_true, reduceIte, ite_true, ite_false, len_t0, len_t1, len_t2, len_t3, len_l0, len_l1, eqI, neI, Int.reduceBEq, Int.reduceLT, Int.reduceLE, Int.reduceNeg, decide_true, decide_false, Bool.not_true, Bool.not_false, ix0, ix1, ix2, and_true, and_self, S_is_share, h1]
    unfold isBndD at h2
    cases hf : isShareD x with
    | false =>
      rw [hf] at h2
      exact h2
    | true =>
      rw [hf, Bool.true_and] at h2
      have hf' := hf
      unfold isShareD at hf'
      rw [Bool.and_eq_true] at hf'
      obtain ⟨n, d, e, k1, k2, k3⟩ := frac_cases hf'.1
      rw [k3] at h2
      subst e
      simp only [wExpr, wRaise, gSb, wSeq, wNext, wRet, wRetN, wExpr, wIfS, wSet, wAsg, wPar, wAug, w1, w2, wA, aNil, aCons, wVar, wVarT, wC, tOfW, w3c, wAnd, wOr, wNot, tAnd3, tOr3, tNot3, wIf, wTup, wLst, wLstO, wCall, wSl, pNone, pSome, wipe3, List.map_cons, List.map_nil, fI2, fI2C, fI1, fAbs, addI, mulI, intI, eqS, neS, isN_, notN_, L3.isNon, gN, gsN, gsC, gT, asT, at3, List.set_cons_zero, List.set_cons_succ, Option.some.injEq, exists_eq_left', D.bl.injEq, D.int.injEq, D.tup.injEq, List.length_cons, List.length_nil, Nat.reduceAdd, true_and, if_true, if_false, Bool.false_eq_true, reduceIte, ite_true, ite_false, len_t0, len_t1, len_t2, len_t3, len_l0, len_l1, eqI, neI, Int.reduceBEq, Int.reduceLT, Int.reduceLE, Int.reduceNeg, decide_true, decide_false, Bool.not_true, Bool.not_false, ix0, ix1, ix2, and_true, and_self]
      exact h2
def S_part : SP3 := fun ds G R _ => match ds with
  | [x] => saneD x = true ∧ R (.bl (partOk x)) G
  | _ => False
theorem ok_part (T : Tx K mg) : Good P w K mg base "is_part_alone" ["thing"] 5 S_part := by
  have g_is_bound := ok_is_bound (P := P) (w := w) (base := base) T
  have g_is_less := ok_is_less (P := P) (w := w) (base := base) T
  refine good_of (d_is_part_alone T) sc_is_part_alone fun f cd A outer s H E hp tk hgd hr => ⟨_, (s_cons (s_if (t_w (o_or (t_not (t_val (c_callB call_isi3 lift_isi (n_isinstance T) (a_cons (c_var 0) (a_cons (c_bltn (n := "tuple") (n_tuple T)) a_nil))))) (o_or1 (t_cmp (op_ne3 hr.units) lift_ne (c_callB call_len lift_len (n_len T) (a_cons (c_var 0) a_nil)) c_int)))) (s_one (s_ret c_bl)) s_nil)
      (s_one (s_ret (c_and (c_call g_is_bound (hr.mono (by omega)) hgd tk (a_cons (c_ix (c_var 0) c_int) a_nil)) (c_and (c_call g_is_bound (hr.mono (by omega)) hgd tk (a_cons (c_ix (c_var 0) c_int) a_nil)) (c_one (c_not (c_call g_is_less (hr.mono (by omega)) hgd tk (a_cons (c_ix (c_var 0) c_int) (a_cons (c_ix (c_var 0) c_int) a_nil)))))))))), fun ds G R Ex hlen hS => ?_⟩
  clear hp tk hgd hr hlen
  match ds, hS with
  | [x], ⟨h1, h2⟩ =>
    rw [show start3 ["thing"] [x] = [some (x)] from rfl]
    have hr := sane_rd x h1
    simp only [wExpr, wRaise, gSb, wSeq, wNext, wRet, wRetN, wExpr, wIfS, wSet, wAsg, wPar, wAug, w1, w2, wA, aNil, aCons, wVar, wVarT, wC, tOfW, w3c, wAnd, wOr, wNot, tAnd3, tOr3, tNot3, wIf, wTup, wLst, wLstO, wCall, wSl, pNone, pSome, wipe3, List.map_cons, List.map_nil, fI2, fI2C, fI1, fAbs, addI, mulI, intI, eqS, neS, isN_, notN_, L3.isNon, gN, gsN, gsC, gT, asT, at3, List.set_cons_zero, List.set_cons_succ, Option.some.injEq, exists_eq_left', D.bl.injEq, D.int.injEq, D.tup.injEq, List.length_cons, List.length_nil, Nat.reduceAdd, true_and, if_true, if_false, Bool.false_eq_true, reduceIte, ite_true, ite_false, len_t0, len_t1, len_t2, len_t3, len_l0, len_l1, eqI, neI, Int.reduceBEq, Int.reduceLT, Int.reduceLE, Int.reduceNeg, decide_true, decide_false, Bool.not_true, Bool.not_false, ix0, ix1, ix2, and_true, and_self, S_is_bound, S_is_less, isi_tup hr]
    cases x with
    | tup xs =>
      have hx := sane_tup h1
      simp only [wExpr, wRaise, gSb, wSeq, wNext, wRet, wRetN, wExpr, wIfS, wSet, wAsg, wPar, wAug, w1, w2, wA, aNil, aCons, wVar, wVarT, wC, tOfW, w3c, wAnd, wOr, wNot, tAnd3, tOr3, tNot3, wIf, wTup, wLst, wLstO, wCall, wSl, pNone, pSome, wipe3, List.map_cons, List.map_nil, fI2, fI2C, fI1, fAbs, addI, mulI, intI, eqS, neS, isN_, notN_, L3.isNon, gN, gsN, gsC, gT, asT, at3, List.set_cons_zero, List.set_cons_succ, Option.some.injEq, exists_eq_left', D.bl.injEq, D.int.injEq, D.tup.injEq, List.length_cons, List.length_nil, Nat.reduceAdd, true_and, if_true, if_false, Bool.false_eq_true, reduceIte, ite_true, ite_false, len_t0, len_t1, len_t2, len_t3, len_l0, len_l1, eqI, neI, Int.reduceBEq, Int.reduceLT, Int.reduceLE, Int.reduceNeg, decide_true, decide_false, Bool.not_true, Bool.not_false, ix0, ix1, ix2, and_true, and_self, isTupD]
      match xs, hx with
      | [], _ => (simp only [wExpr, wRaise, gSb, wSeq, wNext, wRet, wRetN, wExpr, wIfS, wSet, wAsg, wPar, wAug, w1, w2, wA, aNil, aCons, wVar, wVarT, wC, tOfW, w3c, wAnd, wOr, wNot, tAnd3, tOr3, tNot3, wIf, wTup, wLst, wLstO, wCall, wSl, pNone, pSome, wipe3, List.map_cons, List.map_nil, fI2, fI2C, fI1, fAbs, addI, mulI, intI, eqS, neS, isN_, notN_, L3.isNon, gN, gsN, gsC, gT, asT, at3, List.set_cons_zero, List.set_cons_succ, Option.some.injEq, exists_eq_left', D.bl.injEq, D.int.injEq, D.tup.injEq, List.length_cons, List.length_nil, Nat.reduceAdd, true_and, if_true, if_false, Bool.false_eq_true, reduceIte, ite_true, ite_false, len_t0, len_t1, len_t2, len_t3, len_l0, len_l1, eqI, neI, Int.reduceBEq, Int.reduceLT, Int.reduceLE, Int.reduceNeg, decide_true, decide_false, Bool.not_true, Bool.not_false, ix0, ix1, ix2, and_true, and_self]; exact h2)
      | [a], _ => (simp only [wExpr, wRaise, gSb, wSeq, wNext, wRet, wRetN, wExpr, wIfS, wSet, wAsg, wPar, wAug, w1, w2, wA, aNil, aCons, wVar, wVarT, wC, tOfW, w3c, wAnd, wOr, wNot, tAnd3, tOr3, tNot3, wIf, wTup, wLst, wLstO, wCall, wSl, pNone, pSome, wipe3, List.map_cons, List.map_nil, fI2, fI2C, fI1, fAbs, addI, mulI, intI, eqS, neS, isN_, notN_, L3.isNon, gN, gsN, gsC, gT, asT, at3, List.set_cons_zero, List.set_cons_succ, Option.some.injEq, exists_eq_left', D.bl.injEq, D.int.injEq, D.tup.injEq, List.length_cons, List.length_nil, Nat.reduceAdd, true_and, if_true, if_false, Bool.false_eq_true, reduceIte, ite_true, ite_false, len_t0, len_t1, len_t2, len_t3, len_l0, len_l1, eqI, neI, Int.reduceBEq, Int.reduceLT, Int.reduceLE, Int.reduceNeg, decide_true, decide_false, Bool.not_true, Bool.not_false, ix0, ix1, ix2, and_true, and_self]; exact h2)
      | [a, b], _ => (simp only [wExpr, wRaise, gSb, wSeq, wNext, wRet, wRetN, wExpr, wIfS, wSet, wAsg, wPar, wAug, w1, w2, wA, aNil, aCons, wVar, wVarT, wC, tOfW, w3c, wAnd, wOr, wNot, tAnd3, tOr3, tNot3, wIf, wTup, wLst, wLstO, wCall, wSl, pNone, pSome, wipe3, List.map_cons, List.map_nil, fI2, fI2C, fI1, fAbs, addI, mulI, intI, eqS, neS, isN_, notN_, L3.isNon, gN, gsN, gsC, gT, asT, at3, List.set_cons_zero, List.set_cons_succ, Option.some.injEq, exists_eq_left', D.bl.injEq, D.int.injEq, D.tup.injEq, List.length_cons, List.length_nil, Nat.reduceAdd, true_and, if_true, if_false, Bool.false_eq_true, reduceIte, ite_true, ite_false, len_t0, len_t1, len_t2, len_t3, len_l0, len_l1, eqI, neI, Int.reduceBEq, Int.reduceLT, Int.reduceLE, Int.reduceNeg, decide_true, decide_false, Bool.not_true, Bool.not_false, ix0, ix1, ix2, and_true, and_self]; exact h2)
      | [a, b, c], hx =>
        have ha := hx a (by simp)
        have hb := hx b (by simp)
        simp only [wExpr, wRaise, gSb, wSeq, wNext, wRet, wRetN, wExpr, wIfS, wSet, wAsg, wPar, wAug, w1, w2, wA, aNil, aCons, wVar, wVarT, wC, tOfW, w3c, wAnd, wOr, wNot, tAnd3, tOr3, tNot3, wIf, wTup, wLst, wLstO, wCall, wSl, pNone, pSome, wipe3, List.map_cons, List.map_nil, fI2, fI2C, fI1, fAbs, addI, mulI, intI, eqS, neS, isN_, notN_, L3.isNon, gN, gsN, gsC, gT, asT, at3, List.set_cons_zero, List.set_cons_succ, Option.some.injEq, exists_eq_left', D.bl.injEq, D.int.injEq, D.tup.injEq, List.length_cons, List.length_nil, Nat.reduceAdd, true_and, if_true, if_false, Bool.false_eq_true, reduceIte, ite_true, ite_false, len_t0, len_t1, len_t2, len_t3, len_l0, len_l1, eqI, neI, Int.reduceBEq, Int.reduceLT, Int.reduceLE, Int.reduceNeg, decide_true, decide_false, Bool.not_true, Bool.not_false, ix0, ix1, ix2, and_true, and_self, ha, hb]
        have h2' : R (.bl (partAt a b)) G := h2
        unfold partAt at h2'
        cases h3 : isBndD a with
        | false =>
          rw [h3] at h2'
          simp only [wExpr, wRaise, gSb, wSeq, wNext, wRet, wRetN, wExpr, wIfS, wSet, wAsg, wPar, wAug, w1, w2, wA, aNil, aCons, wVar, wVarT, wC, tOfW, w3c, wAnd, wOr, wNot, tAnd3, tOr3, tNot3, wIf, wTup, wLst, wLstO, wCall, wSl, pNone, pSome, wipe3, List.map_cons, List.map_nil, fI2, fI2C, fI1, fAbs, addI, mulI, intI, eqS, neS, isN_, notN_, L3.isNon, gN, gsN, gsC, gT, asT, at3, List.set_cons_zero, List.set_cons_succ, Option.some.injEq, exists_eq_left', D.bl.injEq, D.int.injEq, D.tup.injEq, List.length_cons, List.length_nil, Nat.reduceAdd, true_and, if_true, if_false, Bool.false_eq_true, reduceIte, ite_true, ite_false, len_t0, len_t1, len_t2, len_t3, len_l0, len_l1, eqI, neI, Int.reduceBEq, Int.reduceLT, Int.reduceLE, Int.reduceNeg, decide_true, decide_false, Bool.not_true, Bool.not_false, ix0, ix1, ix2, and_true, and_self]
          exact h2'
        | true =>
          cases h4 : isBndD b with
          | false =>
            rw [h3, h4] at h2'
            simp only [wExpr, wRaise, gSb, wSeq, wNext, wRet, wRetN, wExpr, wIfS, wSet, wAsg, wPar, wAug, w1, w2, wA, aNil, aCons, wVar, wVarT, wC, tOfW, w3c, wAnd, wOr, wNot, tAnd3, tOr3, tNot3, wIf, wTup, wLst, wLstO, wCall, wSl, pNone, pSome, wipe3, List.map_cons, List.map_nil, fI2, fI2C, fI1, fAbs, addI, mulI, intI, eqS, neS, isN_, notN_, L3.isNon, gN, gsN, gsC, gT, asT, at3, List.set_cons_zero, List.set_cons_succ, Option.some.injEq, exists_eq_left', D.bl.injEq, D.int.injEq, D.tup.injEq, List.length_cons, List.length_nil, Nat.reduceAdd, true_and, if_true, if_false, Bool.false_eq_true, reduceIte, ite_true, ite_false, len_t0, len_t1, len_t2, len_t3, len_l0, len_l1, eqI, neI, Int.reduceBEq, Int.reduceLT, Int.reduceLE, Int.reduceNeg, decide_true, decide_false, Bool.not_true, Bool.not_false, ix0, ix1, ix2, and_true, and_self]
            exact h2'
          | true =>
            rw [h3, h4] at h2'
            simp only [wExpr, wRaise, gSb, wSeq, wNext, wRet, wRetN, wExpr, wIfS, wSet, wAsg, wPar, wAug, w1, w2, wA, aNil, aCons, wVar, wVarT, wC, tOfW, w3c, wAnd, wOr, wNot, tAnd3, tOr3, tNot3, wIf, wTup, wLst, wLstO, wCall, wSl, pNone, pSome, wipe3, List.map_cons, List.map_nil, fI2, fI2C, fI1, fAbs, addI, mulI, intI, eqS, neS, isN_, notN_, L3.isNon, gN, gsN, gsC, gT, asT, at3, List.set_cons_zero, List.set_cons_succ, Option.some.injEq, exists_eq_left', D.bl.injEq, D.int.injEq, D.tup.injEq, List.length_cons, List.length_nil, Nat.reduceAdd, true_and, if_true, if_false, Bool.false_eq_true, reduceIte, ite_true, ite_false, len_t0, len_t1, len_t2, len_t3, len_l0, len_l1, eqI, neI, Int.reduceBEq, Int.reduceLT, Int.reduceLE, Int.reduceNeg, decide_true, decide_false, Bool.not_true, Bool.not_false, ix0, ix1, ix2, and_true, and_self]
            obtain ⟨pa, oa⟩ := bnd_pt h3
            obtain ⟨pb, ob⟩ := bnd_pt h4
            have ba := PtOk.bd oa
            have bb := PtOk.bd ob
            refine ⟨ptD b, ptD a, pb, pa, bb.1, bb.2, ba.1, ba.2, ?_⟩
            have e : (!decide ((ptD b).1 * (ptD a).2 < (ptD a).1 * (ptD b).2)) = decide (nmD a * dnD b ≤ nmD b * dnD a) := by
              show (!decide (nmD b * dnD a < nmD a * dnD b)) = _
              rw [← decide_not, Bool.eq_iff_iff, decide_eq_true_eq, decide_eq_true_eq, Int.not_lt]
            rw [Bool.true_and, Bool.true_and] at h2'
            rw [e]
            exact h2'
      | a :: b :: c :: d :: r, _ =>
        simp only [wExpr, wRaise, gSb, wSeq, wNext, wRet, wRetN, wExpr, wIfS, wSet, wAsg, wPar, wAug, w1, w2, wA, aNil, aCons, wVar, wVarT, wC, tOfW, w3c, wAnd, wOr, wNot, tAnd3, tOr3, tNot3, wIf, wTup, wLst, wLstO, wCall, wSl, pNone, pSome, wipe3, List.map_cons, List.map_nil, fI2, fI2C, fI1, fAbs, addI, mulI, intI, eqS, neS, isN_, notN_, L3.isNon, gN, gsN, gsC, gT, asT, at3, List.set_cons_zero, List.set_cons_succ, Option.some.injEq, exists_eq_left', D.bl.injEq, D.int.injEq, D.tup.injEq, List.length_cons, List.length_nil, Nat.reduceAdd, true_and, if_true, if_false, Bool.false_eq_true, reduceIte, ite_true, ite_false, len_t0, len_t1, len_t2, len_t3, len_l0, len_l1, eqI, neI, Int.reduceBEq, Int.reduceLT, Int.reduceLE, Int.reduceNeg, decide_true, decide_false, Bool.not_true, Bool.not_false, ix0, ix1, ix2, and_true, and_self, len_tup, more3]
        exact h2
    | _ => exact h2
end

end K01

set_option Elab.async false
set_option linter.all false
set_option maxRecDepth 100000
set_option maxHeartbeats 0
namespace K01
open PySem PySem.Spec L2 L3
open PyProof.Rows hiding St
/-! ### found_bins -/
def thirdOf : D → D
  | .tup [_, _, t] => t
  | _ => .non
def meets (b found : List Int) : Bool := b.any fun i => found.contains i
def fbGo (f : D → Option (List Int)) : List D → List Int → Option (List Int)
  | [], found => some found
  | x :: xs, found => if partOk x = true then (match f (thirdOf x) with
    | some b => if meets b found = true then none else fbGo f xs (found ++ b)
    | none => none) else none
def fb : Nat → D → Option (List Int)
  | 0, .int i => if 0 ≤ i ∧ i ≤ 7 then some [i] else none
  | 0, _ => none
  | _ + 1, .int i => if 0 ≤ i ∧ i ≤ 7 then some [i] else none
  | k + 1, .tup xs => if fitLen xs.length = true then (match fbGo (fb k) xs [] with
    | some r => if sumsOk xs = true then some r else none
    | none => none) else none
  | _ + 1, _ => none
def ilD (l : List Int) : D := .lst (l.map D.int)
def optL : Option (List Int) → D
  | some l => ilD l
  | none => .non
theorem fb_int {k : Nat} {i : Int} : fb k (.int i) = if 0 ≤ i ∧ i ≤ 7 then some [i] else none := by cases k <;> rfl
theorem fbGo_len {f : D → Option (List Int)} {B : Nat} (h : ∀ x l, f x = some l → l.length ≤ B) : ∀ (xs : List D) (found r : List Int), fbGo f xs found = some r → r.length ≤ found.length + xs.length * B
  | [], found, r, e => by
    cases e
    omega
  | x :: xs, found, r, e => by
    unfold fbGo at e
    split at e
    · split at e
      · rename_i b hb
        split at e
        · cases e
        · have q := fbGo_len h xs _ r e
          have q2 := h _ _ hb
          rw [List.length_append] at q
          rw [List.length_cons, Nat.succ_mul]
          omega
      · cases e
    · cases e
theorem fb_len : ∀ (k : Nat) (x : D) (l : List Int), fb k x = some l → l.length ≤ 8 ^ k
  | k, .int i, l, h => by
    rw [fb_int] at h
    split at h
    · cases h
      exact Nat.one_le_iff_ne_zero.mpr (Nat.pos_iff_ne_zero.mp (Nat.pow_pos (by decide)))
    · cases h
  | 0, .tup _, _, h => by cases h
  | k + 1, .tup xs, l, h => by
    unfold fb at h
    split at h
    · rename_i hf
      split at h
      · rename_i r hr
        split at h
        · cases h
          have q := fbGo_len (fb_len k) xs [] _ hr
          unfold fitLen at hf
          rw [Bool.and_eq_true, decide_eq_true_eq, decide_eq_true_eq] at hf
          rw [Nat.pow_succ, Nat.mul_comm]
          have : xs.length * 8 ^ k ≤ 8 * 8 ^ k := Nat.mul_le_mul_right _ hf.2
          simp only [List.length_nil] at q
          omega
        · cases h
      · cases h
    · cases h
  | 0, .non, _, h => by cases h
  | 0, .bl _, _, h => by cases h
  | 0, .str _, _, h => by cases h
  | 0, .ty _, _, h => by cases h
  | 0, .lst _, _, h => by cases h
  | 0, .lsx _, _, h => by cases h
  | 0, .dct _ _, _, h => by cases h
  | 0, .ins _ _ _, _, h => by cases h
  | 0, .ref _, _, h => by cases h
  | 0, .tpf _, _, h => by cases h
  | 0, .exc _ _ _ _, _, h => by cases h
  | _ + 1, .non, _, h => by cases h
  | _ + 1, .bl _, _, h => by cases h
  | _ + 1, .str _, _, h => by cases h
  | _ + 1, .ty _, _, h => by cases h
  | _ + 1, .lst _, _, h => by cases h
  | _ + 1, .lsx _, _, h => by cases h
  | _ + 1, .dct _ _, _, h => by cases h
  | _ + 1, .ins _ _ _, _, h => by cases h
  | _ + 1, .ref _, _, h => by cases h
  | _ + 1, .tpf _, _, h => by cases h
  | _ + 1, .exc _ _ _ _, _, h => by cases h
theorem part_cases {x : D} (h : partOk x = true) : ∃ a b t, x = .tup [a, b, t] ∧ isBndD a = true ∧ isBndD b = true ∧ nmD a * dnD b ≤ nmD b * dnD a := by
  match x, h with
  | .tup [a, b, t], h =>
    have h' : partAt a b = true := h
    unfold partAt at h'
    simp only [Bool.and_eq_true, decide_eq_true_eq] at h'
    exact ⟨a, b, t, rfl, h'.1.1, h'.1.2, h'.2⟩
theorem fbGo_parts {f : D → Option (List Int)} : ∀ (xs : List D) (found r : List Int), fbGo f xs found = some r → ∀ x ∈ xs, partOk x = true
  | x :: xs, found, r, e => by
    unfold fbGo at e
    split at e
    · rename_i hp
      split at e
      · split at e
        · cases e
        · intro y hy
          rcases List.mem_cons.mp hy with z | z
          · rw [z]; exact hp
          · exact fbGo_parts xs _ r e y z
      · cases e
    · cases e
  | [], _, _, _ => fun x hx => by cases hx
theorem inF_int {i : Int} {l : List Int} : inF (.int i) (l.map D.int) = l.contains i := by
  unfold inF
  rw [List.any_map, Bool.eq_iff_iff, List.any_eq_true, List.contains_iff_exists_mem_beq]
  constructor
  · rintro ⟨x, h1, h2⟩
    exact ⟨x, h1, by
      have : (x == i) = true := h2
      rw [beq_iff_eq] at this ⊢
      exact this.symm⟩
  · rintro ⟨x, h1, h2⟩
    exact ⟨x, h1, by
      show (x == i) = true
      rw [beq_iff_eq] at h2 ⊢
      exact h2.symm⟩
theorem flat_ints {l : List Int} : (l.map D.int).all flatD = true := by
  rw [List.all_map, List.all_eq_true]
  intro x _
  rfl
def inB (found : List Int) : D → Bool
  | .int i => found.contains i
  | _ => false
theorem any_meets {b found : List Int} : bools ((b.map D.int).map fun d => D.bl (inB found d)) = some (b.map fun i => found.contains i) := by
  rw [List.map_map]
  have e : (b.map ((fun d => D.bl (inB found d)) ∘ D.int)) = (b.map fun i => found.contains i).map D.bl := by
    rw [List.map_map]
    rfl
  rw [e, bools_map]
section
variable {P : Program} {w : World} {K : PySem.W.Frag} {mg : Str → Option Value} {base : Heap}
def S_fb (n : Nat) : SP3 := fun ds G R _ => match ds with
  | [x, y] => ∃ k : Nat, k ≤ n ∧ n ≤ 6 ∧ saneD x = true ∧ y = .int k ∧ R (optL (fb k x)) G
  | _ => False
def S_fbP : Nat → SP3
  | 0 => fun _ _ _ _ => False
  | n + 1 => S_fb n
theorem lp_fb {g : G3} {bb : S3} {E : E3} {G : GH} {v0 v1 : Option D} {f : D → Option (List Int)} (xs0 : List D)
    (Hyp : ∀ d ∈ xs0, ∀ (found : List Int) (u3 u4 u5 : Option D) (E : E3), found.length ≤ 8 * 8 ^ 5 → (fbGo f [d] found = none → E.rt .non G) → (∀ b u3 u4, f (thirdOf d) = some b → partOk d = true → meets b found = false → E.nx [v0, v1, some (ilD (found ++ b)), u3, u4, u5] G) →
      g d [v0, v1, some (ilD found), u3, u4, u5] G fun env1 G1 => bb E env1 G1) (hB : ∀ x l, f x = some l → l.length ≤ 8 ^ 5) :
    ∀ (xs : List D) (found : List Int) (u3 u4 u5 : Option D), (∀ d ∈ xs, d ∈ xs0) → found.length + xs.length * 8 ^ 5 ≤ 8 * 8 ^ 5 → (fbGo f xs found = none → E.rt .non G) → (∀ r u3 u4, fbGo f xs found = some r → E.nx [v0, v1, some (ilD r), u3, u4, u5] G) →
      lp (fun _ => True) g bb E xs [v0, v1, some (ilD found), u3, u4, u5] G
  | [], found, u3, u4, u5, _, _, _, h => ⟨trivial, h found u3 u4 rfl⟩
  | d :: xs, found, u3, u4, u5, hm, hl, hn, h => by
    rw [List.length_cons, Nat.succ_mul] at hl
    refine ⟨trivial, Hyp d (hm d (by simp)) found u3 u4 u5 _ (by omega) (fun e => hn ?_) (fun b u3' u4' hb hp hmt => ?_)⟩
    · unfold fbGo at e ⊢
      split at e
      · rename_i hp
        rw [if_pos hp]
        split at e
        · rename_i b hb
          split at e
          · rename_i hmm
            simp only [hmm, if_true]
          · cases e
        · rfl
      · rename_i hp
        rw [if_neg hp]
    · have e1 : fbGo f (d :: xs) found = fbGo f xs (found ++ b) := by
        conv => lhs; unfold fbGo
        rw [if_pos hp, hb]
        simp only [hmt, Bool.false_eq_true, if_false]
      have q := hB _ _ hb
      refine lp_fb xs0 Hyp hB xs (found ++ b) u3' u4' u5 (fun d' hd => hm d' (by simp [hd])) (by rw [List.length_append]; omega) (fun e => hn (by rw [e1]; exact e)) fun r a3 a4 hr => h r a3 a4 (by rw [e1]; exact hr)
theorem fb_step (T : Tx K mg) (n : Nat) (g_found_bins : Good P w K mg base "found_bins" ["thing", "depth_left"] (5 + n) (S_fbP n)) : Good P w K mg base "found_bins" ["thing", "depth_left"] (5 + n + 1) (S_fb n) := by
  have g_is_within := ok_is_within (P := P) (w := w) (base := base) T
  have g_is_part_alone := ok_part (P := P) (w := w) (base := base) T
  have g_is_less := ok_is_less (P := P) (w := w) (base := base) T
  have g_total := ok_total (P := P) (w := w) (base := base) T
  refine good_of (d_found_bins T) sc_found_bins fun f cd A outer s H E hp tk hgd hr => ⟨_, (s_cons (s_if (t_val (c_call g_is_within (hr.mono (by omega)) hgd tk (a_cons (c_var 0) (a_cons c_int (a_cons (c_dat (v_MOST_BIN T)) a_nil))))) (s_one (s_ret (c_lst (a_cons (c_var 0) a_nil)))) s_nil)
      (s_cons (s_if (t_w (o_or (t_cmp (op_eq3 hr.units) lift_eq (c_var 1) c_int) (o_or (t_not (t_val (c_callB call_isi3 lift_isi (n_isinstance T) (a_cons (c_var 0) (a_cons (c_bltn (n := "tuple") (n_tuple T)) a_nil))))) (o_or1 (t_not (t_chain op_le lift_I2b op_le lift_I2b c_int (c_callB call_len lift_len (n_len T) (a_cons (c_var 0) a_nil)) (c_dat (v_MOST_PARTS T)))))))) (s_one (s_ret c_non)) s_nil)
      (s_cons (s_set 2 sc_found_bins.nd rfl (.inr rfl) rfl (c_lst a_nil))
      (s_cons (s_for hp rfl (i_tpl (c_var 0)) (g_name 3 sc_found_bins.nd rfl (.inl rfl)) (s_cons (s_set 4 sc_found_bins.nd rfl (.inl rfl) rfl (c_if (t_val (c_call g_is_part_alone (hr.mono (by omega)) hgd tk (a_cons (c_var 3) a_nil))) (c_call g_found_bins (hr.mono (by omega)) hgd tk (a_cons (c_ix (c_var 3) c_int) (a_cons (c_op op_sub lift_I2i (c_var 1) c_int) a_nil))) c_non))
      (s_cons (s_if (t_w (o_or (t_cmp op_isN lift_isN (c_var 4) c_non) (o_or1 (t_val (c_callB (cr_any rfl) lift_any (n_any T) (a_cons (c_lc [("one", 5)] rfl sc_found_bins.nd (i_lst (c_var 4)) (blkOk_by (by kernel_rfl)) (by decide) (fun _ _ _ _ _ => (g_name 5 sc_found_bins.nd rfl (.inl rfl))) (fun _ _ _ _ _ => ts_nil) (fun _ _ _ _ _ => (c_cmp op_in_seq lift_in (c_var 5) (c_var 2)))) a_nil)))))) (s_one (s_ret c_non)) s_nil)
      (s_one (s_set 2 sc_found_bins.nd rfl (.inr rfl) rfl (c_op op_add3 lift_add (c_var 2) (c_var 4)))))))
      (s_cons (s_if (t_w (o_or (t_val (c_call g_is_less (hr.mono (by omega)) hgd tk (a_cons (c_dat (v_ONE T)) (a_cons (c_call g_total (hr.mono (by omega)) hgd tk (a_cons (c_lc [("part", 3)] rfl sc_found_bins.nd (i_tpl (c_var 0)) (blkOk_by (by kernel_rfl)) (by decide) (fun _ _ _ _ _ => (g_name 3 sc_found_bins.nd rfl (.inl rfl))) (fun _ _ _ _ _ => ts_nil) (fun _ _ _ _ _ => (c_ix (c_var 3) c_int))) a_nil)) a_nil)))) (o_or1 (t_val (c_call g_is_less (hr.mono (by omega)) hgd tk (a_cons (c_call g_total (hr.mono (by omega)) hgd tk (a_cons (c_lc [("part", 3)] rfl sc_found_bins.nd (i_tpl (c_var 0)) (blkOk_by (by kernel_rfl)) (by decide) (fun _ _ _ _ _ => (g_name 3 sc_found_bins.nd rfl (.inl rfl))) (fun _ _ _ _ _ => ts_nil) (fun _ _ _ _ _ => (c_ix (c_var 3) c_int))) a_nil)) (a_cons (c_dat (v_ONE T)) a_nil))))))) (s_one (s_ret c_non)) s_nil)
      (s_one (s_ret (c_var 2)))))))), fun ds G R Ex hlen hS => ?_⟩
  clear hp tk hgd hr hlen
  match ds, hS with
  | [x, y], ⟨k, hk, hn, h1, e1, h2⟩ =>
    subst e1
    rw [show start3 ["thing", "depth_left", "found", "part", "below", "one"] [x, .int k] = [some (x), some (.int k), none, none, none, none] from rfl]
    have hr := sane_rd x h1
    simp only [wExpr, wRaise, gSb, wSeq, wNext, wRet, wRetN, wExpr, wIfS, wSet, wAsg, wPar, wAug, w1, w2, wA, aNil, aCons, wVar, wVarT, wC, tOfW, w3c, wAnd, wOr, wNot, tAnd3, tOr3, tNot3, wIf, wTup, wLst, wLstO, wCall, wSl, pNone, pSome, wipe3, List.map_cons, List.map_nil, fI2, fI2C, fI1, fAbs, addI, mulI, intI, eqS, neS, isN_, notN_, L3.isNon, gN, gsN, gsC, gT, asT, at3, List.set_cons_zero, List.set_cons_succ, Option.some.injEq, exists_eq_left', D.bl.injEq, D.int.injEq, D.tup.injEq, List.length_cons, List.length_nil, Nat.reduceAdd, true_and, if_true, if_false, Bool.false_eq_true, reduceIte, ite_true, ite_false, len_t0, len_t1, len_t2, len_t3, len_l0, len_l1, eqI, neI, Int.reduceBEq, Int.reduceLT, Int.reduceLE, Int.reduceNeg, decide_true, decide_false, Bool.not_true, Bool.not_false, ix0, ix1, ix2, and_true, and_self, S_is_within, hr, isi_tup hr]
    cases x with
    | int i =>
      simp only [isWithin]
      rw [fb_int] at h2
      by_cases z : 0 ≤ i ∧ i ≤ 7
      · rw [if_pos z] at h2
        simp only [z.1, z.2, decide_true, Bool.and_self, if_true]
        exact ⟨sizeLine_eq ▸ (by decide), h2⟩
      · have zb : (decide (0 ≤ i) && decide (i ≤ 7)) = false := by
          rw [Bool.and_eq_false_iff, decide_eq_false_iff_not, decide_eq_false_iff_not]
          omega
        rw [if_neg z] at h2
        simp only [zb, wExpr, wRaise, gSb, wSeq, wNext, wRet, wRetN, wExpr, wIfS, wSet, wAsg, wPar, wAug, w1, w2, wA, aNil, aCons, wVar, wVarT, wC, tOfW, w3c, wAnd, wOr, wNot, tAnd3, tOr3, tNot3, wIf, wTup, wLst, wLstO, wCall, wSl, pNone, pSome, wipe3, List.map_cons, List.map_nil, fI2, fI2C, fI1, fAbs, addI, mulI, intI, eqS, neS, isN_, notN_, L3.isNon, gN, gsN, gsC, gT, asT, at3, List.set_cons_zero, List.set_cons_succ, Option.some.injEq, exists_eq_left', D.bl.injEq, D.int.injEq, D.tup.injEq, List.length_cons, List.length_nil, Nat.reduceAdd, true_and, if_true, if_false, Bool.false_eq_true, reduceIte, ite_true, ite_false, len_t0, len_t1, len_t2, len_t3, len_l0, len_l1, eqI, neI, Int.reduceBEq, Int.reduceLT, Int.reduceLE, Int.reduceNeg, decide_true, decide_false, Bool.not_true, Bool.not_false, ix0, ix1, ix2, and_true, and_self, isTupD]
        cases (k : Int) == 0 <;> exact h2
    | tup xs =>
      simp only [wExpr, wRaise, gSb, wSeq, wNext, wRet, wRetN, wExpr, wIfS, wSet, wAsg, wPar, wAug, w1, w2, wA, aNil, aCons, wVar, wVarT, wC, tOfW, w3c, wAnd, wOr, wNot, tAnd3, tOr3, tNot3, wIf, wTup, wLst, wLstO, wCall, wSl, pNone, pSome, wipe3, List.map_cons, List.map_nil, fI2, fI2C, fI1, fAbs, addI, mulI, intI, eqS, neS, isN_, notN_, L3.isNon, gN, gsN, gsC, gT, asT, at3, List.set_cons_zero, List.set_cons_succ, Option.some.injEq, exists_eq_left', D.bl.injEq, D.int.injEq, D.tup.injEq, List.length_cons, List.length_nil, Nat.reduceAdd, true_and, if_true, if_false, Bool.false_eq_true, reduceIte, ite_true, ite_false, len_t0, len_t1, len_t2, len_t3, len_l0, len_l1, eqI, neI, Int.reduceBEq, Int.reduceLT, Int.reduceLE, Int.reduceNeg, decide_true, decide_false, Bool.not_true, Bool.not_false, ix0, ix1, ix2, and_true, and_self, isTupD, isWithin, len_tup]
      cases k with
      | zero => exact h2
      | succ k =>
        have z : (((k + 1 : Nat) : Int) == 0) = false := by
          rw [beq_eq_false_iff_ne]
          omega
        simp only [z, Bool.false_eq_true, if_false]
        have hfit : fitLen xs.length = (decide (1 ≤ (xs.length : Int)) && decide ((xs.length : Int) ≤ 8)) := by
          unfold fitLen
          rw [Bool.eq_iff_iff, Bool.and_eq_true, Bool.and_eq_true, decide_eq_true_eq, decide_eq_true_eq, decide_eq_true_eq, decide_eq_true_eq]
          omega
        have h2' : R (optL (if fitLen xs.length = true then (match fbGo (fb k) xs [] with
          | some r => if sumsOk xs = true then some r else none
          | none => none) else none)) G := h2
        rw [hfit] at h2'
        cases c1 : decide (1 ≤ (xs.length : Int)) with
        | false =>
          rw [c1] at h2'
          exact h2'
        | true =>
          rw [c1] at h2'
          cases c2 : decide ((xs.length : Int) ≤ 8) with
          | false =>
            rw [c2] at h2'
            exact h2'
          | true =>
            rw [c2] at h2'
            simp only [Bool.and_self, if_true] at h2'
            simp only [if_true, Bool.not_true, Bool.false_eq_true, if_false, wFor, iTpl, wExpr, wRaise, gSb, wSeq, wNext, wRet, wRetN, wExpr, wIfS, wSet, wAsg, wPar, wAug, w1, w2, wA, aNil, aCons, wVar, wVarT, wC, tOfW, w3c, wAnd, wOr, wNot, tAnd3, tOr3, tNot3, wIf, wTup, wLst, wLstO, wCall, wSl, pNone, pSome, wipe3, List.map_cons, List.map_nil, fI2, fI2C, fI1, fAbs, addI, mulI, intI, eqS, neS, isN_, notN_, L3.isNon, gN, gsN, gsC, gT, asT, at3, List.set_cons_zero, List.set_cons_succ, Option.some.injEq, exists_eq_left', D.bl.injEq, D.int.injEq, D.tup.injEq, List.length_cons, List.length_nil, Nat.reduceAdd, true_and, if_true, if_false, Bool.false_eq_true, reduceIte, ite_true, ite_false, len_t0, len_t1, len_t2, len_t3, len_l0, len_l1, eqI, neI, Int.reduceBEq, Int.reduceLT, Int.reduceLE, Int.reduceNeg, decide_true, decide_false, Bool.not_true, Bool.not_false, ix0, ix1, ix2, and_true, and_self]
            have hlen : xs.length ≤ 8 := by
              have := of_decide_eq_true c2
              omega
            obtain ⟨m, rfl⟩ : ∃ m, n = m + 1 := ⟨n - 1, by omega⟩
            refine ⟨Nat.zero_le _, ?_⟩
            have hs := sane_tup h1
            have hB : ∀ x l, fb k x = some l → l.length ≤ 8 ^ 5 := fun x l e => Nat.le_trans (fb_len k x l e) (Nat.pow_le_pow_right (by decide) (by omega))
            refine lp_fb (f := fb k) xs ?_ hB xs [] none none none (fun _ h => h) (by
              have : xs.length * 8 ^ 5 ≤ 8 * 8 ^ 5 := Nat.mul_le_mul_right _ hlen
              simpa using this) (fun e => ?_) (fun r u3 u4 e => ?_)
            · intro d hd found u3 u4 u5 E hl hno hyes
              have hsd := hs d hd
              simp only [wExpr, wRaise, gSb, wSeq, wNext, wRet, wRetN, wExpr, wIfS, wSet, wAsg, wPar, wAug, w1, w2, wA, aNil, aCons, wVar, wVarT, wC, tOfW, w3c, wAnd, wOr, wNot, tAnd3, tOr3, tNot3, wIf, wTup, wLst, wLstO, wCall, wSl, pNone, pSome, wipe3, List.map_cons, List.map_nil, fI2, fI2C, fI1, fAbs, addI, mulI, intI, eqS, neS, isN_, notN_, L3.isNon, gN, gsN, gsC, gT, asT, at3, List.set_cons_zero, List.set_cons_succ, Option.some.injEq, exists_eq_left', D.bl.injEq, D.int.injEq, D.tup.injEq, List.length_cons, List.length_nil, Nat.reduceAdd, true_and, if_true, if_false, Bool.false_eq_true, reduceIte, ite_true, ite_false, len_t0, len_t1, len_t2, len_t3, len_l0, len_l1, eqI, neI, Int.reduceBEq, Int.reduceLT, Int.reduceLE, Int.reduceNeg, decide_true, decide_false, Bool.not_true, Bool.not_false, ix0, ix1, ix2, and_true, and_self, S_part, hsd]
              cases hp : partOk d with
              | false =>
                simp only [wExpr, wRaise, gSb, wSeq, wNext, wRet, wRetN, wExpr, wIfS, wSet, wAsg, wPar, wAug, w1, w2, wA, aNil, aCons, wVar, wVarT, wC, tOfW, w3c, wAnd, wOr, wNot, tAnd3, tOr3, tNot3, wIf, wTup, wLst, wLstO, wCall, wSl, pNone, pSome, wipe3, List.map_cons, List.map_nil, fI2, fI2C, fI1, fAbs, addI, mulI, intI, eqS, neS, isN_, notN_, L3.isNon, gN, gsN, gsC, gT, asT, at3, List.set_cons_zero, List.set_cons_succ, Option.some.injEq, exists_eq_left', D.bl.injEq, D.int.injEq, D.tup.injEq, List.length_cons, List.length_nil, Nat.reduceAdd, true_and, if_true, if_false, Bool.false_eq_true, reduceIte, ite_true, ite_false, len_t0, len_t1, len_t2, len_t3, len_l0, len_l1, eqI, neI, Int.reduceBEq, Int.reduceLT, Int.reduceLE, Int.reduceNeg, decide_true, decide_false, Bool.not_true, Bool.not_false, ix0, ix1, ix2, and_true, and_self]
                refine hno ?_
                unfold fbGo
                rw [hp]
                rfl
              | true =>
                obtain ⟨a, b, t, rfl, ha, hb, hab⟩ := part_cases hp
                have hst := sane_tup hsd t (by simp)
                simp only [wExpr, wRaise, gSb, wSeq, wNext, wRet, wRetN, wExpr, wIfS, wSet, wAsg, wPar, wAug, w1, w2, wA, aNil, aCons, wVar, wVarT, wC, tOfW, w3c, wAnd, wOr, wNot, tAnd3, tOr3, tNot3, wIf, wTup, wLst, wLstO, wCall, wSl, pNone, pSome, wipe3, List.map_cons, List.map_nil, fI2, fI2C, fI1, fAbs, addI, mulI, intI, eqS, neS, isN_, notN_, L3.isNon, gN, gsN, gsC, gT, asT, at3, List.set_cons_zero, List.set_cons_succ, Option.some.injEq, exists_eq_left', D.bl.injEq, D.int.injEq, D.tup.injEq, List.length_cons, List.length_nil, Nat.reduceAdd, true_and, if_true, if_false, Bool.false_eq_true, reduceIte, ite_true, ite_false, len_t0, len_t1, len_t2, len_t3, len_l0, len_l1, eqI, neI, Int.reduceBEq, Int.reduceLT, Int.reduceLE, Int.reduceNeg, decide_true, decide_false, Bool.not_true, Bool.not_false, ix0, ix1, ix2, and_true, and_self, S_fbP, S_fb]
                refine ⟨k, by omega, by omega, hst, by omega, ?_⟩
                have e3 : fbGo (fb k) [D.tup [a, b, t]] found = match fb k t with
                    | some b => if meets b found = true then none else some (found ++ b)
                    | none => none := by
                  unfold fbGo
                  rw [if_pos hp]
                  rfl
                cases hf : fb k t with
                | none =>
                  rw [hf] at e3
                  exact hno e3
                | some l =>
                  rw [hf] at e3
                  simp only [optL, ilD, Bool.false_eq_true, if_false]
                  refine wLc_lst 4 (fun d => .bl (inB found d)) rfl rfl (by
                    rw [List.length_map]
                    exact Nat.le_trans (hB t l hf) (sizeLine_eq ▸ (by decide))) ?_ ?_
                  · intro d hd p acc Q hp hQ
                    obtain ⟨i, _, rfl⟩ := List.mem_map.mp hd
                    simp only [wExpr, wRaise, gSb, wSeq, wNext, wRet, wRetN, wExpr, wIfS, wSet, wAsg, wPar, wAug, w1, w2, wA, aNil, aCons, wVar, wVarT, wC, tOfW, w3c, wAnd, wOr, wNot, tAnd3, tOr3, tNot3, wIf, wTup, wLst, wLstO, wCall, wSl, pNone, pSome, wipe3, List.map_cons, List.map_nil, fI2, fI2C, fI1, fAbs, addI, mulI, intI, eqS, neS, isN_, notN_, L3.isNon, gN, gsN, gsC, gT, asT, at3, List.set_cons_zero, List.set_cons_succ, Option.some.injEq, exists_eq_left', D.bl.injEq, D.int.injEq, D.tup.injEq, List.length_cons, List.length_nil, Nat.reduceAdd, true_and, if_true, if_false, Bool.false_eq_true, reduceIte, ite_true, ite_false, len_t0, len_t1, len_t2, len_t3, len_l0, len_l1, eqI, neI, Int.reduceBEq, Int.reduceLT, Int.reduceLE, Int.reduceNeg, decide_true, decide_false, Bool.not_true, Bool.not_false, ix0, ix1, ix2, and_true, and_self, fIn]
                    refine ⟨found.map D.int, rfl, rfl, flat_ints, ?_⟩
                    rw [inF_int]
                    exact hQ
                  · rw [any_lst any_meets]
                    have e4 : (l.map fun i => found.contains i).any id = meets l found := by
                      unfold meets
                      rw [List.any_map]
                      rfl
                    rw [e4]
                    refine ⟨_, rfl, ?_⟩
                    cases hm : meets l found with
                    | true => exact hno (by rw [e3]; simp only [hm, if_true])
                    | false =>
                      simp only [Bool.false_eq_true, if_false]
                      refine add_lst ?_ ?_
                      · rw [List.length_map, List.length_map]
                        have := hB t l hf
                        rw [sizeLine_eq]
                        omega
                      · rw [← List.map_append]
                        exact hyes l _ _ hf hp hm
            · rw [e] at h2'
              exact h2'
            · rw [e] at h2'
              have hparts := fbGo_parts xs [] r e
              have hptL : ∀ p ∈ xs.map (fun x => ptD (lowD x)), PtOk p := fun p hp => by
                obtain ⟨x, hx, rfl⟩ := List.mem_map.mp hp
                obtain ⟨a, b, t, rfl, ha, hb, _⟩ := part_cases (hparts x hx)
                exact (bnd_pt ha).2
              have hptH : ∀ p ∈ xs.map (fun x => ptD (highD x)), PtOk p := fun p hp => by
                obtain ⟨x, hx, rfl⟩ := List.mem_map.mp hp
                obtain ⟨a, b, t, rfl, ha, hb, _⟩ := part_cases (hparts x hx)
                exact (bnd_pt hb).2
              have hsl : xs.length ≤ sizeLine := by rw [sizeLine_eq]; omega
              dsimp only
              refine wLc_tup 0 lowD rfl rfl hsl ?_ ?_
              · intro d hd p acc Q hp hQ
                obtain ⟨a, b, t, rfl, ha, hb, _⟩ := part_cases (hparts d hd)
                simp only [wExpr, wRaise, gSb, wSeq, wNext, wRet, wRetN, wExpr, wIfS, wSet, wAsg, wPar, wAug, w1, w2, wA, aNil, aCons, wVar, wVarT, wC, tOfW, w3c, wAnd, wOr, wNot, tAnd3, tOr3, tNot3, wIf, wTup, wLst, wLstO, wCall, wSl, pNone, pSome, wipe3, List.map_cons, List.map_nil, fI2, fI2C, fI1, fAbs, addI, mulI, intI, eqS, neS, isN_, notN_, L3.isNon, gN, gsN, gsC, gT, asT, at3, List.set_cons_zero, List.set_cons_succ, Option.some.injEq, exists_eq_left', D.bl.injEq, D.int.injEq, D.tup.injEq, List.length_cons, List.length_nil, Nat.reduceAdd, true_and, if_true, if_false, Bool.false_eq_true, reduceIte, ite_true, ite_false, len_t0, len_t1, len_t2, len_t3, len_l0, len_l1, eqI, neI, Int.reduceBEq, Int.reduceLT, Int.reduceLE, Int.reduceNeg, decide_true, decide_false, Bool.not_true, Bool.not_false, ix0, ix1, ix2, and_true, and_self]
                exact hQ
              · refine ⟨xs.map fun x => ptD (lowD x), ?_, by rw [List.length_map]; exact hlen, hptL, fun szL => ?_⟩
                · rw [List.map_map]
                  congr 1
                  apply List.map_congr_left
                  intro x hx
                  obtain ⟨a, b, t, rfl, ha, hb, _⟩ := part_cases (hparts x hx)
                  exact (bnd_pt ha).1
                · rw [List.length_map] at szL
                  have bL := szL.bd (by omega)
                  refine ⟨(1, 1), tot (xs.map fun x => ptD (lowD x)), rfl, rfl, Bd.small (by decide) (by decide), Bd.small (by decide) (by decide), bL.1, bL.2, ?_⟩
                  have tL := (tot_u hptL).lt
                  have eL : decide ((1 : Int) * (tot (xs.map fun x => ptD (lowD x))).2 < (tot (xs.map fun x => ptD (lowD x))).1 * 1) = !decide ((totU (xs.map fun x => ptD (lowD x))).1 ≤ (totU (xs.map fun x => ptD (lowD x))).2) := by
                    rw [Int.one_mul, Int.mul_one, ← decide_not, Bool.eq_iff_iff, decide_eq_true_eq, decide_eq_true_eq, tL, Int.not_le]
                  refine ⟨_, rfl, ?_⟩
                  show if decide ((1 : Int) * (tot (xs.map fun x => ptD (lowD x))).2 < (tot (xs.map fun x => ptD (lowD x))).1 * 1) = true then _ else _
                  rw [eL]
                  have h3 : R (optL (if sumsOk xs = true then some r else none)) G := h2'
                  unfold sumsOk at h3
                  cases cL : decide ((totU (xs.map fun x => ptD (lowD x))).1 ≤ (totU (xs.map fun x => ptD (lowD x))).2) with
                  | false =>
                    simp only [cL, Bool.false_and, Bool.false_eq_true, if_false] at h3
                    exact h3
                  | true =>
                    simp only [cL, Bool.true_and] at h3
                    simp only [Bool.not_true, Bool.false_eq_true, if_false]
                    refine wLc_tup 0 highD rfl rfl hsl ?_ ?_
                    · intro d hd p acc Q hp hQ
                      obtain ⟨a, b, t, rfl, ha, hb, _⟩ := part_cases (hparts d hd)
                      simp only [wExpr, wRaise, gSb, wSeq, wNext, wRet, wRetN, wExpr, wIfS, wSet, wAsg, wPar, wAug, w1, w2, wA, aNil, aCons, wVar, wVarT, wC, tOfW, w3c, wAnd, wOr, wNot, tAnd3, tOr3, tNot3, wIf, wTup, wLst, wLstO, wCall, wSl, pNone, pSome, wipe3, List.map_cons, List.map_nil, fI2, fI2C, fI1, fAbs, addI, mulI, intI, eqS, neS, isN_, notN_, L3.isNon, gN, gsN, gsC, gT, asT, at3, List.set_cons_zero, List.set_cons_succ, Option.some.injEq, exists_eq_left', D.bl.injEq, D.int.injEq, D.tup.injEq, List.length_cons, List.length_nil, Nat.reduceAdd, true_and, if_true, if_false, Bool.false_eq_true, reduceIte, ite_true, ite_false, len_t0, len_t1, len_t2, len_t3, len_l0, len_l1, eqI, neI, Int.reduceBEq, Int.reduceLT, Int.reduceLE, Int.reduceNeg, decide_true, decide_false, Bool.not_true, Bool.not_false, ix0, ix1, ix2, and_true, and_self]
                      exact hQ
                    · refine ⟨xs.map fun x => ptD (highD x), ?_, by rw [List.length_map]; exact hlen, hptH, fun szH => ?_⟩
                      · rw [List.map_map]
                        congr 1
                        apply List.map_congr_left
                        intro x hx
                        obtain ⟨a, b, t, rfl, ha, hb, _⟩ := part_cases (hparts x hx)
                        exact (bnd_pt hb).1
                      · rw [List.length_map] at szH
                        have bH := szH.bd (by omega)
                        refine ⟨tot (xs.map fun x => ptD (highD x)), (1, 1), rfl, rfl, bH.1, bH.2, Bd.small (by decide) (by decide), Bd.small (by decide) (by decide), ?_⟩
                        have tH := (tot_u hptH).gt
                        have eH : decide ((tot (xs.map fun x => ptD (highD x))).1 * 1 < (1 : Int) * (tot (xs.map fun x => ptD (highD x))).2) = !decide ((totU (xs.map fun x => ptD (highD x))).2 ≤ (totU (xs.map fun x => ptD (highD x))).1) := by
                          rw [Int.one_mul, Int.mul_one, ← decide_not, Bool.eq_iff_iff, decide_eq_true_eq, decide_eq_true_eq, tH, Int.not_le]
                        refine ⟨_, rfl, ?_⟩
                        show if decide ((tot (xs.map fun x => ptD (highD x))).1 * 1 < (1 : Int) * (tot (xs.map fun x => ptD (highD x))).2) = true then _ else _
                        rw [eH]
                        cases cH : decide ((totU (xs.map fun x => ptD (highD x))).2 ≤ (totU (xs.map fun x => ptD (highD x))).1) with
                        | false =>
                          simp only [cH, Bool.false_eq_true, if_false] at h3
                          exact h3
                        | true =>
                          simp only [cH, if_true] at h3
                          simp only [Bool.not_true, Bool.false_eq_true, if_false]
                          exact ⟨_, rfl, h3⟩
    | _ =>
      simp only [wExpr, wRaise, gSb, wSeq, wNext, wRet, wRetN, wExpr, wIfS, wSet, wAsg, wPar, wAug, w1, w2, wA, aNil, aCons, wVar, wVarT, wC, tOfW, w3c, wAnd, wOr, wNot, tAnd3, tOr3, tNot3, wIf, wTup, wLst, wLstO, wCall, wSl, pNone, pSome, wipe3, List.map_cons, List.map_nil, fI2, fI2C, fI1, fAbs, addI, mulI, intI, eqS, neS, isN_, notN_, L3.isNon, gN, gsN, gsC, gT, asT, at3, List.set_cons_zero, List.set_cons_succ, Option.some.injEq, exists_eq_left', D.bl.injEq, D.int.injEq, D.tup.injEq, List.length_cons, List.length_nil, Nat.reduceAdd, true_and, if_true, if_false, Bool.false_eq_true, reduceIte, ite_true, ite_false, len_t0, len_t1, len_t2, len_t3, len_l0, len_l1, eqI, neI, Int.reduceBEq, Int.reduceLT, Int.reduceLE, Int.reduceNeg, decide_true, decide_false, Bool.not_true, Bool.not_false, ix0, ix1, ix2, and_true, and_self, isTupD, isWithin]
      cases (k : Int) == 0 <;> cases k <;> exact h2
theorem ok_fb (T : Tx K mg) : ∀ n, Good P w K mg base "found_bins" ["thing", "depth_left"] (5 + n + 1) (S_fb n)
  | 0 => fb_step T 0 (good_no 5 (d_found_bins T))
  | n + 1 => fb_step T (n + 1) (ok_fb T n)
end

end K01

set_option Elab.async false
set_option linter.all false
set_option maxRecDepth 100000
set_option maxHeartbeats 0
namespace K01
open PySem PySem.Spec L2 L3
open PyProof.Rows hiding St
/-! ### the two judges agree -/
def lkR (k : Nat) (found : List Int) : Option (Nat × List Int) → Option (List Int)
  | some (d, l) => if d ≤ k ∧ (found ++ l).Nodup then some (found ++ l) else none
  | none => none
theorem lkP_third {x : D} (h : partOk x = true) : lkP x = lk (thirdOf x) := by
  obtain ⟨a, b, t, rfl, _⟩ := part_cases h
  simp only [lkP, lkT, thirdOf]
theorem meets_iff {b found : List Int} : meets b found = true ↔ ∃ i ∈ b, i ∈ found := by
  unfold meets
  rw [List.any_eq_true]
  simp
/-- the loop of one, the fold of the other -/
theorem go_lk {k : Nat} (ih : ∀ x, fb k x = lkR k [] (lk x)) : ∀ (xs : List D) (found : List Int), (∀ x ∈ xs, partOk x = true) → found.Nodup → fbGo (fb k) xs found = lkR k found (lkL xs)
  | [], found, _, hn => by
    simp only [fbGo, lkL, lkR, List.append_nil, Nat.zero_le, true_and, hn, if_true]
  | x :: xs, found, hp, hn => by
    have hpx := hp x (by simp)
    unfold fbGo lkL
    rw [if_pos hpx, ih, lkP_third hpx]
    have rec_ := fun f hf => go_lk ih xs f (fun y hy => hp y (by simp [hy])) hf
    cases h1 : lk (thirdOf x) with
    | none => rfl
    | some p =>
      obtain ⟨d, l⟩ := p
      simp only [lkR, List.nil_append]
      by_cases c : d ≤ k ∧ l.Nodup
      · rw [if_pos c]
        simp only
        by_cases hm : meets l found = true
        · rw [if_pos hm]
          cases h2 : lkL xs with
          | none => rfl
          | some q =>
            obtain ⟨e, m⟩ := q
            simp only
            rw [if_neg]
            intro z
            have z2 := z.2
            rw [← List.append_assoc, List.nodup_append] at z2
            obtain ⟨i, hi, hf⟩ := meets_iff.mp hm
            have z3 := z2.1
            rw [List.nodup_append] at z3
            exact z3.2.2 i hf i hi rfl
        · rw [if_neg hm]
          have hfl : (found ++ l).Nodup := by
            rw [List.nodup_append]
            refine ⟨hn, c.2, fun a ha b hb e => hm (meets_iff.mpr ⟨b, hb, by rw [← e]; exact ha⟩)⟩
          rw [rec_ _ hfl]
          cases h2 : lkL xs with
          | none => rfl
          | some q =>
            obtain ⟨e, m⟩ := q
            simp only [lkR, List.append_assoc]
            have : max d e ≤ k ↔ e ≤ k := by omega
            simp only [this]
      · rw [if_neg c]
        simp only
        cases h2 : lkL xs with
        | none => rfl
        | some q =>
          obtain ⟨e, m⟩ := q
          simp only
          rw [if_neg]
          intro z
          refine c ⟨by omega, ?_⟩
          have z2 := z.2
          rw [List.nodup_append] at z2
          have z3 := z2.2.1
          rw [List.nodup_append] at z3
          exact z3.1
theorem go_parts_none {k : Nat} : ∀ (xs : List D) (found : List Int), ¬ (∀ x ∈ xs, partOk x = true) → fbGo (fb k) xs found = none
  | [], _, h => absurd (fun x hx => by cases hx) h
  | x :: xs, found, h => by
    unfold fbGo
    by_cases hp : partOk x = true
    · rw [if_pos hp]
      split
      · split
        · rfl
        · exact go_parts_none xs _ fun q => h fun y hy => (List.mem_cons.mp hy).elim (fun e => e ▸ hp) (q y)
      · rfl
    · rw [if_neg hp]
theorem fb_lk : ∀ (k : Nat) (x : D), fb k x = lkR k [] (lk x)
  | k, .int i => by
    rw [fb_int]
    simp only [lk]
    split
    · simp [lkR]
    · rfl
  | 0, .tup xs => by
    have e : fb 0 (.tup xs) = none := rfl
    rw [e]
    simp only [lk]
    split
    · cases lkL xs with
      | none => rfl
      | some p =>
        obtain ⟨d, l⟩ := p
        simp [lkR]
    · rfl
  | k + 1, .tup xs => by
    have e : fb (k + 1) (.tup xs) = if fitLen xs.length = true then (match fbGo (fb k) xs [] with
      | some r => if sumsOk xs = true then some r else none
      | none => none) else none := rfl
    rw [e]
    simp only [lk]
    cases h1 : fitLen xs.length with
    | false => rfl
    | true =>
      simp only [if_true, Bool.true_and]
      by_cases hp : ∀ x ∈ xs, partOk x = true
      · have ha : xs.all partOk = true := List.all_eq_true.mpr hp
        rw [ha, go_lk (fb_lk k) xs [] hp List.nodup_nil]
        simp only [Bool.true_and]
        cases h2 : lkL xs with
        | none =>
          simp only [lkR]
          cases sumsOk xs <;> rfl
        | some p =>
          obtain ⟨d, l⟩ := p
          simp only [lkR, List.nil_append, Option.map_some]
          cases h3 : sumsOk xs with
          | false =>
            simp only [Bool.false_eq_true, if_false]
            split <;> rfl
          | true =>
            simp only [if_true]
            have : d + 1 ≤ k + 1 ↔ d ≤ k := by omega
            simp only [this]
            by_cases c : d ≤ k ∧ l.Nodup
            · simp only [if_pos c]
            · simp only [if_neg c]
      · have ha : xs.all partOk = false := by
          rw [Bool.eq_false_iff]
          intro z
          exact hp (List.all_eq_true.mp z)
        rw [ha, go_parts_none xs [] hp]
        rfl
  | 0, .non => rfl
  | 0, .bl _ => rfl
  | 0, .str _ => rfl
  | 0, .ty _ => rfl
  | 0, .lst _ => rfl
  | 0, .lsx _ => rfl
  | 0, .dct _ _ => rfl
  | 0, .ins _ _ _ => rfl
  | 0, .ref _ => rfl
  | 0, .tpf _ => rfl
  | 0, .exc _ _ _ _ => rfl
  | _ + 1, .non => rfl
  | _ + 1, .bl _ => rfl
  | _ + 1, .str _ => rfl
  | _ + 1, .ty _ => rfl
  | _ + 1, .lst _ => rfl
  | _ + 1, .lsx _ => rfl
  | _ + 1, .dct _ _ => rfl
  | _ + 1, .ins _ _ _ => rfl
  | _ + 1, .ref _ => rfl
  | _ + 1, .tpf _ => rfl
  | _ + 1, .exc _ _ _ _ => rfl
/-- a recipe -/
def isRec (x : D) : Bool := match lk x with
  | some (d, l) => decide (d ≤ 6) && decide l.Nodup
  | none => false
theorem isRec_fb {x : D} : (fb 6 x).isSome = isRec x := by
  rw [fb_lk]
  unfold isRec
  cases lk x with
  | none => rfl
  | some p =>
    obtain ⟨d, l⟩ := p
    simp only [lkR, List.nil_append]
    by_cases h : d ≤ 6 ∧ l.Nodup
    · rw [if_pos h]
      simp [h]
    · rw [if_neg h]
      by_cases h1 : d ≤ 6
      · have : ¬ l.Nodup := fun z => h ⟨h1, z⟩
        simp [this]
      · simp [h1]
theorem isRec_lk {x : D} (h : isRec x = true) : ∃ d l, lk x = some (d, l) ∧ d ≤ 6 ∧ l.Nodup := by
  unfold isRec at h
  split at h
  · rename_i d l e
    rw [Bool.and_eq_true, decide_eq_true_eq, decide_eq_true_eq] at h
    exact ⟨d, l, e, h.1, h.2⟩
  · cases h
theorem lk_tup {xs : List D} {d : Nat} {l : List Int} (h : lk (.tup xs) = some (d, l)) : ∃ e, d = e + 1 ∧ lkL xs = some (e, l) ∧ fitLen xs.length = true ∧ (∀ x ∈ xs, partOk x = true) ∧ sumsOk xs = true := by
  simp only [lk] at h
  split at h
  · rename_i c
    simp only [Bool.and_eq_true] at c
    cases h2 : lkL xs with
    | none => rw [h2] at h; cases h
    | some p =>
      rw [h2] at h
      cases h
      exact ⟨p.1, rfl, rfl, c.1.1, List.all_eq_true.mp c.1.2, c.2⟩
  · cases h
theorem lkL_cons {x : D} {xs : List D} {e : Nat} {l : List Int} (hp : partOk x = true) (h : lkL (x :: xs) = some (e, l)) : ∃ d1 l1 d2 l2, lk (thirdOf x) = some (d1, l1) ∧ lkL xs = some (d2, l2) ∧ e = max d1 d2 ∧ l = l1 ++ l2 := by
  simp only [lkL] at h
  rw [lkP_third hp] at h
  split at h
  · rename_i d l d2 l2 h1 h2
    cases h
    exact ⟨_, _, _, _, h1, h2, rfl, rfl⟩
  · cases h
theorem lkL_mem {xs : List D} : ∀ {e : Nat} {l : List Int}, (∀ x ∈ xs, partOk x = true) → lkL xs = some (e, l) → ∀ x ∈ xs, ∃ d m, lk (thirdOf x) = some (d, m) ∧ d ≤ e ∧ ∀ i ∈ m, i ∈ l := by
  induction xs with
  | nil => intro e l _ _ x hx; cases hx
  | cons y ys ih =>
    intro e l hp h x hx
    obtain ⟨d1, l1, d2, l2, h1, h2, rfl, rfl⟩ := lkL_cons (hp y (by simp)) h
    rcases List.mem_cons.mp hx with z | z
    · rw [z]
      exact ⟨d1, l1, h1, by omega, fun i hi => by simp [hi]⟩
    · obtain ⟨d, m, k1, k2, k3⟩ := ih (fun y hy => hp y (by simp [hy])) h2 x z
      exact ⟨d, m, k1, by omega, fun i hi => by simp [k3 i hi]⟩

end K01

set_option Elab.async false
set_option linter.all false
set_option maxRecDepth 100000
set_option maxHeartbeats 0
namespace K01
open PySem PySem.Spec L2 L3
open PyProof.Rows hiding St
/-! ### what a recipe says -/
def binsOf (x : D) : List Int := match lk x with
  | some (_, l) => l
  | none => []
def depOf (x : D) : Nat := match lk x with
  | some (d, _) => d
  | none => 0
theorem bins_cat {xs : List D} : ∀ {e : Nat} {l : List Int}, (∀ x ∈ xs, partOk x = true) → lkL xs = some (e, l) → (xs.flatMap fun x => (binsOf (thirdOf x)).map D.int) = l.map D.int := by
  induction xs with
  | nil =>
    intro e l _ h
    cases h
    rfl
  | cons y ys ih =>
    intro e l hp h
    obtain ⟨d1, l1, d2, l2, h1, h2, rfl, rfl⟩ := lkL_cons (hp y (by simp)) h
    rw [List.flatMap_cons, ih (fun z hz => hp z (by simp [hz])) h2, List.map_append]
    unfold binsOf
    rw [h1]
theorem one_le_cat {h : D → List D} {y : D} : ∀ {xs : List D}, y ∈ xs → (h y).length ≤ (xs.flatMap h).length
  | x :: xs, hy => by
    rw [List.flatMap_cons, List.length_append]
    rcases List.mem_cons.mp hy with z | z
    · rw [z]
      omega
    · have := one_le_cat (h := h) z
      omega
theorem dep_le {xs : List D} : ∀ {e : Nat} {l : List Int}, (∀ x ∈ xs, partOk x = true) → lkL xs = some (e, l) → (∀ x ∈ xs, depOf (thirdOf x) ≤ e) ∧ (e ≠ 0 → ∃ x ∈ xs, depOf (thirdOf x) = e) := by
  induction xs with
  | nil =>
    intro e l _ h
    cases h
    exact ⟨(fun x hx => by cases hx), fun z => absurd rfl z⟩
  | cons y ys ih =>
    intro e l hp h
    obtain ⟨d1, l1, d2, l2, h1, h2, rfl, rfl⟩ := lkL_cons (hp y (by simp)) h
    have e1 : depOf (thirdOf y) = d1 := by
      unfold depOf
      rw [h1]
    obtain ⟨k1, k2⟩ := ih (fun z hz => hp z (by simp [hz])) h2
    refine ⟨fun x hx => ?_, fun z => ?_⟩
    · rcases List.mem_cons.mp hx with q | q
      · rw [q, e1]
        omega
      · have := k1 x q
        omega
    · by_cases c : d2 ≤ d1
      · exact ⟨y, by simp, by rw [e1]; omega⟩
      · obtain ⟨x, hx, q⟩ := k2 (by omega)
        exact ⟨x, by simp [hx], by rw [q]; omega⟩
theorem dep_max {xs : List D} {e : Nat} {l : List Int} (ne : xs ≠ []) (hp : ∀ x ∈ xs, partOk x = true) (h : lkL xs = some (e, l)) {m : Int} (hm : m ∈ (xs.map fun x => ((depOf (thirdOf x) : Nat) : Int)))
    (hy : ∀ y ∈ (xs.map fun x => ((depOf (thirdOf x) : Nat) : Int)), y ≤ m) : m = e := by
  obtain ⟨k1, k2⟩ := dep_le hp h
  obtain ⟨x, hx, rfl⟩ := List.mem_map.mp hm
  have q1 := k1 x hx
  by_cases z : e = 0
  · omega
  · obtain ⟨x2, hx2, q⟩ := k2 z
    have q2 := hy _ (List.mem_map.mpr ⟨x2, hx2, rfl⟩)
    omega
theorem dep_some {x : D} {d : Nat} {l : List Int} (h : lk x = some (d, l)) : depOf x = d ∧ binsOf x = l := by
  unfold depOf binsOf
  rw [h]
  exact ⟨rfl, rfl⟩
mutual
/-- every leaf o becomes t -/
def exD (o : Int) (t : D) : D → D
  | .int i => if i = o then t else .int i
  | .tup xs => .tup (exL o t xs)
  | x => x
def exL (o : Int) (t : D) : List D → List D
  | [] => []
  | x :: xs => exP o t x :: exL o t xs
def exP (o : Int) (t : D) : D → D
  | .tup ys => .tup (exT o t ys)
  | x => x
def exT (o : Int) (t : D) : List D → List D
  | [] => []
  | [a] => [a]
  | [a, b] => [a, b]
  | [a, b, r] => [a, b, exD o t r]
  | a :: b :: c :: d :: r => a :: b :: c :: d :: r
end
mutual
/-- every leaf i becomes the i-th of these -/
def nuD (os : List D) : D → D
  | .int i => os.getD i.toNat .non
  | .tup xs => .tup (nuL os xs)
  | x => x
def nuL (os : List D) : List D → List D
  | [] => []
  | x :: xs => nuP os x :: nuL os xs
def nuP (os : List D) : D → D
  | .tup ys => .tup (nuT os ys)
  | x => x
def nuT (os : List D) : List D → List D
  | [] => []
  | [a] => [a]
  | [a, b] => [a, b]
  | [a, b, r] => [a, b, nuD os r]
  | a :: b :: c :: d :: r => a :: b :: c :: d :: r
end
theorem exL_map {o : Int} {t : D} : ∀ xs : List D, exL o t xs = xs.map (exP o t)
  | [] => by simp only [exL, List.map_nil]
  | x :: xs => by simp only [exL, List.map_cons, exL_map xs]
theorem nuL_map {os : List D} : ∀ xs : List D, nuL os xs = xs.map (nuP os)
  | [] => by simp only [nuL, List.map_nil]
  | x :: xs => by simp only [nuL, List.map_cons, nuL_map xs]
theorem exP_part {o : Int} {t a b r : D} : exP o t (.tup [a, b, r]) = .tup [a, b, exD o t r] := by simp only [exP, exT]
theorem nuP_part {os : List D} {a b r : D} : nuP os (.tup [a, b, r]) = .tup [a, b, nuD os r] := by simp only [nuP, nuT]
theorem fit_of {n : Nat} (h : fitLen n = true) : 1 ≤ n ∧ n ≤ 8 := by
  unfold fitLen at h
  rw [Bool.and_eq_true, decide_eq_true_eq, decide_eq_true_eq] at h
  exact h
section
variable {P : Program} {w : World} {K : PySem.W.Frag} {mg : Str → Option Value} {base : Heap}
def S_is_recipe : SP3 := fun ds G R _ => match ds with
  | [x] => saneD x = true ∧ R (.bl (isRec x)) G
  | _ => False
theorem ok_is_recipe (T : Tx K mg) : Good P w K mg base "is_recipe" ["thing"] 13 S_is_recipe := by
  have g_found_bins := ok_fb (P := P) (w := w) (base := base) T 6
  refine good_of (d_is_recipe T) sc_is_recipe fun f cd A outer s H E hp tk hgd hr => ⟨_, (s_one (s_ret (c_cmp op_notN lift_notN (c_call g_found_bins (hr.mono (by omega)) hgd tk (a_cons (c_var 0) (a_cons (c_dat (v_MOST_DEPTH T)) a_nil))) c_non))), fun ds G R Ex hlen hS => ?_⟩
  clear hp tk hgd hr hlen
  match ds, hS with
  | [x], ⟨h1, h2⟩ =>
    rw [show start3 ["thing"] [x] = [some (x)] from rfl]
    simp only [wExpr, wRaise, gSb, wSeq, wNext, wRet, wRetN, wExpr, wIfS, wSet, wAsg, wPar, wAug, w1, w2, wA, aNil, aCons, wVar, wVarT, wC, tOfW, w3c, wAnd, wOr, wNot, tAnd3, tOr3, tNot3, wIf, wTup, wLst, wLstO, wCall, wSl, pNone, pSome, wipe3, List.map_cons, List.map_nil, fI2, fI2C, fI1, fAbs, addI, mulI, intI, eqS, neS, isN_, notN_, L3.isNon, gN, gsN, gsC, gT, asT, at3, List.set_cons_zero, List.set_cons_succ, Option.some.injEq, exists_eq_left', D.bl.injEq, D.int.injEq, D.tup.injEq, List.length_cons, List.length_nil, Nat.reduceAdd, true_and, if_true, if_false, Bool.false_eq_true, reduceIte, ite_true, ite_false, len_t0, len_t1, len_t2, len_t3, len_l0, len_l1, eqI, neI, Int.reduceBEq, Int.reduceLT, Int.reduceLE, Int.reduceNeg, decide_true, decide_false, Bool.not_true, Bool.not_false, ix0, ix1, ix2, and_true, and_self, S_fb, h1]
    refine ⟨6, Nat.le_refl _, Nat.le_refl _, rfl, ?_⟩
    rw [← isRec_fb] at h2
    cases h : fb 6 x with
    | none =>
      rw [h] at h2
      exact h2
    | some l =>
      rw [h] at h2
      exact h2
abbrev Bad (K : PySem.W.Frag) (x : Str) : Value := .ref (He.ga K x)
def S_check (K : PySem.W.Frag) : SP3 := fun ds G R Ex => match ds with
  | [x] => saneD x = true ∧ (isRec x = true → R .non G) ∧ (isRec x = false → ∀ env, Ex (Bad K "BadRecipe") none env G)
  | _ => False
theorem ok_check (T : Tx K mg) : Good P w K mg base "check_recipe" ["thing"] 14 (S_check K) := by
  have g_is_recipe := ok_is_recipe (P := P) (w := w) (base := base) T
  refine good_of (d_check_recipe T) sc_check_recipe fun f cd A outer s H E hp tk hgd hr => ⟨_, (s_one (s_if (t_not (t_val (c_call g_is_recipe (hr.mono (by omega)) hgd tk (a_cons (c_var 0) a_nil)))) (s_one (s_raise (e_BadRecipe T) rfl tk)) s_nil)), fun ds G R Ex hlen hS => ?_⟩
  clear hp tk hgd hr hlen
  match ds, hS with
  | [x], ⟨h1, h2, h3⟩ =>
    rw [show start3 ["thing"] [x] = [some (x)] from rfl]
    simp only [wExpr, wRaise, gSb, wSeq, wNext, wRet, wRetN, wExpr, wIfS, wSet, wAsg, wPar, wAug, w1, w2, wA, aNil, aCons, wVar, wVarT, wC, tOfW, w3c, wAnd, wOr, wNot, tAnd3, tOr3, tNot3, wIf, wTup, wLst, wLstO, wCall, wSl, pNone, pSome, wipe3, List.map_cons, List.map_nil, fI2, fI2C, fI1, fAbs, addI, mulI, intI, eqS, neS, isN_, notN_, L3.isNon, gN, gsN, gsC, gT, asT, at3, List.set_cons_zero, List.set_cons_succ, Option.some.injEq, exists_eq_left', D.bl.injEq, D.int.injEq, D.tup.injEq, List.length_cons, List.length_nil, Nat.reduceAdd, true_and, if_true, if_false, Bool.false_eq_true, reduceIte, ite_true, ite_false, len_t0, len_t1, len_t2, len_t3, len_l0, len_l1, eqI, neI, Int.reduceBEq, Int.reduceLT, Int.reduceLE, Int.reduceNeg, decide_true, decide_false, Bool.not_true, Bool.not_false, ix0, ix1, ix2, and_true, and_self, S_is_recipe, h1, wRaise]
    cases h : isRec x with
    | true => exact h2 h
    | false => exact h3 h _
theorem good_int {x : D} (h : rdD x = true) : ∀ {R : K3} {G : GH}, S_is_int [x] G R noX ↔ R (.bl (isIntD x)) G := fun {R G} => ⟨fun q => q.2, fun q => ⟨h, q⟩⟩
def S_bins (n : Nat) : SP3 := fun ds G R _ => match ds with
  | [x] => saneD x = true ∧ ∃ d l, lk x = some (d, l) ∧ d ≤ n ∧ l.length ≤ 300000 ∧ R (ilD l) G
  | _ => False
def S_binsP : Nat → SP3
  | 0 => fun _ _ _ _ => False
  | n + 1 => S_bins n
theorem bins_step (T : Tx K mg) (n : Nat) (g_recipe_bins : Good P w K mg base "recipe_bins" ["recipe"] (1 + n) (S_binsP n)) : Good P w K mg base "recipe_bins" ["recipe"] (1 + n + 1) (S_bins n) := by
  have g_is_int := ok_is_int (P := P) (w := w) (base := base) T
  refine good_of (d_recipe_bins T) sc_recipe_bins fun f cd A outer s H E hp tk hgd hr => ⟨_, (s_cons (s_if (t_val (c_call g_is_int (hr.mono (by omega)) hgd tk (a_cons (c_var 0) a_nil))) (s_one (s_ret (c_lst (a_cons (c_var 0) a_nil)))) s_nil)
      (s_one (s_ret (c_lc2 [("part", 1), ("one", 2)] [2] rfl sc_recipe_bins.nd (i_tpl (c_var 0)) (blkOk_by (by kernel_rfl)) (by decide) (by decide) (by decide) (fun _ _ _ _ _ => (g_name 1 sc_recipe_bins.nd rfl (.inl rfl))) (fun _ _ _ _ _ => ts_nil) (fun _ _ _ _ _ => (i_lst (c_call g_recipe_bins (hr.mono (by omega)) hgd takes0 (a_cons (c_ix (c_var 1) c_int) a_nil)))) (fun _ _ _ _ _ => (g_name 2 sc_recipe_bins.nd rfl (.inl rfl))) (fun _ _ _ _ _ => ts_nil) (fun _ _ _ _ _ => (c_var 2)))))), fun ds G R Ex hlen hS => ?_⟩
  clear hp tk hgd hr hlen
  match ds, hS with
  | [x], ⟨h1, d, l, h2, h3, h4, h5⟩ =>
    rw [show start3 ["recipe", "part", "one"] [x] = [some (x), none, none] from rfl]
    have hr := sane_rd x h1
    simp only [wExpr, wRaise, gSb, wSeq, wNext, wRet, wRetN, wExpr, wIfS, wSet, wAsg, wPar, wAug, w1, w2, wA, aNil, aCons, wVar, wVarT, wC, tOfW, w3c, wAnd, wOr, wNot, tAnd3, tOr3, tNot3, wIf, wTup, wLst, wLstO, wCall, wSl, pNone, pSome, wipe3, List.map_cons, List.map_nil, fI2, fI2C, fI1, fAbs, addI, mulI, intI, eqS, neS, isN_, notN_, L3.isNon, gN, gsN, gsC, gT, asT, at3, List.set_cons_zero, List.set_cons_succ, Option.some.injEq, exists_eq_left', D.bl.injEq, D.int.injEq, D.tup.injEq, List.length_cons, List.length_nil, Nat.reduceAdd, true_and, if_true, if_false, Bool.false_eq_true, reduceIte, ite_true, ite_false, len_t0, len_t1, len_t2, len_t3, len_l0, len_l1, eqI, neI, Int.reduceBEq, Int.reduceLT, Int.reduceLE, Int.reduceNeg, decide_true, decide_false, Bool.not_true, Bool.not_false, ix0, ix1, ix2, and_true, and_self, S_is_int, hr]
    match x, h1, h2, hr with
    | .int i, h1, h2, hr =>
      simp only [lk] at h2
      split at h2
      · cases h2
        exact ⟨sizeLine_eq ▸ (by decide), h5⟩
      · cases h2
    | .tup xs, h1, h2, hr =>
      obtain ⟨e, rfl, k1, k2, k3, k4⟩ := lk_tup h2
      obtain ⟨m, rfl⟩ : ∃ m, n = m + 1 := ⟨n - 1, by omega⟩
      have hs := sane_tup h1
      simp only [isIntD, Bool.false_eq_true, if_false]
      have cat := bins_cat k3 k1
      refine wLc2_tup 0 (fun x => (binsOf (thirdOf x)).map D.int) rfl rfl ?_ ?_ ?_
      · rw [cat, List.length_map]
        exact Nat.le_trans h4 (sizeLine_eq ▸ (by decide))
      · intro y hy p acc N hp hl hN
        obtain ⟨a, b, t, rfl, ha, hb, hab⟩ := part_cases (k3 y hy)
        obtain ⟨d', l', q1, q2, q3⟩ := lkL_mem k3 k1 _ hy
        obtain ⟨_, eb⟩ := dep_some q1
        rw [eb] at hN hl
        simp only [wExpr, wRaise, gSb, wSeq, wNext, wRet, wRetN, wExpr, wIfS, wSet, wAsg, wPar, wAug, w1, w2, wA, aNil, aCons, wVar, wVarT, wC, tOfW, w3c, wAnd, wOr, wNot, tAnd3, tOr3, tNot3, wIf, wTup, wLst, wLstO, wCall, wSl, pNone, pSome, wipe3, List.map_cons, List.map_nil, fI2, fI2C, fI1, fAbs, addI, mulI, intI, eqS, neS, isN_, notN_, L3.isNon, gN, gsN, gsC, gT, asT, at3, List.set_cons_zero, List.set_cons_succ, Option.some.injEq, exists_eq_left', D.bl.injEq, D.int.injEq, D.tup.injEq, List.length_cons, List.length_nil, Nat.reduceAdd, true_and, if_true, if_false, Bool.false_eq_true, reduceIte, ite_true, ite_false, len_t0, len_t1, len_t2, len_t3, len_l0, len_l1, eqI, neI, Int.reduceBEq, Int.reduceLT, Int.reduceLE, Int.reduceNeg, decide_true, decide_false, Bool.not_true, Bool.not_false, ix0, ix1, ix2, and_true, and_self, iLst, S_binsP, S_bins]
        refine ⟨sane_tup (hs _ hy) t (by simp), d', l', q1, by omega, ?_, ?_⟩
        · have q4 : ((binsOf (thirdOf (D.tup [a, b, t]))).map D.int).length ≤ (xs.flatMap fun x => (binsOf (thirdOf x)).map D.int).length := by
            exact one_le_cat (h := fun x => (binsOf (thirdOf x)).map D.int) hy
          rw [cat, eb, List.length_map, List.length_map] at q4
          omega
        · refine ⟨l'.map D.int, rfl, ?_⟩
          refine lcIn_map (fun d => d) hp (fun _ _ => trivial) (l'.map D.int) acc ?_ hl (by rw [List.map_id']; exact hN)
          intro d hd acc Q hQ
          simp only [wExpr, wRaise, gSb, wSeq, wNext, wRet, wRetN, wExpr, wIfS, wSet, wAsg, wPar, wAug, w1, w2, wA, aNil, aCons, wVar, wVarT, wC, tOfW, w3c, wAnd, wOr, wNot, tAnd3, tOr3, tNot3, wIf, wTup, wLst, wLstO, wCall, wSl, pNone, pSome, wipe3, List.map_cons, List.map_nil, fI2, fI2C, fI1, fAbs, addI, mulI, intI, eqS, neS, isN_, notN_, L3.isNon, gN, gsN, gsC, gT, asT, at3, List.set_cons_zero, List.set_cons_succ, Option.some.injEq, exists_eq_left', D.bl.injEq, D.int.injEq, D.tup.injEq, List.length_cons, List.length_nil, Nat.reduceAdd, true_and, if_true, if_false, Bool.false_eq_true, reduceIte, ite_true, ite_false, len_t0, len_t1, len_t2, len_t3, len_l0, len_l1, eqI, neI, Int.reduceBEq, Int.reduceLT, Int.reduceLE, Int.reduceNeg, decide_true, decide_false, Bool.not_true, Bool.not_false, ix0, ix1, ix2, and_true, and_self]
          exact hQ
      · rw [cat]
        exact h5
theorem ok_bins (T : Tx K mg) : ∀ n, Good P w K mg base "recipe_bins" ["recipe"] (1 + n + 1) (S_bins n)
  | 0 => bins_step T 0 (good_no 1 (d_recipe_bins T))
  | n + 1 => bins_step T (n + 1) (ok_bins T n)
end

end K01

set_option Elab.async false
set_option linter.all false
set_option maxRecDepth 100000
set_option maxHeartbeats 0
namespace K01
open PySem PySem.Spec L2 L3
open PyProof.Rows hiding St
theorem isRec_bins {x : D} (h : isRec x = true) : ∃ d l, lk x = some (d, l) ∧ d ≤ 6 ∧ l.Nodup ∧ l.length ≤ 300000 ∧ binsOf x = l ∧ depOf x = d := by
  obtain ⟨d, l, h1, h2, h3⟩ := isRec_lk h
  have hb : fb 6 x = some l := by
    rw [fb_lk, h1]
    simp only [lkR, List.nil_append]
    rw [if_pos ⟨h2, h3⟩]
  have q := fb_len 6 x l hb
  obtain ⟨e1, e2⟩ := dep_some h1
  exact ⟨d, l, h1, h2, h3, Nat.le_trans q (by decide), e2, e1⟩
mutual
theorem sane_ex {o : Int} {t : D} (ht : saneD t = true) : ∀ x : D, saneD x = true → saneD (exD o t x) = true
  | .int i, h => by
    simp only [exD]
    split
    · exact ht
    · exact h
  | .tup xs, h => by
    simp only [exD]
    exact sane_exL ht xs h
  | .non, h => h
  | .bl _, h => h
  | .str _, h => h
  | .ty _, h => h
  | .lst _, h => h
  | .lsx _, h => h
  | .dct _ _, h => h
  | .ins _ _ _, h => h
  | .ref _, h => h
  | .tpf _, h => h
  | .exc _ _ _ _, h => h
theorem sane_exL {o : Int} {t : D} (ht : saneD t = true) : ∀ xs : List D, saneL xs = true → saneL (exL o t xs) = true
  | [], _ => rfl
  | x :: xs, h => by
    have h' : (saneD x && saneL xs) = true := h
    rw [Bool.and_eq_true] at h'
    simp only [exL, saneL, Bool.and_eq_true]
    exact ⟨sane_exP ht x h'.1, sane_exL ht xs h'.2⟩
theorem sane_exP {o : Int} {t : D} (ht : saneD t = true) : ∀ x : D, saneD x = true → saneD (exP o t x) = true
  | .tup ys, h => by
    simp only [exP]
    exact sane_exT ht ys h
  | .int _, h => h
  | .non, h => h
  | .bl _, h => h
  | .str _, h => h
  | .ty _, h => h
  | .lst _, h => h
  | .lsx _, h => h
  | .dct _ _, h => h
  | .ins _ _ _, h => h
  | .ref _, h => h
  | .tpf _, h => h
  | .exc _ _ _ _, h => h
theorem sane_exT {o : Int} {t : D} (ht : saneD t = true) : ∀ xs : List D, saneL xs = true → saneL (exT o t xs) = true
  | [], h => by simpa only [exT] using h
  | [a], h => by simpa only [exT] using h
  | [a, b], h => by simpa only [exT] using h
  | [a, b, r], h => by
    simp only [exT]
    simp only [saneL, Bool.and_eq_true] at h ⊢
    exact ⟨h.1, h.2.1, sane_ex ht r h.2.2.1, trivial⟩
  | a :: b :: c :: d :: r, h => by simpa only [exT] using h
end
section
variable {P : Program} {w : World} {K : PySem.W.Frag} {mg : Str → Option Value} {base : Heap}
theorem sorted_ints {l : List Int} {G : GH} {R : K3} (h : ∀ ns' : List Int, ns'.Perm l → ns'.Pairwise (· ≤ ·) → R (ilD ns') G) : fSorted3 [ilD l] G R := ⟨_, l.map D.int, l, rfl, rfl, L3.ints_map l, h⟩
def S_bins_of : SP3 := fun ds G R _ => match ds with
  | [x] => saneD x = true ∧ isRec x = true ∧ ∀ ns' : List Int, ns'.Perm (binsOf x) → ns'.Pairwise (· ≤ ·) → R (.tup (ns'.map D.int)) G
  | _ => False
theorem ok_bins_of (T : Tx K mg) : Good P w K mg base "bins_of" ["recipe"] 15 S_bins_of := by
  have g_check_recipe := ok_check (P := P) (w := w) (base := base) T
  have g_recipe_bins := ok_bins (P := P) (w := w) (base := base) T 6
  refine good_of (d_bins_of T) sc_bins_of fun f cd A outer s H E hp tk hgd hr => ⟨_, (s_cons (s_expr (c_call g_check_recipe (hr.mono (by omega)) hgd tk (a_cons (c_var 0) a_nil)))
      (s_one (s_ret (c_callT call_tuple_of lift_tuple (n_tuple T) (a_cons (c_callB call_sorted3 lift_sorted3 (n_sorted T) (a_cons (c_call g_recipe_bins (hr.mono (by omega)) hgd tk (a_cons (c_var 0) a_nil)) a_nil)) a_nil))))), fun ds G R Ex hlen hS => ?_⟩
  clear hp tk hgd hr hlen
  match ds, hS with
  | [x], ⟨h1, h2, h3⟩ =>
    rw [show start3 ["recipe"] [x] = [some (x)] from rfl]
    obtain ⟨d, l, k1, k2, k3, k4, k5, k6⟩ := isRec_bins h2
    rw [k5] at h3
    simp only [wExpr, wRaise, gSb, wSeq, wNext, wRet, wRetN, wExpr, wIfS, wSet, wAsg, wPar, wAug, w1, w2, wA, aNil, aCons, wVar, wVarT, wC, tOfW, w3c, wAnd, wOr, wNot, tAnd3, tOr3, tNot3, wIf, wTup, wLst, wLstO, wCall, wSl, pNone, pSome, wipe3, List.map_cons, List.map_nil, fI2, fI2C, fI1, fAbs, addI, mulI, intI, eqS, neS, isN_, notN_, L3.isNon, gN, gsN, gsC, gT, asT, at3, List.set_cons_zero, List.set_cons_succ, Option.some.injEq, exists_eq_left', D.bl.injEq, D.int.injEq, D.tup.injEq, List.length_cons, List.length_nil, Nat.reduceAdd, true_and, if_true, if_false, Bool.false_eq_true, reduceIte, ite_true, ite_false, len_t0, len_t1, len_t2, len_t3, len_l0, len_l1, eqI, neI, Int.reduceBEq, Int.reduceLT, Int.reduceLE, Int.reduceNeg, decide_true, decide_false, Bool.not_true, Bool.not_false, ix0, ix1, ix2, and_true, and_self, S_check, h1, h2, S_bins, wExpr]
    refine ⟨fun _ => ⟨d, l, k1, k2, k4, ?_⟩, fun z => by cases z⟩
    refine sorted_ints fun ns' p q => ?_
    show fTuple [.lst (ns'.map D.int)] G R
    rw [tuple_lst]
    exact h3 ns' p q
def S_dep (n : Nat) : SP3 := fun ds G R _ => match ds with
  | [x] => saneD x = true ∧ ∃ d l, lk x = some (d, l) ∧ d ≤ n ∧ R (.int (d : Nat)) G
  | _ => False
def S_depP : Nat → SP3
  | 0 => fun _ _ _ _ => False
  | n + 1 => S_dep n
theorem dep_step (T : Tx K mg) (n : Nat) (g_depth_of : Good P w K mg base "depth_of" ["recipe"] (1 + n) (S_depP n)) : Good P w K mg base "depth_of" ["recipe"] (1 + n + 1) (S_dep n) := by
  have g_is_int := ok_is_int (P := P) (w := w) (base := base) T
  refine good_of (d_depth_of T) sc_depth_of fun f cd A outer s H E hp tk hgd hr => ⟨_, (s_cons (s_if (t_val (c_call g_is_int (hr.mono (by omega)) hgd tk (a_cons (c_var 0) a_nil))) (s_one (s_ret c_int)) s_nil)
      (s_one (s_ret (c_op op_add3 lift_add c_int (c_callB (call_max3 rfl) lift_max (n_max T) (a_cons (c_lc [("part", 1)] rfl sc_depth_of.nd (i_tpl (c_var 0)) (blkOk_by (by kernel_rfl)) (by decide) (fun _ _ _ _ _ => (g_name 1 sc_depth_of.nd rfl (.inl rfl))) (fun _ _ _ _ _ => ts_nil) (fun _ _ _ _ _ => (c_call g_depth_of (hr.mono (by omega)) hgd takes0 (a_cons (c_ix (c_var 1) c_int) a_nil)))) a_nil)))))), fun ds G R Ex hlen hS => ?_⟩
  clear hp tk hgd hr hlen
  match ds, hS with
  | [x], ⟨h1, d, l, h2, h3, h5⟩ =>
    rw [show start3 ["recipe", "part"] [x] = [some (x), none] from rfl]
    have hr := sane_rd x h1
    simp only [wExpr, wRaise, gSb, wSeq, wNext, wRet, wRetN, wExpr, wIfS, wSet, wAsg, wPar, wAug, w1, w2, wA, aNil, aCons, wVar, wVarT, wC, tOfW, w3c, wAnd, wOr, wNot, tAnd3, tOr3, tNot3, wIf, wTup, wLst, wLstO, wCall, wSl, pNone, pSome, wipe3, List.map_cons, List.map_nil, fI2, fI2C, fI1, fAbs, addI, mulI, intI, eqS, neS, isN_, notN_, L3.isNon, gN, gsN, gsC, gT, asT, at3, List.set_cons_zero, List.set_cons_succ, Option.some.injEq, exists_eq_left', D.bl.injEq, D.int.injEq, D.tup.injEq, List.length_cons, List.length_nil, Nat.reduceAdd, true_and, if_true, if_false, Bool.false_eq_true, reduceIte, ite_true, ite_false, len_t0, len_t1, len_t2, len_t3, len_l0, len_l1, eqI, neI, Int.reduceBEq, Int.reduceLT, Int.reduceLE, Int.reduceNeg, decide_true, decide_false, Bool.not_true, Bool.not_false, ix0, ix1, ix2, and_true, and_self, S_is_int, hr]
    match x, h1, h2, hr with
    | .int i, h1, h2, hr =>
      simp only [lk] at h2
      split at h2
      · cases h2
        exact h5
      · cases h2
    | .tup xs, h1, h2, hr =>
      obtain ⟨e, rfl, k1, k2, k3, k4⟩ := lk_tup h2
      obtain ⟨m, rfl⟩ : ∃ m, n = m + 1 := ⟨n - 1, by omega⟩
      have hs := sane_tup h1
      have hf := fit_of k2
      simp only [isIntD, Bool.false_eq_true, if_false]
      refine wLc_tup 0 (fun x => .int ((depOf (thirdOf x) : Nat) : Int)) rfl rfl (by rw [sizeLine_eq]; omega) ?_ ?_
      · intro y hy p acc Q hp hQ
        obtain ⟨a, b, t, rfl, ha, hb, hab⟩ := part_cases (k3 y hy)
        obtain ⟨d', l', q1, q2, q3⟩ := lkL_mem k3 k1 _ hy
        obtain ⟨ed, _⟩ := dep_some q1
        rw [ed] at hQ
        simp only [wExpr, wRaise, gSb, wSeq, wNext, wRet, wRetN, wExpr, wIfS, wSet, wAsg, wPar, wAug, w1, w2, wA, aNil, aCons, wVar, wVarT, wC, tOfW, w3c, wAnd, wOr, wNot, tAnd3, tOr3, tNot3, wIf, wTup, wLst, wLstO, wCall, wSl, pNone, pSome, wipe3, List.map_cons, List.map_nil, fI2, fI2C, fI1, fAbs, addI, mulI, intI, eqS, neS, isN_, notN_, L3.isNon, gN, gsN, gsC, gT, asT, at3, List.set_cons_zero, List.set_cons_succ, Option.some.injEq, exists_eq_left', D.bl.injEq, D.int.injEq, D.tup.injEq, List.length_cons, List.length_nil, Nat.reduceAdd, true_and, if_true, if_false, Bool.false_eq_true, reduceIte, ite_true, ite_false, len_t0, len_t1, len_t2, len_t3, len_l0, len_l1, eqI, neI, Int.reduceBEq, Int.reduceLT, Int.reduceLE, Int.reduceNeg, decide_true, decide_false, Bool.not_true, Bool.not_false, ix0, ix1, ix2, and_true, and_self, S_depP, S_dep]
        exact ⟨sane_tup (hs _ hy) t (by simp), d', l', q1, by omega, hQ⟩
      · refine ⟨_, xs.map fun x => ((depOf (thirdOf x) : Nat) : Int), rfl, ?_, by rw [List.length_map]; omega, fun mx hm hy => ?_⟩
        · rw [← L3.ints_map, List.map_map]
          rfl
        · have e1 := dep_max (by intro z; rw [z] at hf; simp at hf) k3 k1 hm hy
          rw [e1]
          have e2 : (1 : Int) + (e : Int) = ((e + 1 : Nat) : Int) := by omega
          show R (.int ((1 : Int) + (e : Int))) G
          rw [e2]
          exact h5
theorem ok_dep (T : Tx K mg) : ∀ n, Good P w K mg base "depth_of" ["recipe"] (1 + n + 1) (S_dep n)
  | 0 => dep_step T 0 (good_no 1 (d_depth_of T))
  | n + 1 => dep_step T (n + 1) (ok_dep T n)
def S_depth : SP3 := fun ds G R _ => match ds with
  | [x] => saneD x = true ∧ isRec x = true ∧ R (.int (depOf x : Nat)) G
  | _ => False
theorem ok_depth (T : Tx K mg) : Good P w K mg base "depth" ["recipe"] 15 S_depth := by
  have g_check_recipe := ok_check (P := P) (w := w) (base := base) T
  have g_depth_of := ok_dep (P := P) (w := w) (base := base) T 6
  refine good_of (d_depth T) sc_depth fun f cd A outer s H E hp tk hgd hr => ⟨_, (s_cons (s_expr (c_call g_check_recipe (hr.mono (by omega)) hgd tk (a_cons (c_var 0) a_nil)))
      (s_one (s_ret (c_call g_depth_of (hr.mono (by omega)) hgd tk (a_cons (c_var 0) a_nil))))), fun ds G R Ex hlen hS => ?_⟩
  clear hp tk hgd hr hlen
  match ds, hS with
  | [x], ⟨h1, h2, h3⟩ =>
    rw [show start3 ["recipe"] [x] = [some (x)] from rfl]
    obtain ⟨d, l, k1, k2, k3, k4, k5, k6⟩ := isRec_bins h2
    rw [k6] at h3
    simp only [wExpr, wRaise, gSb, wSeq, wNext, wRet, wRetN, wExpr, wIfS, wSet, wAsg, wPar, wAug, w1, w2, wA, aNil, aCons, wVar, wVarT, wC, tOfW, w3c, wAnd, wOr, wNot, tAnd3, tOr3, tNot3, wIf, wTup, wLst, wLstO, wCall, wSl, pNone, pSome, wipe3, List.map_cons, List.map_nil, fI2, fI2C, fI1, fAbs, addI, mulI, intI, eqS, neS, isN_, notN_, L3.isNon, gN, gsN, gsC, gT, asT, at3, List.set_cons_zero, List.set_cons_succ, Option.some.injEq, exists_eq_left', D.bl.injEq, D.int.injEq, D.tup.injEq, List.length_cons, List.length_nil, Nat.reduceAdd, true_and, if_true, if_false, Bool.false_eq_true, reduceIte, ite_true, ite_false, len_t0, len_t1, len_t2, len_t3, len_l0, len_l1, eqI, neI, Int.reduceBEq, Int.reduceLT, Int.reduceLE, Int.reduceNeg, decide_true, decide_false, Bool.not_true, Bool.not_false, ix0, ix1, ix2, and_true, and_self, S_check, h1, h2, S_dep, wExpr]
    exact ⟨fun _ => ⟨d, l, k1, k2, h3⟩, fun z => by cases z⟩
def S_ex (n : Nat) : SP3 := fun ds G R _ => match ds with
  | [x, y, t] => saneD x = true ∧ ∃ (o : Int) (d : Nat) (l : List Int), y = .int o ∧ lk x = some (d, l) ∧ d ≤ n ∧ R (exD o t x) G
  | _ => False
def S_exP : Nat → SP3
  | 0 => fun _ _ _ _ => False
  | n + 1 => S_ex n
theorem ex_step (T : Tx K mg) (n : Nat) (g_exchanged : Good P w K mg base "exchanged" ["recipe", "old", "other"] (1 + n) (S_exP n)) : Good P w K mg base "exchanged" ["recipe", "old", "other"] (1 + n + 1) (S_ex n) := by
  have g_is_int := ok_is_int (P := P) (w := w) (base := base) T
  refine good_of (d_exchanged T) sc_exchanged fun f cd A outer s H E hp tk hgd hr => ⟨_, (s_cons (s_if (t_val (c_call g_is_int (hr.mono (by omega)) hgd tk (a_cons (c_var 0) a_nil))) (s_one (s_ret (c_if (t_cmp (op_eq3 hr.units) lift_eq (c_var 0) (c_var 1)) (c_var 2) (c_var 0)))) s_nil)
      (s_one (s_ret (c_callT call_tuple_of lift_tuple (n_tuple T) (a_cons (c_lc [("part", 3)] rfl sc_exchanged.nd (i_tpl (c_var 0)) (blkOk_by (by kernel_rfl)) (by decide) (fun _ _ _ _ _ => (g_name 3 sc_exchanged.nd rfl (.inl rfl))) (fun _ _ _ _ _ => ts_nil) (fun _ _ _ _ _ => (c_tup (a_cons (c_ix (c_var 3) c_int) (a_cons (c_ix (c_var 3) c_int) (a_cons (c_call g_exchanged (hr.mono (by omega)) hgd takes0 (a_cons (c_ix (c_var 3) c_int) (a_cons (c_var 1) (a_cons (c_var 2) a_nil)))) a_nil)))))) a_nil))))), fun ds G R Ex hlen hS => ?_⟩
  clear hp tk hgd hr hlen
  match ds, hS with
  | [x, y, u], ⟨h1, o, d, l, h0, h2, h3, h5⟩ =>
    subst h0
    rw [show start3 ["recipe", "old", "other", "part"] [x, .int o, u] = [some (x), some (.int o), some (u), none] from rfl]
    have hr := sane_rd x h1
    simp only [wExpr, wRaise, gSb, wSeq, wNext, wRet, wRetN, wExpr, wIfS, wSet, wAsg, wPar, wAug, w1, w2, wA, aNil, aCons, wVar, wVarT, wC, tOfW, w3c, wAnd, wOr, wNot, tAnd3, tOr3, tNot3, wIf, wTup, wLst, wLstO, wCall, wSl, pNone, pSome, wipe3, List.map_cons, List.map_nil, fI2, fI2C, fI1, fAbs, addI, mulI, intI, eqS, neS, isN_, notN_, L3.isNon, gN, gsN, gsC, gT, asT, at3, List.set_cons_zero, List.set_cons_succ, Option.some.injEq, exists_eq_left', D.bl.injEq, D.int.injEq, D.tup.injEq, List.length_cons, List.length_nil, Nat.reduceAdd, true_and, if_true, if_false, Bool.false_eq_true, reduceIte, ite_true, ite_false, len_t0, len_t1, len_t2, len_t3, len_l0, len_l1, eqI, neI, Int.reduceBEq, Int.reduceLT, Int.reduceLE, Int.reduceNeg, decide_true, decide_false, Bool.not_true, Bool.not_false, ix0, ix1, ix2, and_true, and_self, S_is_int, hr]
    match x, h1, h2, hr, h5 with
    | .int i, h1, h2, hr, h5 =>
      simp only [exD] at h5
      simp only [isIntD, if_true, wExpr, wRaise, gSb, wSeq, wNext, wRet, wRetN, wExpr, wIfS, wSet, wAsg, wPar, wAug, w1, w2, wA, aNil, aCons, wVar, wVarT, wC, tOfW, w3c, wAnd, wOr, wNot, tAnd3, tOr3, tNot3, wIf, wTup, wLst, wLstO, wCall, wSl, pNone, pSome, wipe3, List.map_cons, List.map_nil, fI2, fI2C, fI1, fAbs, addI, mulI, intI, eqS, neS, isN_, notN_, L3.isNon, gN, gsN, gsC, gT, asT, at3, List.set_cons_zero, List.set_cons_succ, Option.some.injEq, exists_eq_left', D.bl.injEq, D.int.injEq, D.tup.injEq, List.length_cons, List.length_nil, Nat.reduceAdd, true_and, if_true, if_false, Bool.false_eq_true, reduceIte, ite_true, ite_false, len_t0, len_t1, len_t2, len_t3, len_l0, len_l1, eqI, neI, Int.reduceBEq, Int.reduceLT, Int.reduceLE, Int.reduceNeg, decide_true, decide_false, Bool.not_true, Bool.not_false, ix0, ix1, ix2, and_true, and_self]
      by_cases z : i = o
      · rw [if_pos z] at h5
        simpa [z] using h5
      · rw [if_neg z] at h5
        have zb : (i == o) = false := by simpa using z
        simpa [zb] using h5
    | .tup xs, h1, h2, hr, h5 =>
      obtain ⟨e, rfl, k1, k2, k3, k4⟩ := lk_tup h2
      obtain ⟨m, rfl⟩ : ∃ m, n = m + 1 := ⟨n - 1, by omega⟩
      have hs := sane_tup h1
      have hf := fit_of k2
      simp only [isIntD, Bool.false_eq_true, if_false]
      refine wLc_tup 0 (exP o u) rfl rfl (by rw [sizeLine_eq]; omega) ?_ ?_
      · intro y hy p acc Q hp hQ
        obtain ⟨a, b, t, rfl, ha, hb, hab⟩ := part_cases (k3 y hy)
        obtain ⟨d', l', q1, q2, q3⟩ := lkL_mem k3 k1 _ hy
        rw [exP_part] at hQ
        simp only [wExpr, wRaise, gSb, wSeq, wNext, wRet, wRetN, wExpr, wIfS, wSet, wAsg, wPar, wAug, w1, w2, wA, aNil, aCons, wVar, wVarT, wC, tOfW, w3c, wAnd, wOr, wNot, tAnd3, tOr3, tNot3, wIf, wTup, wLst, wLstO, wCall, wSl, pNone, pSome, wipe3, List.map_cons, List.map_nil, fI2, fI2C, fI1, fAbs, addI, mulI, intI, eqS, neS, isN_, notN_, L3.isNon, gN, gsN, gsC, gT, asT, at3, List.set_cons_zero, List.set_cons_succ, Option.some.injEq, exists_eq_left', D.bl.injEq, D.int.injEq, D.tup.injEq, List.length_cons, List.length_nil, Nat.reduceAdd, true_and, if_true, if_false, Bool.false_eq_true, reduceIte, ite_true, ite_false, len_t0, len_t1, len_t2, len_t3, len_l0, len_l1, eqI, neI, Int.reduceBEq, Int.reduceLT, Int.reduceLE, Int.reduceNeg, decide_true, decide_false, Bool.not_true, Bool.not_false, ix0, ix1, ix2, and_true, and_self, S_exP, S_ex]
        exact ⟨sane_tup (hs _ hy) t (by simp), o, d', l', rfl, q1, by omega, sizeLine_eq ▸ (by decide), hQ⟩
      · rw [tuple_lst]
        simp only [exD, exL_map] at h5
        exact h5
theorem ok_ex (T : Tx K mg) : ∀ n, Good P w K mg base "exchanged" ["recipe", "old", "other"] (1 + n + 1) (S_ex n)
  | 0 => ex_step T 0 (good_no 1 (d_exchanged T))
  | n + 1 => ex_step T (n + 1) (ok_ex T n)
/-- what put does -/
inductive Out where
  | got (d : D)
  | bad (x : Str)
def putO (x o t : D) : Out :=
  if isRec x = false then .bad "BadRecipe" else
  if (isIntD o && (binsOf x).contains (intOf o)) = false then .bad "NoBin" else
  if isRec t = false then .bad "BadRecipe" else
  if isRec (exD (intOf o) t x) = false then .bad "BadRecipe" else .got (exD (intOf o) t x)
def outS (K : PySem.W.Frag) (o : Out) (G : GH) (R : K3) (Ex : X3) : Prop := match o with
  | .got d => R d G
  | .bad x => ∀ env, Ex (Bad K x) none env G
def S_put (K : PySem.W.Frag) : SP3 := fun ds G R Ex => match ds with
  | [x, o, t] => saneD x = true ∧ saneD o = true ∧ saneD t = true ∧ outS K (putO x o t) G R Ex
  | _ => False
theorem ok_put (T : Tx K mg) : Good P w K mg base "put" ["recipe", "old", "other"] 15 (S_put K) := by
  have g_is_int := ok_is_int (P := P) (w := w) (base := base) T
  have g_check_recipe := ok_check (P := P) (w := w) (base := base) T
  have g_recipe_bins := ok_bins (P := P) (w := w) (base := base) T 6
  have g_exchanged := ok_ex (P := P) (w := w) (base := base) T 6
  refine good_of (d_put T) sc_put fun f cd A outer s H E hp tk hgd hr => ⟨_, (s_cons (s_expr (c_call g_check_recipe (hr.mono (by omega)) hgd tk (a_cons (c_var 0) a_nil)))
      (s_cons (s_if (t_w (o_or (t_not (t_val (c_call g_is_int (hr.mono (by omega)) hgd tk (a_cons (c_var 1) a_nil)))) (o_or1 (t_cmp op_notIn_seq lift_in (c_var 1) (c_call g_recipe_bins (hr.mono (by omega)) hgd tk (a_cons (c_var 0) a_nil)))))) (s_one (s_raise (e_NoBin T) rfl tk)) s_nil)
      (s_cons (s_expr (c_call g_check_recipe (hr.mono (by omega)) hgd tk (a_cons (c_var 2) a_nil)))
      (s_cons (s_set 3 sc_put.nd rfl (.inl rfl) rfl (c_call g_exchanged (hr.mono (by omega)) hgd tk (a_cons (c_var 0) (a_cons (c_var 1) (a_cons (c_var 2) a_nil)))))
      (s_cons (s_expr (c_call g_check_recipe (hr.mono (by omega)) hgd tk (a_cons (c_var 3) a_nil)))
      (s_one (s_ret (c_var 3)))))))), fun ds G R Ex hlen hS => ?_⟩
  clear hp tk hgd hr hlen
  match ds, hS with
  | [x, o, t], ⟨h1, h2, h3, h4⟩ =>
    rw [show start3 ["recipe", "old", "other", "found"] [x, o, t] = [some (x), some (o), some (t), none] from rfl]
    simp only [wExpr, wRaise, gSb, wSeq, wNext, wRet, wRetN, wExpr, wIfS, wSet, wAsg, wPar, wAug, w1, w2, wA, aNil, aCons, wVar, wVarT, wC, tOfW, w3c, wAnd, wOr, wNot, tAnd3, tOr3, tNot3, wIf, wTup, wLst, wLstO, wCall, wSl, pNone, pSome, wipe3, List.map_cons, List.map_nil, fI2, fI2C, fI1, fAbs, addI, mulI, intI, eqS, neS, isN_, notN_, L3.isNon, gN, gsN, gsC, gT, asT, at3, List.set_cons_zero, List.set_cons_succ, Option.some.injEq, exists_eq_left', D.bl.injEq, D.int.injEq, D.tup.injEq, List.length_cons, List.length_nil, Nat.reduceAdd, true_and, if_true, if_false, Bool.false_eq_true, reduceIte, ite_true, ite_false, len_t0, len_t1, len_t2, len_t3, len_l0, len_l1, eqI, neI, Int.reduceBEq, Int.reduceLT, Int.reduceLE, Int.reduceNeg, decide_true, decide_false, Bool.not_true, Bool.not_false, ix0, ix1, ix2, and_true, and_self, S_check, h1, sane_rd o h2, S_is_int, S_bins, S_ex, wExpr, wRaise]
    unfold putO at h4
    cases r1 : isRec x with
    | false =>
      rw [r1] at h4
      exact ⟨fun z => (by cases z), fun _ env => h4 _⟩
    | true =>
      rw [r1] at h4
      obtain ⟨d, l, k1, k2, k3, k4, k5, k6⟩ := isRec_bins r1
      rw [k5] at h4
      refine ⟨fun _ => ?_, fun z => (by cases z)⟩
      match o, h2, h4 with
      | .int i, h2, h4 =>
        simp only [isIntD, Bool.not_true, Bool.false_eq_true, if_false]
        refine ⟨d, l, k1, k2, k4, l.map D.int, rfl, rfl, flat_ints, ?_⟩
        rw [inF_int]
        refine ⟨_, rfl, ?_⟩
        simp only [isIntD, Bool.true_and, intOf] at h4
        cases c : l.contains i with
        | false =>
          rw [c] at h4
          exact h4 _
        | true =>
          rw [c] at h4
          simp only [Bool.not_true, Bool.false_eq_true, if_false]
          cases r2 : isRec t with
          | false =>
            rw [r2] at h4
            exact ⟨h3, fun z => (by cases z), fun _ env => h4 _⟩
          | true =>
            rw [r2] at h4
            refine ⟨h3, fun _ => ⟨i, d, l, rfl, k1, k2, sane_ex h3 x h1, fun r3 => ?_, fun r3 env => ?_⟩, fun z => (by cases z)⟩
            · simp only [r3] at h4
              exact h4
            · simp only [r3] at h4
              exact h4 _
      | .non, _, h4 => exact h4 _
      | .bl _, _, h4 => exact h4 _
      | .str _, _, h4 => exact h4 _
      | .ty _, _, h4 => exact h4 _
      | .tup _, _, h4 => exact h4 _
      | .lst _, _, h4 => exact h4 _
      | .lsx _, _, h4 => exact h4 _
      | .dct _ _, _, h4 => exact h4 _
      | .ins _ _ _, _, h4 => exact h4 _
      | .ref _, _, h4 => exact h4 _
      | .tpf _, _, h4 => exact h4 _
      | .exc _ _ _ _, _, h4 => exact h4 _
end

end K01

set_option Elab.async false
set_option linter.all false
set_option maxRecDepth 100000
set_option maxHeartbeats 0
namespace K01
open PySem PySem.Spec L2 L3
open PyProof.Rows hiding St
def ordI : D → Option (List Int)
  | .tup os => intsD os
  | _ => none
def ordOf : D → List D
  | .tup os => os
  | _ => []
def inR (i : Int) : Bool := decide (0 ≤ i) && decide (i ≤ 7)
def isOrd (o : D) : Bool := match ordI o with
  | some ns => decide (ns.length = 8) && ns.all inR && decide ns.Nodup
  | none => false
theorem isOrd_tup {os : List D} : isOrd (.tup os) = (match intsD os with
  | some ns => decide (ns.length = 8) && ns.all inR && decide ns.Nodup
  | none => false) := rfl
theorem ints_len {os : List D} {ns : List Int} (h : intsD os = some ns) : os = ns.map D.int := by
  induction os generalizing ns with
  | nil => cases h; rfl
  | cons a os ih =>
    cases a with
    | int b =>
      obtain ⟨cs, h1, rfl⟩ := Option.map_eq_some_iff.mp (show (intsD os).map (b :: ·) = some ns from h)
      rw [List.map_cons, ← ih h1]
    | _ => cases h
theorem within_ints {os : List D} (h : ∀ d ∈ os, isWithin d 0 7 = true) : ∃ ns, intsD os = some ns ∧ ns.all inR = true := by
  induction os with
  | nil => exact ⟨[], rfl, rfl⟩
  | cons a os ih =>
    obtain ⟨ns, h1, h2⟩ := ih fun d hd => h d (by simp [hd])
    have ha := h a (by simp)
    cases a with
    | int b =>
      refine ⟨b :: ns, ?_, ?_⟩
      · show (intsD os).map (b :: ·) = _
        rw [h1]
        rfl
      · rw [List.all_cons, h2, Bool.and_true]
        exact ha
    | _ => cases ha
theorem ints_within {os : List D} {ns : List Int} (h : intsD os = some ns) (k : ns.all inR = true) : (os.map fun d => isWithin d 0 7).all id = true := by
  rw [ints_len h, List.map_map, List.all_map]
  exact k
section
variable {P : Program} {w : World} {K : PySem.W.Frag} {mg : Str → Option Value} {base : Heap}
def S_nu (n : Nat) : SP3 := fun ds G R _ => match ds with
  | [x, y] => saneD x = true ∧ ∃ (os : List D) (d : Nat) (l : List Int), y = .tup os ∧ os.length = 8 ∧ lk x = some (d, l) ∧ d ≤ n ∧ R (nuD os x) G
  | _ => False
def S_nuP : Nat → SP3
  | 0 => fun _ _ _ _ => False
  | n + 1 => S_nu n
theorem ix_getD {os : List D} {i : Int} {G : GH} {R : K3} (h1 : 0 ≤ i) (h2 : i.toNat < os.length) (h : R (os.getD i.toNat .non) G) : fIx (.tup os) (.int i) G R := by
  have e := atD_nat (xs := os) (n := i.toNat) (d := os.getD i.toNat .non) (by rw [List.getD_eq_getElem?_getD, List.getElem?_eq_getElem h2]; rfl)
  rw [Int.toNat_of_nonneg h1] at e
  rw [ix_tup e]
  exact h
theorem nu_step (T : Tx K mg) (n : Nat) (g_numbered : Good P w K mg base "numbered" ["recipe", "order"] (1 + n) (S_nuP n)) : Good P w K mg base "numbered" ["recipe", "order"] (1 + n + 1) (S_nu n) := by
  have g_is_int := ok_is_int (P := P) (w := w) (base := base) T
  refine good_of (d_numbered T) sc_numbered fun f cd A outer s H E hp tk hgd hr => ⟨_, (s_cons (s_if (t_val (c_call g_is_int (hr.mono (by omega)) hgd tk (a_cons (c_var 0) a_nil))) (s_one (s_ret (c_ix (c_var 1) (c_var 0)))) s_nil)
      (s_one (s_ret (c_callT call_tuple_of lift_tuple (n_tuple T) (a_cons (c_lc [("part", 2)] rfl sc_numbered.nd (i_tpl (c_var 0)) (blkOk_by (by kernel_rfl)) (by decide) (fun _ _ _ _ _ => (g_name 2 sc_numbered.nd rfl (.inl rfl))) (fun _ _ _ _ _ => ts_nil) (fun _ _ _ _ _ => (c_tup (a_cons (c_ix (c_var 2) c_int) (a_cons (c_ix (c_var 2) c_int) (a_cons (c_call g_numbered (hr.mono (by omega)) hgd takes0 (a_cons (c_ix (c_var 2) c_int) (a_cons (c_var 1) a_nil))) a_nil)))))) a_nil))))), fun ds G R Ex hlen hS => ?_⟩
  clear hp tk hgd hr hlen
  match ds, hS with
  | [x, y], ⟨h1, os, d, l, h0, h8, h2, h3, h5⟩ =>
    subst h0
    rw [show start3 ["recipe", "order", "part"] [x, .tup os] = [some (x), some (.tup os), none] from rfl]
    have hr := sane_rd x h1
    simp only [wExpr, wRaise, gSb, wSeq, wNext, wRet, wRetN, wExpr, wIfS, wSet, wAsg, wPar, wAug, w1, w2, wA, aNil, aCons, wVar, wVarT, wC, tOfW, w3c, wAnd, wOr, wNot, tAnd3, tOr3, tNot3, wIf, wTup, wLst, wLstO, wCall, wSl, pNone, pSome, wipe3, List.map_cons, List.map_nil, fI2, fI2C, fI1, fAbs, addI, mulI, intI, eqS, neS, isN_, notN_, L3.isNon, gN, gsN, gsC, gT, asT, at3, List.set_cons_zero, List.set_cons_succ, Option.some.injEq, exists_eq_left', D.bl.injEq, D.int.injEq, D.tup.injEq, List.length_cons, List.length_nil, Nat.reduceAdd, true_and, if_true, if_false, Bool.false_eq_true, reduceIte, ite_true, ite_false, len_t0, len_t1, len_t2, len_t3, len_l0, len_l1, eqI, neI, Int.reduceBEq, Int.reduceLT, Int.reduceLE, Int.reduceNeg, decide_true, decide_false, Bool.not_true, Bool.not_false, ix0, ix1, ix2, and_true, and_self, S_is_int, hr]
    match x, h1, h2, hr, h5 with
    | .int i, h1, h2, hr, h5 =>
      simp only [lk] at h2
      split at h2
      · rename_i hi
        simp only [isIntD, if_true]
        exact ix_getD hi.1 (by omega) (by simpa only [nuD] using h5)
      · cases h2
    | .tup xs, h1, h2, hr, h5 =>
      obtain ⟨e, rfl, k1, k2, k3, k4⟩ := lk_tup h2
      obtain ⟨m, rfl⟩ : ∃ m, n = m + 1 := ⟨n - 1, by omega⟩
      have hs := sane_tup h1
      have hf := fit_of k2
      simp only [isIntD, Bool.false_eq_true, if_false]
      refine wLc_tup 0 (nuP os) rfl rfl (by rw [sizeLine_eq]; omega) ?_ ?_
      · intro y hy p acc Q hp hQ
        obtain ⟨a, b, t, rfl, ha, hb, hab⟩ := part_cases (k3 y hy)
        obtain ⟨d', l', q1, q2, q3⟩ := lkL_mem k3 k1 _ hy
        rw [nuP_part] at hQ
        simp only [wExpr, wRaise, gSb, wSeq, wNext, wRet, wRetN, wExpr, wIfS, wSet, wAsg, wPar, wAug, w1, w2, wA, aNil, aCons, wVar, wVarT, wC, tOfW, w3c, wAnd, wOr, wNot, tAnd3, tOr3, tNot3, wIf, wTup, wLst, wLstO, wCall, wSl, pNone, pSome, wipe3, List.map_cons, List.map_nil, fI2, fI2C, fI1, fAbs, addI, mulI, intI, eqS, neS, isN_, notN_, L3.isNon, gN, gsN, gsC, gT, asT, at3, List.set_cons_zero, List.set_cons_succ, Option.some.injEq, exists_eq_left', D.bl.injEq, D.int.injEq, D.tup.injEq, List.length_cons, List.length_nil, Nat.reduceAdd, true_and, if_true, if_false, Bool.false_eq_true, reduceIte, ite_true, ite_false, len_t0, len_t1, len_t2, len_t3, len_l0, len_l1, eqI, neI, Int.reduceBEq, Int.reduceLT, Int.reduceLE, Int.reduceNeg, decide_true, decide_false, Bool.not_true, Bool.not_false, ix0, ix1, ix2, and_true, and_self, S_nuP, S_nu]
        exact ⟨sane_tup (hs _ hy) t (by simp), os, d', l', rfl, h8, q1, by omega, sizeLine_eq ▸ (by decide), hQ⟩
      · rw [tuple_lst]
        simp only [nuD, nuL_map] at h5
        exact h5
theorem ok_nu (T : Tx K mg) : ∀ n, Good P w K mg base "numbered" ["recipe", "order"] (1 + n + 1) (S_nu n)
  | 0 => nu_step T 0 (good_no 1 (d_numbered T))
  | n + 1 => nu_step T (n + 1) (ok_nu T n)
def renO (x o : D) : Out :=
  if isRec x = false then .bad "BadRecipe" else
  if isOrd o = false then .bad "BadOrder" else .got (nuD (ordOf o) x)
def S_ren (K : PySem.W.Frag) : SP3 := fun ds G R Ex => match ds with
  | [x, o] => saneD x = true ∧ saneD o = true ∧ (∀ os, o = .tup os → os.length ≤ 4000) ∧ outS K (renO x o) G R Ex
  | _ => False
theorem ok_ren (T : Tx K mg) : Good P w K mg base "renamed" ["recipe", "order"] 15 (S_ren K) := by
  have g_check_recipe := ok_check (P := P) (w := w) (base := base) T
  have g_is_within := ok_is_within (P := P) (w := w) (base := base) T
  have g_numbered := ok_nu (P := P) (w := w) (base := base) T 6
  refine good_of (d_renamed T) sc_renamed fun f cd A outer s H E hp tk hgd hr => ⟨_, (s_cons (s_expr (c_call g_check_recipe (hr.mono (by omega)) hgd tk (a_cons (c_var 0) a_nil)))
      (s_cons (s_if (t_w (o_or (t_not (t_val (c_callB call_isi3 lift_isi (n_isinstance T) (a_cons (c_var 1) (a_cons (c_bltn (n := "tuple") (n_tuple T)) a_nil))))) (o_or1 (t_cmp (op_ne3 hr.units) lift_ne (c_callB call_len lift_len (n_len T) (a_cons (c_var 1) a_nil)) (c_op op_add3 lift_add (c_dat (v_MOST_BIN T)) c_int))))) (s_one (s_raise (e_BadOrder T) rfl tk)) s_nil)
      (s_cons (s_if (t_w (o_or (t_not (t_val (c_callB (cr_all rfl) lift_all (n_all T) (a_cons (c_lc [("part", 2)] rfl sc_renamed.nd (i_tpl (c_var 1)) (blkOk_by (by kernel_rfl)) (by decide) (fun _ _ _ _ _ => (g_name 2 sc_renamed.nd rfl (.inl rfl))) (fun _ _ _ _ _ => ts_nil) (fun _ _ _ _ _ => (c_call g_is_within (hr.mono (by omega)) hgd takes0 (a_cons (c_var 2) (a_cons c_int (a_cons (c_dat (v_MOST_BIN T)) a_nil)))))) a_nil)))) (o_or1 (t_cmp (op_ne3 hr.units) lift_ne (c_lenSet rfl (n_len T) (n_set T) (c_var 1)) (c_callB call_len lift_len (n_len T) (a_cons (c_var 1) a_nil)))))) (s_one (s_raise (e_BadOrder T) rfl tk)) s_nil)
      (s_one (s_ret (c_call g_numbered (hr.mono (by omega)) hgd tk (a_cons (c_var 0) (a_cons (c_var 1) a_nil)))))))), fun ds G R Ex hlen hS => ?_⟩
  clear hp tk hgd hr hlen
  match ds, hS with
  | [x, o], ⟨h1, h2, h0, h4⟩ =>
    rw [show start3 ["recipe", "order", "part"] [x, o] = [some (x), some (o), none] from rfl]
    simp only [wExpr, wRaise, gSb, wSeq, wNext, wRet, wRetN, wExpr, wIfS, wSet, wAsg, wPar, wAug, w1, w2, wA, aNil, aCons, wVar, wVarT, wC, tOfW, w3c, wAnd, wOr, wNot, tAnd3, tOr3, tNot3, wIf, wTup, wLst, wLstO, wCall, wSl, pNone, pSome, wipe3, List.map_cons, List.map_nil, fI2, fI2C, fI1, fAbs, addI, mulI, intI, eqS, neS, isN_, notN_, L3.isNon, gN, gsN, gsC, gT, asT, at3, List.set_cons_zero, List.set_cons_succ, Option.some.injEq, exists_eq_left', D.bl.injEq, D.int.injEq, D.tup.injEq, List.length_cons, List.length_nil, Nat.reduceAdd, true_and, if_true, if_false, Bool.false_eq_true, reduceIte, ite_true, ite_false, len_t0, len_t1, len_t2, len_t3, len_l0, len_l1, eqI, neI, Int.reduceBEq, Int.reduceLT, Int.reduceLE, Int.reduceNeg, decide_true, decide_false, Bool.not_true, Bool.not_false, ix0, ix1, ix2, and_true, and_self, S_check, h1, isi_tup (sane_rd o h2), wExpr, wRaise]
    unfold renO at h4
    cases r1 : isRec x with
    | false =>
      rw [r1] at h4
      exact ⟨fun z => (by cases z), fun _ env => h4 _⟩
    | true =>
      rw [r1] at h4
      obtain ⟨d, l, k1, k2, k3, k4, k5, k6⟩ := isRec_bins r1
      refine ⟨fun _ => ?_, fun z => (by cases z)⟩
      match o, h2, h0, h4 with
      | .tup os, h2, h0, h4 =>
        have hl := h0 os rfl
        have hso := sane_tup h2
        simp only [isTupD, wExpr, wRaise, gSb, wSeq, wNext, wRet, wRetN, wExpr, wIfS, wSet, wAsg, wPar, wAug, w1, w2, wA, aNil, aCons, wVar, wVarT, wC, tOfW, w3c, wAnd, wOr, wNot, tAnd3, tOr3, tNot3, wIf, wTup, wLst, wLstO, wCall, wSl, pNone, pSome, wipe3, List.map_cons, List.map_nil, fI2, fI2C, fI1, fAbs, addI, mulI, intI, eqS, neS, isN_, notN_, L3.isNon, gN, gsN, gsC, gT, asT, at3, List.set_cons_zero, List.set_cons_succ, Option.some.injEq, exists_eq_left', D.bl.injEq, D.int.injEq, D.tup.injEq, List.length_cons, List.length_nil, Nat.reduceAdd, true_and, if_true, if_false, Bool.false_eq_true, reduceIte, ite_true, ite_false, len_t0, len_t1, len_t2, len_t3, len_l0, len_l1, eqI, neI, Int.reduceBEq, Int.reduceLT, Int.reduceLE, Int.reduceNeg, decide_true, decide_false, Bool.not_true, Bool.not_false, ix0, ix1, ix2, and_true, and_self, len_tup]
        rw [show ((7 : Int) + 1) = 8 from rfl]
        try simp only [wExpr, wRaise, gSb, wSeq, wNext, wRet, wRetN, wExpr, wIfS, wSet, wAsg, wPar, wAug, w1, w2, wA, aNil, aCons, wVar, wVarT, wC, tOfW, w3c, wAnd, wOr, wNot, tAnd3, tOr3, tNot3, wIf, wTup, wLst, wLstO, wCall, wSl, pNone, pSome, wipe3, List.map_cons, List.map_nil, fI2, fI2C, fI1, fAbs, addI, mulI, intI, eqS, neS, isN_, notN_, L3.isNon, gN, gsN, gsC, gT, asT, at3, List.set_cons_zero, List.set_cons_succ, Option.some.injEq, exists_eq_left', D.bl.injEq, D.int.injEq, D.tup.injEq, List.length_cons, List.length_nil, Nat.reduceAdd, true_and, if_true, if_false, Bool.false_eq_true, reduceIte, ite_true, ite_false, len_t0, len_t1, len_t2, len_t3, len_l0, len_l1, eqI, neI, Int.reduceBEq, Int.reduceLT, Int.reduceLE, Int.reduceNeg, decide_true, decide_false, Bool.not_true, Bool.not_false, ix0, ix1, ix2, and_true, and_self]
        by_cases z8 : os.length = 8
        · have zb : ((os.length : Int) == 8) = true := by
            rw [z8]
            rfl
          simp only [zb, Bool.not_true, Bool.false_eq_true, if_false]
          refine wLc_tup 1 (fun d => .bl (isWithin d 0 7)) rfl rfl (by rw [sizeLine_eq]; omega) ?_ ?_
          · intro y hy p acc Q hp hQ
            simp only [wExpr, wRaise, gSb, wSeq, wNext, wRet, wRetN, wExpr, wIfS, wSet, wAsg, wPar, wAug, w1, w2, wA, aNil, aCons, wVar, wVarT, wC, tOfW, w3c, wAnd, wOr, wNot, tAnd3, tOr3, tNot3, wIf, wTup, wLst, wLstO, wCall, wSl, pNone, pSome, wipe3, List.map_cons, List.map_nil, fI2, fI2C, fI1, fAbs, addI, mulI, intI, eqS, neS, isN_, notN_, L3.isNon, gN, gsN, gsC, gT, asT, at3, List.set_cons_zero, List.set_cons_succ, Option.some.injEq, exists_eq_left', D.bl.injEq, D.int.injEq, D.tup.injEq, List.length_cons, List.length_nil, Nat.reduceAdd, true_and, if_true, if_false, Bool.false_eq_true, reduceIte, ite_true, ite_false, len_t0, len_t1, len_t2, len_t3, len_l0, len_l1, eqI, neI, Int.reduceBEq, Int.reduceLT, Int.reduceLE, Int.reduceNeg, decide_true, decide_false, Bool.not_true, Bool.not_false, ix0, ix1, ix2, and_true, and_self, S_is_within]
            exact ⟨sane_rd y (hso y hy), hQ⟩
          · rw [all_lst bools_of]
            refine ⟨_, rfl, ?_⟩
            cases hw : (os.map fun d => isWithin d 0 7).all id with
            | false =>
              have : isOrd (.tup os) = false := by
                rw [isOrd_tup]
                cases hi : intsD os with
                | none => rfl
                | some ns =>
                  simp only
                  cases hn : ns.all inR with
                  | false => simp
                  | true => rw [ints_within hi hn] at hw; cases hw
              rw [this] at h4
              exact h4 _
            | true =>
              have hw' : ∀ d ∈ os, isWithin d 0 7 = true := fun d hd => by
                rw [List.all_map, List.all_eq_true] at hw
                exact hw d hd
              obtain ⟨ns, q1, q2⟩ := within_ints hw'
              have q3 := ints_len q1
              have q4 : ns.length = 8 := by
                rw [q3, List.length_map] at z8
                exact z8
              simp only [Bool.not_true, Bool.false_eq_true, if_false, wLenSet, wExpr, wRaise, gSb, wSeq, wNext, wRet, wRetN, wExpr, wIfS, wSet, wAsg, wPar, wAug, w1, w2, wA, aNil, aCons, wVar, wVarT, wC, tOfW, w3c, wAnd, wOr, wNot, tAnd3, tOr3, tNot3, wIf, wTup, wLst, wLstO, wCall, wSl, pNone, pSome, wipe3, List.map_cons, List.map_nil, fI2, fI2C, fI1, fAbs, addI, mulI, intI, eqS, neS, isN_, notN_, L3.isNon, gN, gsN, gsC, gT, asT, at3, List.set_cons_zero, List.set_cons_succ, Option.some.injEq, exists_eq_left', D.bl.injEq, D.int.injEq, D.tup.injEq, List.length_cons, List.length_nil, Nat.reduceAdd, true_and, if_true, if_false, Bool.false_eq_true, reduceIte, ite_true, ite_false, len_t0, len_t1, len_t2, len_t3, len_l0, len_l1, eqI, neI, Int.reduceBEq, Int.reduceLT, Int.reduceLE, Int.reduceNeg, decide_true, decide_false, Bool.not_true, Bool.not_false, ix0, ix1, ix2, and_true, and_self]
              refine ⟨os, ns, rfl, q1, by omega, fun c hc => ?_⟩
              have e1 : isOrd (.tup os) = decide ns.Nodup := by
                rw [isOrd_tup, q1]
                simp [q2, q4]
              rw [e1] at h4
              have e2 : ((c : Int) == (os.length : Int)) = decide ns.Nodup := by
                rw [Bool.eq_iff_iff, beq_iff_eq, decide_eq_true_eq, ← hc.2, z8, q4]
                omega
              rw [e2]
              cases c2 : decide ns.Nodup with
              | false =>
                rw [c2] at h4
                exact h4 _
              | true =>
                rw [c2] at h4
                simp only [Bool.not_true, Bool.false_eq_true, if_false, S_nu, wExpr, wRaise, gSb, wSeq, wNext, wRet, wRetN, wExpr, wIfS, wSet, wAsg, wPar, wAug, w1, w2, wA, aNil, aCons, wVar, wVarT, wC, tOfW, w3c, wAnd, wOr, wNot, tAnd3, tOr3, tNot3, wIf, wTup, wLst, wLstO, wCall, wSl, pNone, pSome, wipe3, List.map_cons, List.map_nil, fI2, fI2C, fI1, fAbs, addI, mulI, intI, eqS, neS, isN_, notN_, L3.isNon, gN, gsN, gsC, gT, asT, at3, List.set_cons_zero, List.set_cons_succ, Option.some.injEq, exists_eq_left', D.bl.injEq, D.int.injEq, D.tup.injEq, List.length_cons, List.length_nil, Nat.reduceAdd, true_and, if_true, if_false, Bool.false_eq_true, reduceIte, ite_true, ite_false, len_t0, len_t1, len_t2, len_t3, len_l0, len_l1, eqI, neI, Int.reduceBEq, Int.reduceLT, Int.reduceLE, Int.reduceNeg, decide_true, decide_false, Bool.not_true, Bool.not_false, ix0, ix1, ix2, and_true, and_self]
                exact ⟨h1, os, d, l, rfl, z8, k1, k2, h4⟩
        · have zb : ((os.length : Int) == 8) = false := by
            rw [beq_eq_false_iff_ne]
            omega
          have : isOrd (.tup os) = false := by
            rw [isOrd_tup]
            cases hi : intsD os with
            | none => rfl
            | some ns =>
              have q3 := ints_len hi
              have : ns.length ≠ 8 := by
                rw [q3, List.length_map] at z8
                exact z8
              simp [this]
          simp only [zb, Bool.not_false, if_true]
          rw [this] at h4
          exact h4 _
      | .int _, _, _, h4 => exact h4 _
      | .non, _, _, h4 => exact h4 _
      | .bl _, _, _, h4 => exact h4 _
      | .str _, _, _, h4 => exact h4 _
      | .ty _, _, _, h4 => exact h4 _
      | .lst _, _, _, h4 => exact h4 _
      | .lsx _, _, _, h4 => exact h4 _
      | .dct _ _, _, _, h4 => exact h4 _
      | .ins _ _ _, _, _, h4 => exact h4 _
      | .ref _, _, _, h4 => exact h4 _
      | .tpf _, _, _, h4 => exact h4 _
      | .exc _ _ _ _, _, _, h4 => exact h4 _
end

end K01

set_option Elab.async false
set_option linter.all false
set_option maxRecDepth 100000
set_option maxHeartbeats 0
namespace K01
open PySem PySem.Spec L2 L3
open PyProof.Rows hiding St
/-! ### the hand -/
def handL (cs : List Int) (a b c d : Int) : List D := [ilD cs, .int a, .int b, .int c, .int d]
def HandOk (G : GH) (p : Addr) : Prop := ∃ (cs : List Int) (a b c d : Int), 0 ≤ a ∧ cs.length ≤ 4000 ∧ G p = some (.lst (handL cs a b c d))
/-- all changeable things but p are as they were -/
def Apart (p : Addr) (G G' : GH) : Prop := ∀ q, q ≠ p → G q ≠ none → G' q = G q
theorem Apart.refl {p : Addr} {G : GH} : Apart p G G := fun _ _ _ => rfl
theorem Apart.trans {p : Addr} {G G1 G2 : GH} (a : Apart p G G1) (b : Apart p G1 G2) : Apart p G G2 := fun q h k => (b q h (by rw [a q h k]; exact k)).trans (a q h k)
theorem Apart.gset {p : Addr} {G G1 : GH} {o : GO} (a : Apart p G G1) : Apart p G (L3.gset G1 p o) := fun q h k => by rw [gset_ne h]; exact a q h k
/-- something new was laid, changed, let go -/
theorem Apart.new {p q : Addr} {G G1 : GH} {o : GO} (a : Apart p G G1) (hq : G q = none) : Apart p G (L3.gset G1 q o) := fun r h k => by rw [gset_ne (fun e => k (by rw [e]; exact hq))]; exact a r h k
theorem Apart.del {p q : Addr} {G G1 : GH} (a : Apart p G G1) (hq : G q = none) : Apart p G (gdel G1 q) := fun r h k => by rw [gdel_ne (fun e => k (by rw [e]; exact hq))]; exact a r h k
theorem HandOk.ne {G : GH} {p q : Addr} (h : HandOk G p) (hq : G q = none) : q ≠ p := fun e => by
  obtain ⟨cs, a, b, c, d, _, _, g⟩ := h
  rw [← e, hq] at g
  cases g
theorem HandOk.ne_of {G : GH} {p q : Addr} {ds : List D} (h : HandOk G p) (hq : G q = some (.lst ds)) (hd : ∀ cs a b c d, ds ≠ handL cs a b c d) : q ≠ p := fun e => by
  obtain ⟨cs, a, b, c, d, _, _, g⟩ := h
  rw [← e, hq] at g
  exact hd cs a b c d (GO.lst.inj (Option.some.inj g))
theorem HandOk.ne_refs {G : GH} {p q : Addr} {qs : List Addr} (h : HandOk G p) (hq : G q = some (.lst (qs.map D.ref))) : q ≠ p := h.ne_of hq fun cs a b c d z => by
  cases qs with
  | nil => cases z
  | cons r rs =>
    rw [List.map_cons] at z
    cases (List.cons.inj z).1
theorem HandOk.ne_ints {G : GH} {p q : Addr} {ns : List Int} (h : HandOk G p) (hq : G q = some (.lst (ns.map D.int))) : q ≠ p := h.ne_of hq fun cs a b c d z => by
  cases ns with
  | nil => cases z
  | cons r rs =>
    rw [List.map_cons] at z
    cases (List.cons.inj z).1
theorem HandOk.new {G : GH} {p q : Addr} {o : GO} (h : HandOk G p) (hq : q ≠ p) : HandOk (gset G q o) p := by
  obtain ⟨cs, a, b, c, d, h1, h2, g⟩ := h
  exact ⟨cs, a, b, c, d, h1, h2, by rw [gset_ne fun e => hq e.symm]; exact g⟩
theorem HandOk.del {G : GH} {p q : Addr} (h : HandOk G p) (hq : q ≠ p) : HandOk (gdel G q) p := by
  obtain ⟨cs, a, b, c, d, h1, h2, g⟩ := h
  exact ⟨cs, a, b, c, d, h1, h2, by rw [gdel_ne fun e => hq e.symm]; exact g⟩
theorem Apart.asS {p : Addr} {G G' : GH} {x : D} {ds : List D} (a : Apart p G G') (hx : x ≠ .ref p) (h : L3.asS G x = some ds) : L3.asS G' x = some ds := by
  cases x with
  | ref q =>
    have hq : q ≠ p := fun e => hx (by rw [e])
    have h' : (match G q with | some (.lst xs) => some xs | _ => none) = some ds := h
    split at h'
    · rename_i xs e
      cases h'
      exact asS_ref ((a q hq (by rw [e]; simp)).trans e)
    · cases h'
  | _ => exact h
section
variable {P : Program} {w : World} {K : PySem.W.Frag} {mg : Str → Option Value} {base : Heap}
def S_draw : SP3 := fun ds G R _ => match ds with
  | [x, y] => ∃ (p : Addr) (m : Int), x = .ref p ∧ y = .int m ∧ HandOk G p ∧ 0 < m ∧ m < 2 ^ 62 ∧ ∀ r G', 0 ≤ r → r < m → HandOk G' p → Apart p G G' → R (.int r) G'
  | _ => False
theorem mulR {i j : Int} (h1 : -(2 ^ 64) < j) (h2 : j < 2 ^ 64) : MulC i j := MulC.r h1 h2
theorem ok_draw (T : Tx K mg) : Good P w K mg base "_law_draw" ["hand", "many"] 1 S_draw := by
  refine good_of (d__law_draw T) sc__law_draw fun f cd A outer s H E hp tk hgd hr => ⟨_, (s_cons (s_if (t_w (o_and (t_cmp (op_eq3 hr.units) lift_eq (c_ix (c_var 0) c_int) c_int) (o_and1 (t_cmp op_lt lift_I2b (c_ix (c_var 0) c_int) (c_callB call_len lift_len (n_len T) (a_cons (c_ix (c_var 0) c_int) a_nil)))))) (s_cons (s_set 2 sc__law_draw.nd rfl (.inl rfl) rfl (c_ix (c_ix (c_var 0) c_int) (c_ix (c_var 0) c_int)))
      (s_cons (s_asg (c_op op_add3 lift_add (c_ix (c_var 0) c_int) c_int) (g_sub (c_var 0) c_int))
      (s_cons (s_asg (c_op op_modG lift_I2C (c_callT call_int1 lift_int (n_int T) (a_cons (c_op op_add3 lift_add (c_op op_add3 lift_add (c_op op_mul3 lift_mul (c_ix (c_var 0) c_int) c_int) (c_op op_mul3 lift_mul (c_var 2) c_int)) c_int) a_nil)) c_int) (g_sub (c_var 0) c_int))
      (s_one (s_if (t_cmp op_ge lift_I2b (c_var 2) (c_op op_pow lift_I2C c_int c_int)) (s_one (s_asg (c_var 2) (g_sub (c_var 0) c_int))) s_nil))))) s_nil)
      (s_cons (s_if (t_cmp op_gt lift_I2b (c_ix (c_var 0) c_int) c_int) (s_cons (s_set 3 sc__law_draw.nd rfl (.inl rfl) rfl (c_op op_modG lift_I2C (c_callT call_int1 lift_int (n_int T) (a_cons (c_ix (c_var 0) c_int) a_nil)) (c_var 1)))
      (s_cons (s_asg (c_op op_fdivG lift_I2C (c_ix (c_var 0) c_int) (c_var 1)) (g_sub (c_var 0) c_int))
      (s_one (s_ret (c_var 3))))) s_nil)
      (s_cons (s_asg (c_op op_add3 lift_add (c_ix (c_var 0) c_int) c_int) (g_sub (c_var 0) c_int))
      (s_cons (s_set 4 sc__law_draw.nd rfl (.inl rfl) rfl (c_op op_modG lift_I2C (c_callT call_int1 lift_int (n_int T) (a_cons (c_op op_mul3 lift_mul (c_callT call_int1 lift_int (n_int T) (a_cons (c_op op_add3 lift_add (c_ix (c_var 0) c_int) (c_op op_mul3 lift_mul c_int (c_ix (c_var 0) c_int))) a_nil)) c_int) a_nil)) c_int))
      (s_cons (s_set 4 sc__law_draw.nd rfl (.inl rfl) rfl (c_op op_modG lift_I2C (c_callT call_int1 lift_int (n_int T) (a_cons (c_op op_mul3 lift_mul (c_var 4) (c_op op_add3 lift_add (c_op op_fdivG lift_I2C (c_var 4) c_int) c_int)) a_nil)) c_int))
      (s_cons (s_set 4 sc__law_draw.nd rfl (.inl rfl) rfl (c_op op_modG lift_I2C (c_callT call_int1 lift_int (n_int T) (a_cons (c_op op_mul3 lift_mul (c_var 4) (c_op op_add3 lift_add (c_op op_fdivG lift_I2C (c_var 4) c_int) c_int)) a_nil)) c_int))
      (s_one (s_ret (c_op op_modG lift_I2C (c_callT call_int1 lift_int (n_int T) (a_cons (c_op op_fdivG lift_I2C (c_var 4) c_int) a_nil)) (c_var 1)))))))))), fun ds G R Ex hlen hS => ?_⟩
  clear hp tk hgd hr hlen
  match ds, hS with
  | [x, y], ⟨p, m, e1, e2, hH, hm, hm2, hR⟩ =>
    subst e1 e2
    rw [show start3 ["hand", "many", "cell", "digit", "number"] [.ref p, .int m] = [some (.ref p), some (.int m), none, none, none] from rfl]
    refine seq_cut (fun env' G' => ∃ u2 u3 u4, env' = [some (.ref p), some (.int m), u2, u3, u4] ∧ HandOk G' p ∧ Apart p G G') ?_ ?_
    · rintro env' G' ⟨u2, u3, u4, rfl, ⟨cs, a, b, c, d, ha, hcs, hG⟩, hA⟩
      unfold handL at hG
      simp only [wExpr, wRaise, gSb, wSeq, wNext, wRet, wRetN, wExpr, wIfS, wSet, wAsg, wPar, wAug, w1, w2, wA, aNil, aCons, wVar, wVarT, wC, tOfW, w3c, wAnd, wOr, wNot, tAnd3, tOr3, tNot3, wIf, wTup, wLst, wLstO, wCall, wSl, pNone, pSome, wipe3, List.map_cons, List.map_nil, fI2, fI2C, fI1, fAbs, addI, mulI, intI, eqS, neS, isN_, notN_, L3.isNon, gN, gsN, gsC, gT, asT, at3, List.set_cons_zero, List.set_cons_succ, Option.some.injEq, exists_eq_left', D.bl.injEq, D.int.injEq, D.tup.injEq, List.length_cons, List.length_nil, Nat.reduceAdd, true_and, if_true, if_false, Bool.false_eq_true, reduceIte, ite_true, ite_false, len_t0, len_t1, len_t2, len_t3, len_l0, len_l1, eqI, neI, Int.reduceBEq, Int.reduceLT, Int.reduceLE, Int.reduceNeg, decide_true, decide_false, Bool.not_true, Bool.not_false, ix0, ix1, ix2, and_true, and_self, ixr2 hG]
      by_cases hb : b > 0
      · have hb' : decide (b > 0) = true := by simpa using hb
        simp only [hb', if_true]
        have dv : DivC b m := DivC.small hm (by omega)
        refine ⟨by omega, dv, ?_⟩
        rw [set_ref (i := 2) 2 rfl (by simp) hG]
        refine hR _ _ (Int.fmod_nonneg_of_pos b hm) (Int.fmod_lt_of_pos b hm) ⟨cs, a, _, c, d, ha, hcs, gset_same⟩ hA.gset
      · have hb' : decide (b > 0) = false := by simpa using hb
        simp only [hb', Bool.false_eq_true, if_false]
        simp only [ixr4 hG, wExpr, wRaise, gSb, wSeq, wNext, wRet, wRetN, wExpr, wIfS, wSet, wAsg, wPar, wAug, w1, w2, wA, aNil, aCons, wVar, wVarT, wC, tOfW, w3c, wAnd, wOr, wNot, tAnd3, tOr3, tNot3, wIf, wTup, wLst, wLstO, wCall, wSl, pNone, pSome, wipe3, List.map_cons, List.map_nil, fI2, fI2C, fI1, fAbs, addI, mulI, intI, eqS, neS, isN_, notN_, L3.isNon, gN, gsN, gsC, gT, asT, at3, List.set_cons_zero, List.set_cons_succ, Option.some.injEq, exists_eq_left', D.bl.injEq, D.int.injEq, D.tup.injEq, List.length_cons, List.length_nil, Nat.reduceAdd, true_and, if_true, if_false, Bool.false_eq_true, reduceIte, ite_true, ite_false, len_t0, len_t1, len_t2, len_t3, len_l0, len_l1, eqI, neI, Int.reduceBEq, Int.reduceLT, Int.reduceLE, Int.reduceNeg, decide_true, decide_false, Bool.not_true, Bool.not_false, ix0, ix1, ix2, and_true, and_self]
        rw [set_ref (i := 4) 4 rfl (by simp) hG]
        simp only [List.set_cons_zero, List.set_cons_succ]
        have hG2 : gset G' p (.lst [ilD cs, .int a, .int b, .int c, .int (d + 1)]) p = some (.lst [ilD cs, .int a, .int b, .int c, .int (d + 1)]) := gset_same
        simp only [ixr3 hG2, ixr4 hG2, wExpr, wRaise, gSb, wSeq, wNext, wRet, wRetN, wExpr, wIfS, wSet, wAsg, wPar, wAug, w1, w2, wA, aNil, aCons, wVar, wVarT, wC, tOfW, w3c, wAnd, wOr, wNot, tAnd3, tOr3, tNot3, wIf, wTup, wLst, wLstO, wCall, wSl, pNone, pSome, wipe3, List.map_cons, List.map_nil, fI2, fI2C, fI1, fAbs, addI, mulI, intI, eqS, neS, isN_, notN_, L3.isNon, gN, gsN, gsC, gT, asT, at3, List.set_cons_zero, List.set_cons_succ, Option.some.injEq, exists_eq_left', D.bl.injEq, D.int.injEq, D.tup.injEq, List.length_cons, List.length_nil, Nat.reduceAdd, true_and, if_true, if_false, Bool.false_eq_true, reduceIte, ite_true, ite_false, len_t0, len_t1, len_t2, len_t3, len_l0, len_l1, eqI, neI, Int.reduceBEq, Int.reduceLT, Int.reduceLE, Int.reduceNeg, decide_true, decide_false, Bool.not_true, Bool.not_false, ix0, ix1, ix2, and_true, and_self]
        refine ⟨MulC.l (by decide) (by decide), mulR (by decide) (by decide), by decide, DivC.small (by decide) (by decide), ?_⟩
        generalize hn : ((c + 7919 * (d + 1)) * 48271).fmod 2147483647 = n
        have n1 : 0 ≤ n := by rw [← hn]; exact Int.fmod_nonneg_of_pos _ (by decide)
        have n2 : n < 2147483647 := by rw [← hn]; exact Int.fmod_lt_of_pos _ (by decide)
        refine ⟨MulC.l (by omega) (by omega), by decide, DivC.small (by decide) (by decide), ?_⟩
        generalize hn2 : (n * (n.fdiv 1009 + 69621)).fmod 2147483647 = n'
        have n3 : 0 ≤ n' := by rw [← hn2]; exact Int.fmod_nonneg_of_pos _ (by decide)
        have n4 : n' < 2147483647 := by rw [← hn2]; exact Int.fmod_lt_of_pos _ (by decide)
        refine ⟨MulC.l (by omega) (by omega), by decide, DivC.small (by decide) (by decide), by omega, ?_⟩
        exact hR _ _ (Int.fmod_nonneg_of_pos _ hm) (Int.fmod_lt_of_pos _ hm) ⟨cs, a, b, c, _, ha, hcs, hG2⟩ hA.gset
    · intro N hN
      obtain ⟨cs, a, b, c, d, ha, hcs, hG⟩ := hH
      have hG0 := hG
      unfold handL at hG
      simp only [wExpr, wRaise, gSb, wSeq, wNext, wRet, wRetN, wExpr, wIfS, wSet, wAsg, wPar, wAug, w1, w2, wA, aNil, aCons, wVar, wVarT, wC, tOfW, w3c, wAnd, wOr, wNot, tAnd3, tOr3, tNot3, wIf, wTup, wLst, wLstO, wCall, wSl, pNone, pSome, wipe3, List.map_cons, List.map_nil, fI2, fI2C, fI1, fAbs, addI, mulI, intI, eqS, neS, isN_, notN_, L3.isNon, gN, gsN, gsC, gT, asT, at3, List.set_cons_zero, List.set_cons_succ, Option.some.injEq, exists_eq_left', D.bl.injEq, D.int.injEq, D.tup.injEq, List.length_cons, List.length_nil, Nat.reduceAdd, true_and, if_true, if_false, Bool.false_eq_true, reduceIte, ite_true, ite_false, len_t0, len_t1, len_t2, len_t3, len_l0, len_l1, eqI, neI, Int.reduceBEq, Int.reduceLT, Int.reduceLE, Int.reduceNeg, decide_true, decide_false, Bool.not_true, Bool.not_false, ix0, ix1, ix2, and_true, and_self, ixr2 hG, ixr1 hG, ixr0 hG]
      cases hb : b == 0 with
      | false =>
        simp only [Bool.false_eq_true, if_false]
        exact hN _ _ ⟨_, _, _, rfl, ⟨cs, a, b, c, d, ha, hcs, hG0⟩, .refl⟩
      | true =>
        have lenc : fLen [ilD cs] = fun (G : GH) (R : K3) => R (.int cs.length) G := by
          funext G R
          unfold ilD
          rw [len_lst, List.length_map]
        simp only [if_true, lenc, wExpr, wRaise, gSb, wSeq, wNext, wRet, wRetN, wExpr, wIfS, wSet, wAsg, wPar, wAug, w1, w2, wA, aNil, aCons, wVar, wVarT, wC, tOfW, w3c, wAnd, wOr, wNot, tAnd3, tOr3, tNot3, wIf, wTup, wLst, wLstO, wCall, wSl, pNone, pSome, wipe3, List.map_cons, List.map_nil, fI2, fI2C, fI1, fAbs, addI, mulI, intI, eqS, neS, isN_, notN_, L3.isNon, gN, gsN, gsC, gT, asT, at3, List.set_cons_zero, List.set_cons_succ, Option.some.injEq, exists_eq_left', D.bl.injEq, D.int.injEq, D.tup.injEq, List.length_cons, List.length_nil, Nat.reduceAdd, true_and, if_true, if_false, Bool.false_eq_true, reduceIte, ite_true, ite_false, len_t0, len_t1, len_t2, len_t3, len_l0, len_l1, eqI, neI, Int.reduceBEq, Int.reduceLT, Int.reduceLE, Int.reduceNeg, decide_true, decide_false, Bool.not_true, Bool.not_false, ix0, ix1, ix2, and_true, and_self]
        by_cases hl : a < (cs.length : Int)
        · have hl' : decide (a < (cs.length : Int)) = true := by simpa using hl
          simp only [hl', if_true]
          have hget : (cs.map D.int)[a.toNat]? = some (.int (cs.getD a.toNat 0)) := by
            rw [List.getElem?_map, List.getD_eq_getElem?_getD, List.getElem?_eq_getElem (by omega)]
            rfl
          have hix := atD_nat hget
          rw [Int.toNat_of_nonneg ha] at hix
          simp only [ixr0 hG, ixr1 hG, wExpr, wRaise, gSb, wSeq, wNext, wRet, wRetN, wExpr, wIfS, wSet, wAsg, wPar, wAug, w1, w2, wA, aNil, aCons, wVar, wVarT, wC, tOfW, w3c, wAnd, wOr, wNot, tAnd3, tOr3, tNot3, wIf, wTup, wLst, wLstO, wCall, wSl, pNone, pSome, wipe3, List.map_cons, List.map_nil, fI2, fI2C, fI1, fAbs, addI, mulI, intI, eqS, neS, isN_, notN_, L3.isNon, gN, gsN, gsC, gT, asT, at3, List.set_cons_zero, List.set_cons_succ, Option.some.injEq, exists_eq_left', D.bl.injEq, D.int.injEq, D.tup.injEq, List.length_cons, List.length_nil, Nat.reduceAdd, true_and, if_true, if_false, Bool.false_eq_true, reduceIte, ite_true, ite_false, len_t0, len_t1, len_t2, len_t3, len_l0, len_l1, eqI, neI, Int.reduceBEq, Int.reduceLT, Int.reduceLE, Int.reduceNeg, decide_true, decide_false, Bool.not_true, Bool.not_false, ix0, ix1, ix2, and_true, and_self]
          unfold ilD
          rw [ix_lst hix]
          generalize cs.getD a.toNat 0 = v
          simp only [ixr1 hG, wExpr, wRaise, gSb, wSeq, wNext, wRet, wRetN, wExpr, wIfS, wSet, wAsg, wPar, wAug, w1, w2, wA, aNil, aCons, wVar, wVarT, wC, tOfW, w3c, wAnd, wOr, wNot, tAnd3, tOr3, tNot3, wIf, wTup, wLst, wLstO, wCall, wSl, pNone, pSome, wipe3, List.map_cons, List.map_nil, fI2, fI2C, fI1, fAbs, addI, mulI, intI, eqS, neS, isN_, notN_, L3.isNon, gN, gsN, gsC, gT, asT, at3, List.set_cons_zero, List.set_cons_succ, Option.some.injEq, exists_eq_left', D.bl.injEq, D.int.injEq, D.tup.injEq, List.length_cons, List.length_nil, Nat.reduceAdd, true_and, if_true, if_false, Bool.false_eq_true, reduceIte, ite_true, ite_false, len_t0, len_t1, len_t2, len_t3, len_l0, len_l1, eqI, neI, Int.reduceBEq, Int.reduceLT, Int.reduceLE, Int.reduceNeg, decide_true, decide_false, Bool.not_true, Bool.not_false, ix0, ix1, ix2, and_true, and_self]
          rw [set_ref (i := 1) 1 rfl (by simp) hG]
          simp only [List.set_cons_zero, List.set_cons_succ]
          have hG2 : gset G p (.lst [ilD cs, .int (a + 1), .int b, .int c, .int d]) p = some (.lst [ilD cs, .int (a + 1), .int b, .int c, .int d]) := gset_same
          simp only [ixr3 hG2, wExpr, wRaise, gSb, wSeq, wNext, wRet, wRetN, wExpr, wIfS, wSet, wAsg, wPar, wAug, w1, w2, wA, aNil, aCons, wVar, wVarT, wC, tOfW, w3c, wAnd, wOr, wNot, tAnd3, tOr3, tNot3, wIf, wTup, wLst, wLstO, wCall, wSl, pNone, pSome, wipe3, List.map_cons, List.map_nil, fI2, fI2C, fI1, fAbs, addI, mulI, intI, eqS, neS, isN_, notN_, L3.isNon, gN, gsN, gsC, gT, asT, at3, List.set_cons_zero, List.set_cons_succ, Option.some.injEq, exists_eq_left', D.bl.injEq, D.int.injEq, D.tup.injEq, List.length_cons, List.length_nil, Nat.reduceAdd, true_and, if_true, if_false, Bool.false_eq_true, reduceIte, ite_true, ite_false, len_t0, len_t1, len_t2, len_t3, len_l0, len_l1, eqI, neI, Int.reduceBEq, Int.reduceLT, Int.reduceLE, Int.reduceNeg, decide_true, decide_false, Bool.not_true, Bool.not_false, ix0, ix1, ix2, and_true, and_self]
          refine ⟨mulR (by decide) (by decide), mulR (by decide) (by decide), by decide, ?_⟩
          rw [set_ref (i := 3) 3 rfl (by simp) hG2]
          simp only [List.set_cons_zero, List.set_cons_succ]
          generalize hc' : (c * 69621 + v * 40692 + 31).fmod 2147483629 = c'
          have hG3 : gset (gset G p (.lst [ilD cs, .int (a + 1), .int b, .int c, .int d])) p (.lst [ilD cs, .int (a + 1), .int b, .int c', .int d]) p = some (.lst [ilD cs, .int (a + 1), .int b, .int c', .int d]) := gset_same
          refine ⟨⟨by decide, by decide, by decide⟩, ?_⟩
          cases hv : decide (v ≥ (10 : Int) ^ (18 : Int).toNat) with
          | false =>
            simp only [Bool.false_eq_true, if_false]
            exact hN _ _ ⟨_, _, _, rfl, ⟨cs, _, b, c', d, by omega, hcs, hG3⟩, (Apart.refl.gset).gset⟩
          | true =>
            simp only [if_true, wExpr, wRaise, gSb, wSeq, wNext, wRet, wRetN, wExpr, wIfS, wSet, wAsg, wPar, wAug, w1, w2, wA, aNil, aCons, wVar, wVarT, wC, tOfW, w3c, wAnd, wOr, wNot, tAnd3, tOr3, tNot3, wIf, wTup, wLst, wLstO, wCall, wSl, pNone, pSome, wipe3, List.map_cons, List.map_nil, fI2, fI2C, fI1, fAbs, addI, mulI, intI, eqS, neS, isN_, notN_, L3.isNon, gN, gsN, gsC, gT, asT, at3, List.set_cons_zero, List.set_cons_succ, Option.some.injEq, exists_eq_left', D.bl.injEq, D.int.injEq, D.tup.injEq, List.length_cons, List.length_nil, Nat.reduceAdd, true_and, if_true, if_false, Bool.false_eq_true, reduceIte, ite_true, ite_false, len_t0, len_t1, len_t2, len_t3, len_l0, len_l1, eqI, neI, Int.reduceBEq, Int.reduceLT, Int.reduceLE, Int.reduceNeg, decide_true, decide_false, Bool.not_true, Bool.not_false, ix0, ix1, ix2, and_true, and_self]
            rw [set_ref (i := 2) 2 rfl (by simp) hG3]
            exact hN _ _ ⟨_, _, _, rfl, ⟨cs, _, v, c', d, by omega, hcs, gset_same⟩, ((Apart.refl.gset).gset).gset⟩
        · have hl' : decide (a < (cs.length : Int)) = false := by simpa using hl
          simp only [hl', Bool.false_eq_true, if_false]
          exact hN _ _ ⟨_, _, _, rfl, ⟨cs, a, b, c, d, ha, hcs, hG0⟩, .refl⟩
end

end K01

set_option Elab.async false
set_option linter.all false
set_option maxRecDepth 100000
set_option maxHeartbeats 0
namespace K01
open PySem PySem.Spec L2 L3
open PyProof.Rows hiding St
theorem cut_map {l : List Int} {lo hi : Option Int} : ∃ m : List Int, L3.cutD (l.map D.int) lo hi = m.map D.int ∧ m.length ≤ l.length := by
  refine ⟨(l.drop (HT.sIx l.length 0 lo)).take (HT.sIx l.length l.length hi - HT.sIx l.length 0 lo), ?_, ?_⟩
  · unfold L3.cutD
    rw [List.length_map, List.map_take, List.map_drop]
  · rw [List.length_take, List.length_drop]
    omega
section
variable {P : Program} {w : World} {K : PySem.W.Frag} {mg : Str → Option Value} {base : Heap}
def S_hand : SP3 := fun ds G R _ => match ds with
  | [x] => ∃ ns : List Int, x = .lsx (ns.map D.int) ∧ ns.length ≤ 4000 ∧ ∀ p G', HandOk G' p → Apart p G G' → G p = none → R (.ref p) G'
  | _ => False
theorem ok_hand (T : Tx K mg) : Good P w K mg base "_law_hand" ["script"] 1 S_hand := by
  refine good_of (d__law_hand T) sc__law_hand fun f cd A outer s H E hp tk hgd hr => ⟨_, (s_cons (s_setLc 1 [("cell", 2)] rfl sc__law_hand.nd rfl rfl (sw_true rfl rfl rfl (by kernel_rfl)) (i_lst (c_slice (c_var 0) p_none (p_some c_int))) (blkOk_by (by kernel_rfl)) (by decide) (fun _ _ _ _ _ => (g_name 2 sc__law_hand.nd rfl (.inl rfl))) (fun _ _ _ _ _ => ts_nil) (fun _ _ _ _ _ => (c_callB call_abs lift_abs (n_abs T) (a_cons (c_callT call_int1 lift_int (n_int T) (a_cons (c_var 2) a_nil)) a_nil))))
      (s_one (s_ret (c_lstO (a_cons (c_var 1) (a_cons c_int (a_cons c_int (a_cons (c_op op_add3 lift_add c_int (c_op op_mul3 lift_mul c_int (c_callB call_len lift_len (n_len T) (a_cons (c_var 1) a_nil)))) (a_cons c_int a_nil))))))))), fun ds G R Ex hlen hS => ?_⟩
  clear hp tk hgd hr hlen
  match ds, hS with
  | [x], ⟨ns, e, hn, hR⟩ =>
    subst e
    rw [show start3 ["script", "cells", "cell"] [.lsx (ns.map D.int)] = [some (.lsx (ns.map D.int)), none, none] from rfl]
    obtain ⟨m, hm, hml⟩ := cut_map (l := ns) (lo := none) (hi := some 63)
    simp only [wExpr, wRaise, gSb, wSeq, wNext, wRet, wRetN, wExpr, wIfS, wSet, wAsg, wPar, wAug, w1, w2, wA, aNil, aCons, wVar, wVarT, wC, tOfW, w3c, wAnd, wOr, wNot, tAnd3, tOr3, tNot3, wIf, wTup, wLst, wLstO, wCall, wSl, pNone, pSome, wipe3, List.map_cons, List.map_nil, fI2, fI2C, fI1, fAbs, addI, mulI, intI, eqS, neS, isN_, notN_, L3.isNon, gN, gsN, gsC, gT, asT, at3, List.set_cons_zero, List.set_cons_succ, Option.some.injEq, exists_eq_left', D.bl.injEq, D.int.injEq, D.tup.injEq, List.length_cons, List.length_nil, Nat.reduceAdd, true_and, if_true, if_false, Bool.false_eq_true, reduceIte, ite_true, ite_false, len_t0, len_t1, len_t2, len_t3, len_l0, len_l1, eqI, neI, Int.reduceBEq, Int.reduceLT, Int.reduceLE, Int.reduceNeg, decide_true, decide_false, Bool.not_true, Bool.not_false, ix0, ix1, ix2, and_true, and_self]
    refine wLc_it (ds := m.map D.int) (fun d => match d with
      | .int i => .int (if i < 0 then -i else i)
      | d => d) rfl (by rw [List.length_map, sizeLine_eq]; omega) (fun Kt hK => ?_) ?_ ?_
    · simp only [wExpr, wRaise, gSb, wSeq, wNext, wRet, wRetN, wExpr, wIfS, wSet, wAsg, wPar, wAug, w1, w2, wA, aNil, aCons, wVar, wVarT, wC, tOfW, w3c, wAnd, wOr, wNot, tAnd3, tOr3, tNot3, wIf, wTup, wLst, wLstO, wCall, wSl, pNone, pSome, wipe3, List.map_cons, List.map_nil, fI2, fI2C, fI1, fAbs, addI, mulI, intI, eqS, neS, isN_, notN_, L3.isNon, gN, gsN, gsC, gT, asT, at3, List.set_cons_zero, List.set_cons_succ, Option.some.injEq, exists_eq_left', D.bl.injEq, D.int.injEq, D.tup.injEq, List.length_cons, List.length_nil, Nat.reduceAdd, true_and, if_true, if_false, Bool.false_eq_true, reduceIte, ite_true, ite_false, len_t0, len_t1, len_t2, len_t3, len_l0, len_l1, eqI, neI, Int.reduceBEq, Int.reduceLT, Int.reduceLE, Int.reduceNeg, decide_true, decide_false, Bool.not_true, Bool.not_false, ix0, ix1, ix2, and_true, and_self, iLst, fSl]
      exact ⟨_, rfl, m.map D.int, by rw [← hm]; rfl, hK _ fun _ _ => trivial⟩
    · intro d hd p acc Q hp hQ
      obtain ⟨i, _, rfl⟩ := List.mem_map.mp hd
      simp only [wExpr, wRaise, gSb, wSeq, wNext, wRet, wRetN, wExpr, wIfS, wSet, wAsg, wPar, wAug, w1, w2, wA, aNil, aCons, wVar, wVarT, wC, tOfW, w3c, wAnd, wOr, wNot, tAnd3, tOr3, tNot3, wIf, wTup, wLst, wLstO, wCall, wSl, pNone, pSome, wipe3, List.map_cons, List.map_nil, fI2, fI2C, fI1, fAbs, addI, mulI, intI, eqS, neS, isN_, notN_, L3.isNon, gN, gsN, gsC, gT, asT, at3, List.set_cons_zero, List.set_cons_succ, Option.some.injEq, exists_eq_left', D.bl.injEq, D.int.injEq, D.tup.injEq, List.length_cons, List.length_nil, Nat.reduceAdd, true_and, if_true, if_false, Bool.false_eq_true, reduceIte, ite_true, ite_false, len_t0, len_t1, len_t2, len_t3, len_l0, len_l1, eqI, neI, Int.reduceBEq, Int.reduceLT, Int.reduceLE, Int.reduceNeg, decide_true, decide_false, Bool.not_true, Bool.not_false, ix0, ix1, ix2, and_true, and_self]
      exact hQ
    · have e2 : ((m.map D.int).map fun d => match d with
          | .int i => D.int (if i < 0 then -i else i)
          | d => d) = (m.map fun i : Int => if i < 0 then -i else i).map D.int := by
        rw [List.map_map, List.map_map]
        rfl
      rw [e2]
      generalize hcs : (m.map fun i : Int => if i < 0 then -i else i) = cs
      have hcl : cs.length ≤ 4000 := by
        rw [← hcs, List.length_map]
        omega
      simp only [wExpr, wRaise, gSb, wSeq, wNext, wRet, wRetN, wExpr, wIfS, wSet, wAsg, wPar, wAug, w1, w2, wA, aNil, aCons, wVar, wVarT, wC, tOfW, w3c, wAnd, wOr, wNot, tAnd3, tOr3, tNot3, wIf, wTup, wLst, wLstO, wCall, wSl, pNone, pSome, wipe3, List.map_cons, List.map_nil, fI2, fI2C, fI1, fAbs, addI, mulI, intI, eqS, neS, isN_, notN_, L3.isNon, gN, gsN, gsC, gT, asT, at3, List.set_cons_zero, List.set_cons_succ, Option.some.injEq, exists_eq_left', D.bl.injEq, D.int.injEq, D.tup.injEq, List.length_cons, List.length_nil, Nat.reduceAdd, true_and, if_true, if_false, Bool.false_eq_true, reduceIte, ite_true, ite_false, len_t0, len_t1, len_t2, len_t3, len_l0, len_l1, eqI, neI, Int.reduceBEq, Int.reduceLT, Int.reduceLE, Int.reduceNeg, decide_true, decide_false, Bool.not_true, Bool.not_false, ix0, ix1, ix2, and_true, and_self, len_lst, List.length_map]
      refine ⟨mulR (by omega) (by omega), sizeLine_eq ▸ (by decide), fun p hp => hR p _ ⟨cs, 0, 0, _, 0, Int.le_refl 0, hcl, gset_same⟩ (Apart.refl.gset) hp⟩
def S_any : SP3 := fun ds G R _ => match ds with
  | [x, y] => ∃ (p : Addr) (es : List D), x = .ref p ∧ y ≠ .ref p ∧ HandOk G p ∧ asS G y = some es ∧ 0 < es.length ∧ es.length < 4000 ∧ ∀ d G', d ∈ es → HandOk G' p → Apart p G G' → R d G'
  | _ => False
theorem len_seq {y : D} {es : List D} {G : GH} {R : K3} (h : asS G y = some es) (q : R (.int es.length) G) : fLen [y] G R := by
  cases y with
  | str z => cases h
  | _ => exact ⟨es, h, q⟩
theorem ix_seq3 {y d : D} {es : List D} {i : Int} {G : GH} {R : K3} (h : asS G y = some es) (hi : atD es i = some d) (q : R d G) : fIx y (.int i) G R := by
  cases y with
  | str z => cases h
  | _ => exact ⟨es, d, h, hi, q⟩
theorem ok_any (T : Tx K mg) : Good P w K mg base "_law_any" ["hand", "some"] 2 S_any := by
  have g__law_draw := ok_draw (P := P) (w := w) (base := base) T
  refine good_of (d__law_any T) sc__law_any fun f cd A outer s H E hp tk hgd hr => ⟨_, (s_one (s_ret (c_ix (c_var 1) (c_call g__law_draw (hr.mono (by omega)) hgd tk (a_cons (c_var 0) (a_cons (c_callB call_len lift_len (n_len T) (a_cons (c_var 1) a_nil)) a_nil)))))), fun ds G R Ex hlen hS => ?_⟩
  clear hp tk hgd hr hlen
  match ds, hS with
  | [x, y], ⟨p, es, e, hy, hH, hs, h0, h1, hR⟩ =>
    subst e
    rw [show start3 ["hand", "some"] [.ref p, y] = [some (.ref p), some (y)] from rfl]
    simp only [wExpr, wRaise, gSb, wSeq, wNext, wRet, wRetN, wExpr, wIfS, wSet, wAsg, wPar, wAug, w1, w2, wA, aNil, aCons, wVar, wVarT, wC, tOfW, w3c, wAnd, wOr, wNot, tAnd3, tOr3, tNot3, wIf, wTup, wLst, wLstO, wCall, wSl, pNone, pSome, wipe3, List.map_cons, List.map_nil, fI2, fI2C, fI1, fAbs, addI, mulI, intI, eqS, neS, isN_, notN_, L3.isNon, gN, gsN, gsC, gT, asT, at3, List.set_cons_zero, List.set_cons_succ, Option.some.injEq, exists_eq_left', D.bl.injEq, D.int.injEq, D.tup.injEq, List.length_cons, List.length_nil, Nat.reduceAdd, true_and, if_true, if_false, Bool.false_eq_true, reduceIte, ite_true, ite_false, len_t0, len_t1, len_t2, len_t3, len_l0, len_l1, eqI, neI, Int.reduceBEq, Int.reduceLT, Int.reduceLE, Int.reduceNeg, decide_true, decide_false, Bool.not_true, Bool.not_false, ix0, ix1, ix2, and_true, and_self, S_draw]
    refine len_seq hs ⟨p, es.length, rfl, rfl, hH, by omega, by omega, fun r G' hr1 hr2 hH' hA => ?_⟩
    have hg : es[r.toNat]? = some (es[r.toNat]'(by omega)) := List.getElem?_eq_getElem _
    have hi := atD_nat hg
    rw [Int.toNat_of_nonneg hr1] at hi
    exact ix_seq3 (hA.asS hy hs) hi (hR _ _ (List.getElem_mem _) hH' hA)
def S_mixed : SP3 := fun ds G R _ => match ds with
  | [x, y] => ∃ (p : Addr) (es : List D), x = .ref p ∧ y ≠ .ref p ∧ HandOk G p ∧ asS G y = some es ∧ es.length < 4000 ∧ ∀ fs G', fs.Perm es → HandOk G' p → Apart p G G' → R (.lst fs) G'
  | _ => False
theorem ok_mixed (T : Tx K mg) : Good P w K mg base "_law_mixed" ["hand", "some"] 2 S_mixed := by
  have g__law_draw := ok_draw (P := P) (w := w) (base := base) T
  refine good_of (d__law_mixed T) sc__law_mixed fun f cd A outer s H E hp tk hgd hr => ⟨_, (s_cons (s_par 2 3 rfl sc__law_mixed.nd rfl rfl (by decide) rfl rfl (a_cons (c_callT call_list_of lift_listO (n_list T) (a_cons (c_var 1) a_nil)) (a_cons (c_lstO a_nil) a_nil)) rfl)
      (s_cons (s_while hp (t_cmp op_gt lift_I2b (c_callB call_len lift_len (n_len T) (a_cons (c_var 2) a_nil)) c_int) (s_one (s_expr (c_bm PySem.F.plainAttrs_list PySem.F.slot_list_append PySem.F.type_list_append mt_append m_append (c_var 3) (a_cons (c_bm PySem.F.plainAttrs_list PySem.F.slot_list_pop PySem.F.type_list_pop mt_popAt m_popAt (c_var 2) (a_cons (c_call g__law_draw (hr.mono (by omega)) hgd tk (a_cons (c_var 0) (a_cons (c_callB call_len lift_len (n_len T) (a_cons (c_var 2) a_nil)) a_nil))) a_nil)) a_nil)))))
      (s_one (s_ret (c_varZ 3))))), fun ds G R Ex hlen hS => ?_⟩
  clear hp tk hgd hr hlen
  match ds, hS with
  | [x, y], ⟨p, es, e, hy, hH, hs, h1, hR⟩ =>
    subst e
    rw [show start3 ["hand", "some", "left", "found"] [.ref p, y] = [some (.ref p), some (y), none, none] from rfl]
    simp only [wExpr, wRaise, gSb, wSeq, wNext, wRet, wRetN, wExpr, wIfS, wSet, wAsg, wPar, wAug, w1, w2, wA, aNil, aCons, wVar, wVarT, wC, tOfW, w3c, wAnd, wOr, wNot, tAnd3, tOr3, tNot3, wIf, wTup, wLst, wLstO, wCall, wSl, pNone, pSome, wipe3, List.map_cons, List.map_nil, fI2, fI2C, fI1, fAbs, addI, mulI, intI, eqS, neS, isN_, notN_, L3.isNon, gN, gsN, gsC, gT, asT, at3, List.set_cons_zero, List.set_cons_succ, Option.some.injEq, exists_eq_left', D.bl.injEq, D.int.injEq, D.tup.injEq, List.length_cons, List.length_nil, Nat.reduceAdd, true_and, if_true, if_false, Bool.false_eq_true, reduceIte, ite_true, ite_false, len_t0, len_t1, len_t2, len_t3, len_l0, len_l1, eqI, neI, Int.reduceBEq, Int.reduceLT, Int.reduceLE, Int.reduceNeg, decide_true, decide_false, Bool.not_true, Bool.not_false, ix0, ix1, ix2, and_true, and_self, wWhile]
    refine ⟨y, es, rfl, hs, fun q1 hq1 => ⟨Nat.zero_le _, fun q2 hq2 => ?_⟩⟩
    have n1 : q1 ≠ p := hH.ne hq1
    have hq2' : G q2 = none := by
      by_cases z : q2 = q1
      · rw [z]; exact hq1
      · rw [gset_ne z] at hq2; exact hq2
    have n2 : q2 ≠ p := hH.ne hq2'
    have n12 : q2 ≠ q1 := fun z => by
      rw [z, gset_same] at hq2
      cases hq2
    have main : ∀ (m : Nat) (L F : List D) (G' : GH) (E : E3), L.length = m → (F ++ L).Perm es → HandOk G' p → Apart p G G' → G' q1 = some (.lst L) → G' q2 = some (.lst F) →
        (∀ (F' : List D) (G2 : GH), F'.Perm es → HandOk G2 p → Apart p G G2 → G2 q2 = some (.lst F') → E.nx [some (.ref p), some y, some (.ref q1), some (.ref q2)] G2) →
        whl (tOfW (w2 (fI2 fun i j => D.bl (decide (j < i))) (wA fLen (aCons (wVar 2) aNil)) (wC (D.int 0))))
          (wExpr (wM fAppend cL (wVar 3) (aCons (wM fPopAt cL (wVar 2) (aCons (wCall 2 S_draw (aCons (wVar 0) (aCons (wA fLen (aCons (wVar 2) aNil)) aNil))) aNil)) aNil)))
          E (m + 1) [some (.ref p), some y, some (.ref q1), some (.ref q2)] G' := by
      intro m
      induction m with
      | zero =>
        intro L F G' E hl hp hH' hA g1 g2 hE
        have e0 : L = [] := List.length_eq_zero_iff.mp hl
        subst e0
        simp only [whl, wExpr, wRaise, gSb, wSeq, wNext, wRet, wRetN, wExpr, wIfS, wSet, wAsg, wPar, wAug, w1, w2, wA, aNil, aCons, wVar, wVarT, wC, tOfW, w3c, wAnd, wOr, wNot, tAnd3, tOr3, tNot3, wIf, wTup, wLst, wLstO, wCall, wSl, pNone, pSome, wipe3, List.map_cons, List.map_nil, fI2, fI2C, fI1, fAbs, addI, mulI, intI, eqS, neS, isN_, notN_, L3.isNon, gN, gsN, gsC, gT, asT, at3, List.set_cons_zero, List.set_cons_succ, Option.some.injEq, exists_eq_left', D.bl.injEq, D.int.injEq, D.tup.injEq, List.length_cons, List.length_nil, Nat.reduceAdd, true_and, if_true, if_false, Bool.false_eq_true, reduceIte, ite_true, ite_false, len_t0, len_t1, len_t2, len_t3, len_l0, len_l1, eqI, neI, Int.reduceBEq, Int.reduceLT, Int.reduceLE, Int.reduceNeg, decide_true, decide_false, Bool.not_true, Bool.not_false, ix0, ix1, ix2, and_true, and_self, len_ref g1, z_lt_0]
        exact hE F G' (by simpa using hp) hH' hA g2
      | succ m ih =>
        intro L F G' E hl hp hH' hA g1 g2 hE
        have hlen : L.length ≤ es.length := by
          have := hp.length_eq
          rw [List.length_append] at this
          omega
        rw [whl]
        simp only [wExpr, wRaise, gSb, wSeq, wNext, wRet, wRetN, wExpr, wIfS, wSet, wAsg, wPar, wAug, w1, w2, wA, aNil, aCons, wVar, wVarT, wC, tOfW, w3c, wAnd, wOr, wNot, tAnd3, tOr3, tNot3, wIf, wTup, wLst, wLstO, wCall, wSl, pNone, pSome, wipe3, List.map_cons, List.map_nil, fI2, fI2C, fI1, fAbs, addI, mulI, intI, eqS, neS, isN_, notN_, L3.isNon, gN, gsN, gsC, gT, asT, at3, List.set_cons_zero, List.set_cons_succ, Option.some.injEq, exists_eq_left', D.bl.injEq, D.int.injEq, D.tup.injEq, List.length_cons, List.length_nil, Nat.reduceAdd, true_and, if_true, if_false, Bool.false_eq_true, reduceIte, ite_true, ite_false, len_t0, len_t1, len_t2, len_t3, len_l0, len_l1, eqI, neI, Int.reduceBEq, Int.reduceLT, Int.reduceLE, Int.reduceNeg, decide_true, decide_false, Bool.not_true, Bool.not_false, ix0, ix1, ix2, and_true, and_self, len_ref g1]
        have pos : decide ((0 : Int) < (L.length : Int)) = true := by
          rw [decide_eq_true_eq]
          omega
        simp only [pos, if_true, wM, wExpr, wRaise, gSb, wSeq, wNext, wRet, wRetN, wExpr, wIfS, wSet, wAsg, wPar, wAug, w1, w2, wA, aNil, aCons, wVar, wVarT, wC, tOfW, w3c, wAnd, wOr, wNot, tAnd3, tOr3, tNot3, wIf, wTup, wLst, wLstO, wCall, wSl, pNone, pSome, wipe3, List.map_cons, List.map_nil, fI2, fI2C, fI1, fAbs, addI, mulI, intI, eqS, neS, isN_, notN_, L3.isNon, gN, gsN, gsC, gT, asT, at3, List.set_cons_zero, List.set_cons_succ, Option.some.injEq, exists_eq_left', D.bl.injEq, D.int.injEq, D.tup.injEq, List.length_cons, List.length_nil, Nat.reduceAdd, true_and, if_true, if_false, Bool.false_eq_true, reduceIte, ite_true, ite_false, len_t0, len_t1, len_t2, len_t3, len_l0, len_l1, eqI, neI, Int.reduceBEq, Int.reduceLT, Int.reduceLE, Int.reduceNeg, decide_true, decide_false, Bool.not_true, Bool.not_false, ix0, ix1, ix2, and_true, and_self, S_draw, len_ref g1]
        refine ⟨(by unfold cL; rw [asL_ref g2]; rfl), (by unfold cL; rw [asL_ref g1]; rfl), p, L.length, rfl, rfl, hH', by omega, by omega, fun r G2 r1 r2 hH2 hA2 => ?_⟩
        have g1' : G2 q1 = some (.lst L) := (hA2 q1 n1 (by rw [g1]; simp)).trans g1
        have g2' : G2 q2 = some (.lst F) := (hA2 q2 n2 (by rw [g2]; simp)).trans g2
        have hr : r.toNat < L.length := by omega
        have hsi : seqIndex? r L.length = some r.toNat := (L2.ixN_seq (i := r) (j := r.toNat) (by
          unfold L2.ixN
          rw [if_pos r1, if_pos r2])).1
        refine ⟨L, r.toNat, L[r.toNat], g1', by omega, by omega, hsi, List.getElem?_eq_getElem hr, ?_⟩
        have g2s : gset G2 q1 (.lst (L.eraseIdx r.toNat)) q2 = some (.lst F) := by
          rw [gset_ne n12]
          exact g2'
        have fl : F.length < sizeLine := by
          have := hp.length_eq
          rw [List.length_append] at this
          rw [sizeLine_eq]
          omega
        refine ⟨F, g2s, fl, ?_⟩
        have pe : (F ++ [L[r.toNat]] ++ L.eraseIdx r.toNat).Perm es := by
          rw [List.append_assoc]
          refine List.Perm.trans ?_ hp
          exact List.Perm.append_left F (perm_erase L _ hr)
        refine ih (L.eraseIdx r.toNat) (F ++ [L[r.toNat]]) _ E (by rw [List.length_eraseIdx_of_lt hr]; omega) pe ((hH2.new n1).new n2) (((hA.trans hA2).new hq1).new hq2') ?_ gset_same hE
        rw [gset_ne n12.symm]
        exact gset_same
    refine ⟨es.length + 1, main es.length es [] _ _ rfl (List.Perm.refl _) ((hH.new n1).new n2) ((Apart.refl.new hq1).new hq2') (by rw [gset_ne n12.symm]; exact gset_same) gset_same fun F' G2 k1 k2 k3 k4 => ?_⟩
    refine ⟨q2, F', rfl, k4, hR F' _ k1 (k2.del n2) (k3.del hq2')⟩
end

end K01

set_option Elab.async false
set_option linter.all false
set_option maxRecDepth 100000
set_option maxHeartbeats 0
namespace K01
open PySem PySem.Spec L2 L3
open PyProof.Rows hiding St
section
variable {P : Program} {w : World} {K : PySem.W.Frag} {mg : Str → Option Value} {base : Heap}
theorem ok_whole (T : Tx K mg) : Good P w K mg base "_law_is_whole" ["thing"] 1 S_is_int := by
  refine good_of (d__law_is_whole T) sc__law_is_whole fun f cd A outer s H E hp tk hgd hr => ⟨_, (s_one (s_ret (c_and (c_callB call_isi3 lift_isi (n_isinstance T) (a_cons (c_var 0) (a_cons (c_bltn (n := "int") (n_int T)) a_nil))) (c_one (c_not (c_callB call_isi3 lift_isi (n_isinstance T) (a_cons (c_var 0) (a_cons (c_bltn (n := "bool") (n_bool T)) a_nil)))))))), fun ds G R Ex hlen hS => ?_⟩
  clear hp tk hgd hr hlen
  match ds, hS with
  | [x], ⟨h1, h2⟩ =>
    rw [show start3 ["thing"] [x] = [some (x)] from rfl]
    simp only [wExpr, wRaise, gSb, wSeq, wNext, wRet, wRetN, wExpr, wIfS, wSet, wAsg, wPar, wAug, w1, w2, wA, aNil, aCons, wVar, wVarT, wC, tOfW, w3c, wAnd, wOr, wNot, tAnd3, tOr3, tNot3, wIf, wTup, wLst, wLstO, wCall, wSl, pNone, pSome, wipe3, List.map_cons, List.map_nil, fI2, fI2C, fI1, fAbs, addI, mulI, intI, eqS, neS, isN_, notN_, L3.isNon, gN, gsN, gsC, gT, asT, at3, List.set_cons_zero, List.set_cons_succ, Option.some.injEq, exists_eq_left', D.bl.injEq, D.int.injEq, D.tup.injEq, List.length_cons, List.length_nil, Nat.reduceAdd, true_and, if_true, if_false, Bool.false_eq_true, reduceIte, ite_true, ite_false, len_t0, len_t1, len_t2, len_t3, len_l0, len_l1, eqI, neI, Int.reduceBEq, Int.reduceLT, Int.reduceLE, Int.reduceNeg, decide_true, decide_false, Bool.not_true, Bool.not_false, ix0, ix1, ix2, and_true, and_self, isi_int h1, isi_bool h1]
    cases x <;> exact h2
theorem whl_frac {E : E3} {G : GH} {tt : T3} {bb : S3} {v0 v1 : Option D} (Hyp : ∀ (a b : Int), 0 ≤ b → Bd a → Bd b → ∀ (n : Nat) (E : E3), (b = 0 → E.nx [v0, v1, some (.int a), some (.int b)] G) → (0 < b → whl tt bb E n [v0, v1, some (.int b), some (.int (a.fmod b))] G) → whl tt bb E (n + 1) [v0, v1, some (.int a), some (.int b)] G) :
    ∀ (m : Nat) (a b : Int), b.natAbs ≤ m → 0 ≤ a → 0 ≤ b → Bd a → Bd b → (∀ x : Int, x = (Int.gcd a b : Nat) → Bd x → E.nx [v0, v1, some (.int x), some (.int 0)] G) → whl tt bb E (m + 1) [v0, v1, some (.int a), some (.int b)] G
  | 0, a, b, h1, h0, h2, h3, h4, h5 => by
    have e : b = 0 := by omega
    subst e
    exact Hyp a 0 h2 h3 h4 0 E (fun _ => h5 a (by rw [Int.gcd_zero]; omega) h3) (fun z => by omega)
  | m + 1, a, b, h1, h0, h2, h3, h4, h5 => by
    refine Hyp a b h2 h3 h4 (m + 1) E (fun e => ?_) (fun hb => ?_)
    · subst e
      exact h5 a (by rw [Int.gcd_zero]; omega) h3
    · obtain ⟨e1, e2, e3⟩ := euclid (a := a) hb
      have ef : a - a.fdiv b * b = a.fmod b := by
        have := Int.fdiv_mul_self a b
        omega
      rw [ef] at e1 e2 e3
      refine whl_frac Hyp m b _ (by omega) h2 e2 h4 (h4.le (by omega)) fun x hx bx => h5 x (by rw [← e1]; exact hx) bx
theorem ok_lfrac (T : Tx K mg) : Good P w K mg base "_law_frac" ["top", "low"] 1 S_fraction := by
  refine good_of (d__law_frac T) sc__law_frac fun f cd A outer s H E hp tk hgd hr => ⟨_, (s_cons (s_if (t_cmp op_lt lift_I2b (c_var 1) c_int) (s_one (s_par 0 1 rfl sc__law_frac.nd rfl rfl (by decide) rfl rfl (a_cons (c_op op_sub lift_I2i c_int (c_var 0)) (a_cons (c_op op_sub lift_I2i c_int (c_var 1)) a_nil)) rfl)) s_nil)
      (s_cons (s_par 2 3 rfl sc__law_frac.nd rfl rfl (by decide) rfl rfl (a_cons (c_callB call_abs lift_abs (n_abs T) (a_cons (c_var 0) a_nil)) (a_cons (c_var 1) a_nil)) rfl)
      (s_cons (s_while hp (t_cmp op_gt lift_I2b (c_var 3) c_int) (s_one (s_par 2 3 rfl sc__law_frac.nd rfl rfl (by decide) rfl rfl (a_cons (c_var 3) (a_cons (c_op op_modG lift_I2C (c_callT call_int1 lift_int (n_int T) (a_cons (c_var 2) a_nil)) (c_var 3)) a_nil)) rfl)))
      (s_one (s_ret (c_tup (a_cons (c_op op_fdivG lift_I2C (c_var 0) (c_var 2)) (a_cons (c_op op_fdivG lift_I2C (c_var 1) (c_var 2)) a_nil)))))))), fun ds G R Ex hlen hS => ?_⟩
  clear hp tk hgd hr hlen
  match ds, hS with
  | [.int n, .int d], ⟨h1, h2, h3, h4⟩ =>
    rw [show start3 ["top", "low", "one", "other"] [.int n, .int d] = [some (.int n), some (.int d), none, none] from rfl]
    have zn : decide (d < 0) = false := by simpa using Int.le_of_lt h1
    simp only [wExpr, wRaise, gSb, wSeq, wNext, wRet, wRetN, wExpr, wIfS, wSet, wAsg, wPar, wAug, w1, w2, wA, aNil, aCons, wVar, wVarT, wC, tOfW, w3c, wAnd, wOr, wNot, tAnd3, tOr3, tNot3, wIf, wTup, wLst, wLstO, wCall, wSl, pNone, pSome, wipe3, List.map_cons, List.map_nil, fI2, fI2C, fI1, fAbs, addI, mulI, intI, eqS, neS, isN_, notN_, L3.isNon, gN, gsN, gsC, gT, asT, at3, List.set_cons_zero, List.set_cons_succ, Option.some.injEq, exists_eq_left', D.bl.injEq, D.int.injEq, D.tup.injEq, List.length_cons, List.length_nil, Nat.reduceAdd, true_and, if_true, if_false, Bool.false_eq_true, reduceIte, ite_true, ite_false, len_t0, len_t1, len_t2, len_t3, len_l0, len_l1, eqI, neI, Int.reduceBEq, Int.reduceLT, Int.reduceLE, Int.reduceNeg, decide_true, decide_false, Bool.not_true, Bool.not_false, ix0, ix1, ix2, and_true, and_self, wWhile, zn]
    have ea : (if n < 0 then -n else n) = (n.natAbs : Int) := by split <;> omega
    rw [ea]
    have ba : Bd (n.natAbs : Int) := by
      unfold Bd at h2 ⊢
      rw [Int.natAbs_natCast]
      exact h2
    refine ⟨d.natAbs + 1, whl_frac ?_ d.natAbs _ d (Nat.le_refl _) (by omega) (by omega) ba h3 fun x hx bx => ?_⟩
    · intro a b hb _ hB k E he hg
      simp only [whl, wExpr, wRaise, gSb, wSeq, wNext, wRet, wRetN, wExpr, wIfS, wSet, wAsg, wPar, wAug, w1, w2, wA, aNil, aCons, wVar, wVarT, wC, tOfW, w3c, wAnd, wOr, wNot, tAnd3, tOr3, tNot3, wIf, wTup, wLst, wLstO, wCall, wSl, pNone, pSome, wipe3, List.map_cons, List.map_nil, fI2, fI2C, fI1, fAbs, addI, mulI, intI, eqS, neS, isN_, notN_, L3.isNon, gN, gsN, gsC, gT, asT, at3, List.set_cons_zero, List.set_cons_succ, Option.some.injEq, exists_eq_left', D.bl.injEq, D.int.injEq, D.tup.injEq, List.length_cons, List.length_nil, Nat.reduceAdd, true_and, if_true, if_false, Bool.false_eq_true, reduceIte, ite_true, ite_false, len_t0, len_t1, len_t2, len_t3, len_l0, len_l1, eqI, neI, Int.reduceBEq, Int.reduceLT, Int.reduceLE, Int.reduceNeg, decide_true, decide_false, Bool.not_true, Bool.not_false, ix0, ix1, ix2, and_true, and_self]
      by_cases z : b = 0
      · subst z
        exact he rfl
      · have zb : decide (0 < b) = true := by rw [decide_eq_true_eq]; omega
        simp only [zb, if_true]
        exact ⟨z, hg (by omega)⟩
    · have eg : Int.gcd (n.natAbs : Int) d = Int.gcd n d := by
        unfold Int.gcd
        rw [Int.natAbs_natCast]
      rw [eg] at hx
      subst hx
      have gp := gcd_pos (n := n) h1
      simp only [wExpr, wRaise, gSb, wSeq, wNext, wRet, wRetN, wExpr, wIfS, wSet, wAsg, wPar, wAug, w1, w2, wA, aNil, aCons, wVar, wVarT, wC, tOfW, w3c, wAnd, wOr, wNot, tAnd3, tOr3, tNot3, wIf, wTup, wLst, wLstO, wCall, wSl, pNone, pSome, wipe3, List.map_cons, List.map_nil, fI2, fI2C, fI1, fAbs, addI, mulI, intI, eqS, neS, isN_, notN_, L3.isNon, gN, gsN, gsC, gT, asT, at3, List.set_cons_zero, List.set_cons_succ, Option.some.injEq, exists_eq_left', D.bl.injEq, D.int.injEq, D.tup.injEq, List.length_cons, List.length_nil, Nat.reduceAdd, true_and, if_true, if_false, Bool.false_eq_true, reduceIte, ite_true, ite_false, len_t0, len_t1, len_t2, len_t3, len_l0, len_l1, eqI, neI, Int.reduceBEq, Int.reduceLT, Int.reduceLE, Int.reduceNeg, decide_true, decide_false, Bool.not_true, Bool.not_false, ix0, ix1, ix2, and_true, and_self]
      refine ⟨bx.div (by omega), bx.div (by omega), sizeLine_eq ▸ (by decide), ?_⟩
      rw [Int.fdiv_eq_ediv_of_nonneg _ (Int.le_of_lt gp), Int.fdiv_eq_ediv_of_nonneg _ (Int.le_of_lt gp)]
      exact h4
def S_plus : SP3 := fun ds G R _ => match ds with
  | [x, y] => ∃ (p q : Fr) (n : Nat), x = frO p ∧ y = frO q ∧ n ≤ 50 ∧ Sz n p ∧ PtOk q ∧ R (frO (plusP p q)) G
  | _ => False
theorem ok_plus (T : Tx K mg) : Good P w K mg base "_law_plus" ["x", "y"] 2 S_plus := by
  have g__law_frac := ok_lfrac (P := P) (w := w) (base := base) T
  refine good_of (d__law_plus T) sc__law_plus fun f cd A outer s H E hp tk hgd hr => ⟨_, (s_one (s_ret (c_call g__law_frac (hr.mono (by omega)) hgd tk (a_cons (c_op op_add3 lift_add (c_op op_mul3 lift_mul (c_ix (c_var 0) c_int) (c_ix (c_var 1) c_int)) (c_op op_mul3 lift_mul (c_ix (c_var 1) c_int) (c_ix (c_var 0) c_int))) (a_cons (c_op op_mul3 lift_mul (c_ix (c_var 0) c_int) (c_ix (c_var 1) c_int)) a_nil))))), fun ds G R Ex hlen hS => ?_⟩
  clear hp tk hgd hr hlen
  match ds, hS with
  | [x, y], ⟨p, q, n, e1, e2, hn, hp, hq, h⟩ =>
    subst e1 e2
    rw [show start3 ["x", "y"] [frO p, frO q] = [some (frO p), some (frO q)] from rfl]
    obtain ⟨a, b⟩ := p
    obtain ⟨c, e⟩ := q
    obtain ⟨c1, c2, c3, c4, c5⟩ := hp.cross hq
    have bp := hp.bd (by omega)
    have bq := hq.bd
    simp only [wExpr, wRaise, gSb, wSeq, wNext, wRet, wRetN, wExpr, wIfS, wSet, wAsg, wPar, wAug, w1, w2, wA, aNil, aCons, wVar, wVarT, wC, tOfW, w3c, wAnd, wOr, wNot, tAnd3, tOr3, tNot3, wIf, wTup, wLst, wLstO, wCall, wSl, pNone, pSome, wipe3, List.map_cons, List.map_nil, fI2, fI2C, fI1, fAbs, addI, mulI, intI, eqS, neS, isN_, notN_, L3.isNon, gN, gsN, gsC, gT, asT, at3, List.set_cons_zero, List.set_cons_succ, Option.some.injEq, exists_eq_left', D.bl.injEq, D.int.injEq, D.tup.injEq, List.length_cons, List.length_nil, Nat.reduceAdd, true_and, if_true, if_false, Bool.false_eq_true, reduceIte, ite_true, ite_false, len_t0, len_t1, len_t2, len_t3, len_l0, len_l1, eqI, neI, Int.reduceBEq, Int.reduceLT, Int.reduceLE, Int.reduceNeg, decide_true, decide_false, Bool.not_true, Bool.not_false, ix0, ix1, ix2, and_true, and_self, frO, S_fraction]
    exact ⟨bp.1.mul bq.2, bq.1.mul bp.2, bp.2.mul bq.2, Int.mul_pos hp.1 hq.1, Bd.pow c1 (by omega), Bd.pow c2 (by omega), h⟩
theorem okEq_two {a b : Int} : okEq (.tup [.int a, .int b]) = true := by
  unfold okEq
  rw [Bool.and_eq_true]
  exact ⟨rfl, rfl⟩
theorem eq_two {a b c d : Int} {G : GH} {R : K3} (h : R (.bl ((a == c) && (b == d))) G) : fEq (.tup [.int a, .int b]) (.tup [.int c, .int d]) G R := by
  refine ⟨okEq_two, okEq_two, ?_⟩
  have e : eq3 (.tup [.int a, .int b]) (.tup [.int c, .int d]) = ((a == c) && (b == d)) := by
    unfold eq3
    simp only [toPy, toPyL, PyData.eqv, PyData.eqvAll, Bool.and_true]
  rw [e]
  exact h
theorem ok_lisfrac (T : Tx K mg) : Good P w K mg base "_law_is_frac" ["thing"] 2 S_is_fraction := by
  have g__law_is_whole := ok_whole (P := P) (w := w) (base := base) T
  have g__law_frac := ok_lfrac (P := P) (w := w) (base := base) T
  refine good_of (d__law_is_frac T) sc__law_is_frac fun f cd A outer s H E hp tk hgd hr => ⟨_, (s_cons (s_if (t_w (o_or (t_not (t_val (c_callB call_isi3 lift_isi (n_isinstance T) (a_cons (c_var 0) (a_cons (c_bltn (n := "tuple") (n_tuple T)) a_nil))))) (o_or (t_cmp (op_ne3 hr.units) lift_ne (c_callB call_len lift_len (n_len T) (a_cons (c_var 0) a_nil)) c_int) (o_or (t_not (t_val (c_call g__law_is_whole (hr.mono (by omega)) hgd tk (a_cons (c_ix (c_var 0) c_int) a_nil)))) (o_or1 (t_not (t_val (c_call g__law_is_whole (hr.mono (by omega)) hgd tk (a_cons (c_ix (c_var 0) c_int) a_nil))))))))) (s_one (s_ret c_bl)) s_nil)
      (s_one (s_ret (c_and (c_cmp op_ge lift_I2b (c_ix (c_var 0) c_int) c_int) (c_one (c_cmp (op_eq3 hr.units) lift_eq (c_call g__law_frac (hr.mono (by omega)) hgd tk (a_cons (c_ix (c_var 0) c_int) (a_cons (c_ix (c_var 0) c_int) a_nil))) (c_var 0))))))), fun ds G R Ex hlen hS => ?_⟩
  clear hp tk hgd hr hlen
  match ds, hS with
  | [x], ⟨h1, h2⟩ =>
    rw [show start3 ["thing"] [x] = [some (x)] from rfl]
    have hr := sane_rd x h1
    simp only [wExpr, wRaise, gSb, wSeq, wNext, wRet, wRetN, wExpr, wIfS, wSet, wAsg, wPar, wAug, w1, w2, wA, aNil, aCons, wVar, wVarT, wC, tOfW, w3c, wAnd, wOr, wNot, tAnd3, tOr3, tNot3, wIf, wTup, wLst, wLstO, wCall, wSl, pNone, pSome, wipe3, List.map_cons, List.map_nil, fI2, fI2C, fI1, fAbs, addI, mulI, intI, eqS, neS, isN_, notN_, L3.isNon, gN, gsN, gsC, gT, asT, at3, List.set_cons_zero, List.set_cons_succ, Option.some.injEq, exists_eq_left', D.bl.injEq, D.int.injEq, D.tup.injEq, List.length_cons, List.length_nil, Nat.reduceAdd, true_and, if_true, if_false, Bool.false_eq_true, reduceIte, ite_true, ite_false, len_t0, len_t1, len_t2, len_t3, len_l0, len_l1, eqI, neI, Int.reduceBEq, Int.reduceLT, Int.reduceLE, Int.reduceNeg, decide_true, decide_false, Bool.not_true, Bool.not_false, ix0, ix1, ix2, and_true, and_self, S_is_int, S_fraction, isi_tup hr]
    cases x with
    | tup xs =>
      have hx := sane_tup h1
      simp only [wExpr, wRaise, gSb, wSeq, wNext, wRet, wRetN, wExpr, wIfS, wSet, wAsg, wPar, wAug, w1, w2, wA, aNil, aCons, wVar, wVarT, wC, tOfW, w3c, wAnd, wOr, wNot, tAnd3, tOr3, tNot3, wIf, wTup, wLst, wLstO, wCall, wSl, pNone, pSome, wipe3, List.map_cons, List.map_nil, fI2, fI2C, fI1, fAbs, addI, mulI, intI, eqS, neS, isN_, notN_, L3.isNon, gN, gsN, gsC, gT, asT, at3, List.set_cons_zero, List.set_cons_succ, Option.some.injEq, exists_eq_left', D.bl.injEq, D.int.injEq, D.tup.injEq, List.length_cons, List.length_nil, Nat.reduceAdd, true_and, if_true, if_false, Bool.false_eq_true, reduceIte, ite_true, ite_false, len_t0, len_t1, len_t2, len_t3, len_l0, len_l1, eqI, neI, Int.reduceBEq, Int.reduceLT, Int.reduceLE, Int.reduceNeg, decide_true, decide_false, Bool.not_true, Bool.not_false, ix0, ix1, ix2, and_true, and_self, isTupD, sane_rd]
      match xs, hx with
      | [], _ => (simp only [wExpr, wRaise, gSb, wSeq, wNext, wRet, wRetN, wExpr, wIfS, wSet, wAsg, wPar, wAug, w1, w2, wA, aNil, aCons, wVar, wVarT, wC, tOfW, w3c, wAnd, wOr, wNot, tAnd3, tOr3, tNot3, wIf, wTup, wLst, wLstO, wCall, wSl, pNone, pSome, wipe3, List.map_cons, List.map_nil, fI2, fI2C, fI1, fAbs, addI, mulI, intI, eqS, neS, isN_, notN_, L3.isNon, gN, gsN, gsC, gT, asT, at3, List.set_cons_zero, List.set_cons_succ, Option.some.injEq, exists_eq_left', D.bl.injEq, D.int.injEq, D.tup.injEq, List.length_cons, List.length_nil, Nat.reduceAdd, true_and, if_true, if_false, Bool.false_eq_true, reduceIte, ite_true, ite_false, len_t0, len_t1, len_t2, len_t3, len_l0, len_l1, eqI, neI, Int.reduceBEq, Int.reduceLT, Int.reduceLE, Int.reduceNeg, decide_true, decide_false, Bool.not_true, Bool.not_false, ix0, ix1, ix2, and_true, and_self]; exact h2)
      | [a], _ => (simp only [wExpr, wRaise, gSb, wSeq, wNext, wRet, wRetN, wExpr, wIfS, wSet, wAsg, wPar, wAug, w1, w2, wA, aNil, aCons, wVar, wVarT, wC, tOfW, w3c, wAnd, wOr, wNot, tAnd3, tOr3, tNot3, wIf, wTup, wLst, wLstO, wCall, wSl, pNone, pSome, wipe3, List.map_cons, List.map_nil, fI2, fI2C, fI1, fAbs, addI, mulI, intI, eqS, neS, isN_, notN_, L3.isNon, gN, gsN, gsC, gT, asT, at3, List.set_cons_zero, List.set_cons_succ, Option.some.injEq, exists_eq_left', D.bl.injEq, D.int.injEq, D.tup.injEq, List.length_cons, List.length_nil, Nat.reduceAdd, true_and, if_true, if_false, Bool.false_eq_true, reduceIte, ite_true, ite_false, len_t0, len_t1, len_t2, len_t3, len_l0, len_l1, eqI, neI, Int.reduceBEq, Int.reduceLT, Int.reduceLE, Int.reduceNeg, decide_true, decide_false, Bool.not_true, Bool.not_false, ix0, ix1, ix2, and_true, and_self]; exact h2)
      | [a, b], hx =>
        have ha := hx a (by simp)
        have hb := hx b (by simp)
        simp only [wExpr, wRaise, gSb, wSeq, wNext, wRet, wRetN, wExpr, wIfS, wSet, wAsg, wPar, wAug, w1, w2, wA, aNil, aCons, wVar, wVarT, wC, tOfW, w3c, wAnd, wOr, wNot, tAnd3, tOr3, tNot3, wIf, wTup, wLst, wLstO, wCall, wSl, pNone, pSome, wipe3, List.map_cons, List.map_nil, fI2, fI2C, fI1, fAbs, addI, mulI, intI, eqS, neS, isN_, notN_, L3.isNon, gN, gsN, gsC, gT, asT, at3, List.set_cons_zero, List.set_cons_succ, Option.some.injEq, exists_eq_left', D.bl.injEq, D.int.injEq, D.tup.injEq, List.length_cons, List.length_nil, Nat.reduceAdd, true_and, if_true, if_false, Bool.false_eq_true, reduceIte, ite_true, ite_false, len_t0, len_t1, len_t2, len_t3, len_l0, len_l1, eqI, neI, Int.reduceBEq, Int.reduceLT, Int.reduceLE, Int.reduceNeg, decide_true, decide_false, Bool.not_true, Bool.not_false, ix0, ix1, ix2, and_true, and_self, sane_rd a ha, sane_rd b hb]
        cases a with
        | int n =>
          cases b with
          | int d =>
            have bn := sane_int ha
            have bd := sane_int hb
            simp only [wExpr, wRaise, gSb, wSeq, wNext, wRet, wRetN, wExpr, wIfS, wSet, wAsg, wPar, wAug, w1, w2, wA, aNil, aCons, wVar, wVarT, wC, tOfW, w3c, wAnd, wOr, wNot, tAnd3, tOr3, tNot3, wIf, wTup, wLst, wLstO, wCall, wSl, pNone, pSome, wipe3, List.map_cons, List.map_nil, fI2, fI2C, fI1, fAbs, addI, mulI, intI, eqS, neS, isN_, notN_, L3.isNon, gN, gsN, gsC, gT, asT, at3, List.set_cons_zero, List.set_cons_succ, Option.some.injEq, exists_eq_left', D.bl.injEq, D.int.injEq, D.tup.injEq, List.length_cons, List.length_nil, Nat.reduceAdd, true_and, if_true, if_false, Bool.false_eq_true, reduceIte, ite_true, ite_false, len_t0, len_t1, len_t2, len_t3, len_l0, len_l1, eqI, neI, Int.reduceBEq, Int.reduceLT, Int.reduceLE, Int.reduceNeg, decide_true, decide_false, Bool.not_true, Bool.not_false, ix0, ix1, ix2, and_true, and_self, isIntD]
            simp only [isFracD, fracAt] at h2
            by_cases hd : 1 ≤ d
            · have hd' : 0 < d := by omega
              simp only [hd, decide_true, Bool.true_and] at h2
              simp only [hd, hd', Bd.small bn.1 bn.2, Bd.small bd.1 bd.2, true_and, if_true]
              refine eq_two ?_
              have e : ((redN n d == n) && (redD n d == d)) = (Int.gcd n d == 1) := by
                obtain ⟨q1, q2⟩ := red_eq (n := n) hd'
                rw [Bool.eq_iff_iff, Bool.and_eq_true, beq_iff_eq, beq_iff_eq, beq_iff_eq]
                constructor
                · rintro ⟨z1, z2⟩
                  rw [z2] at q2
                  have : d * ((Int.gcd n d : Int) - 1) = 0 := by
                    rw [Int.mul_sub, q2, Int.mul_one, Int.sub_self]
                  rcases Int.mul_eq_zero.mp this with z | z
                  · omega
                  · omega
                · intro z
                  rw [z] at q1 q2
                  constructor
                  · simpa using q1
                  · simpa using q2
              rw [e]
              exact h2
            · simp only [hd, decide_false, Bool.false_and] at h2
              simp only [hd, wExpr, wRaise, gSb, wSeq, wNext, wRet, wRetN, wExpr, wIfS, wSet, wAsg, wPar, wAug, w1, w2, wA, aNil, aCons, wVar, wVarT, wC, tOfW, w3c, wAnd, wOr, wNot, tAnd3, tOr3, tNot3, wIf, wTup, wLst, wLstO, wCall, wSl, pNone, pSome, wipe3, List.map_cons, List.map_nil, fI2, fI2C, fI1, fAbs, addI, mulI, intI, eqS, neS, isN_, notN_, L3.isNon, gN, gsN, gsC, gT, asT, at3, List.set_cons_zero, List.set_cons_succ, Option.some.injEq, exists_eq_left', D.bl.injEq, D.int.injEq, D.tup.injEq, List.length_cons, List.length_nil, Nat.reduceAdd, true_and, if_true, if_false, Bool.false_eq_true, reduceIte, ite_true, ite_false, len_t0, len_t1, len_t2, len_t3, len_l0, len_l1, eqI, neI, Int.reduceBEq, Int.reduceLT, Int.reduceLE, Int.reduceNeg, decide_true, decide_false, Bool.not_true, Bool.not_false, ix0, ix1, ix2, and_true, and_self]
              exact h2
          | _ => (simp only [wExpr, wRaise, gSb, wSeq, wNext, wRet, wRetN, wExpr, wIfS, wSet, wAsg, wPar, wAug, w1, w2, wA, aNil, aCons, wVar, wVarT, wC, tOfW, w3c, wAnd, wOr, wNot, tAnd3, tOr3, tNot3, wIf, wTup, wLst, wLstO, wCall, wSl, pNone, pSome, wipe3, List.map_cons, List.map_nil, fI2, fI2C, fI1, fAbs, addI, mulI, intI, eqS, neS, isN_, notN_, L3.isNon, gN, gsN, gsC, gT, asT, at3, List.set_cons_zero, List.set_cons_succ, Option.some.injEq, exists_eq_left', D.bl.injEq, D.int.injEq, D.tup.injEq, List.length_cons, List.length_nil, Nat.reduceAdd, true_and, if_true, if_false, Bool.false_eq_true, reduceIte, ite_true, ite_false, len_t0, len_t1, len_t2, len_t3, len_l0, len_l1, eqI, neI, Int.reduceBEq, Int.reduceLT, Int.reduceLE, Int.reduceNeg, decide_true, decide_false, Bool.not_true, Bool.not_false, ix0, ix1, ix2, and_true, and_self, isIntD]; exact h2)
        | _ => (simp only [wExpr, wRaise, gSb, wSeq, wNext, wRet, wRetN, wExpr, wIfS, wSet, wAsg, wPar, wAug, w1, w2, wA, aNil, aCons, wVar, wVarT, wC, tOfW, w3c, wAnd, wOr, wNot, tAnd3, tOr3, tNot3, wIf, wTup, wLst, wLstO, wCall, wSl, pNone, pSome, wipe3, List.map_cons, List.map_nil, fI2, fI2C, fI1, fAbs, addI, mulI, intI, eqS, neS, isN_, notN_, L3.isNon, gN, gsN, gsC, gT, asT, at3, List.set_cons_zero, List.set_cons_succ, Option.some.injEq, exists_eq_left', D.bl.injEq, D.int.injEq, D.tup.injEq, List.length_cons, List.length_nil, Nat.reduceAdd, true_and, if_true, if_false, Bool.false_eq_true, reduceIte, ite_true, ite_false, len_t0, len_t1, len_t2, len_t3, len_l0, len_l1, eqI, neI, Int.reduceBEq, Int.reduceLT, Int.reduceLE, Int.reduceNeg, decide_true, decide_false, Bool.not_true, Bool.not_false, ix0, ix1, ix2, and_true, and_self, isIntD]; exact h2)
      | a :: b :: c :: r, _ => (simp only [wExpr, wRaise, gSb, wSeq, wNext, wRet, wRetN, wExpr, wIfS, wSet, wAsg, wPar, wAug, w1, w2, wA, aNil, aCons, wVar, wVarT, wC, tOfW, w3c, wAnd, wOr, wNot, tAnd3, tOr3, tNot3, wIf, wTup, wLst, wLstO, wCall, wSl, pNone, pSome, wipe3, List.map_cons, List.map_nil, fI2, fI2C, fI1, fAbs, addI, mulI, intI, eqS, neS, isN_, notN_, L3.isNon, gN, gsN, gsC, gT, asT, at3, List.set_cons_zero, List.set_cons_succ, Option.some.injEq, exists_eq_left', D.bl.injEq, D.int.injEq, D.tup.injEq, List.length_cons, List.length_nil, Nat.reduceAdd, true_and, if_true, if_false, Bool.false_eq_true, reduceIte, ite_true, ite_false, len_t0, len_t1, len_t2, len_t3, len_l0, len_l1, eqI, neI, Int.reduceBEq, Int.reduceLT, Int.reduceLE, Int.reduceNeg, decide_true, decide_false, Bool.not_true, Bool.not_false, ix0, ix1, ix2, and_true, and_self, len_tup, more2]; exact h2)
    | _ => exact h2
theorem ok_lpart (T : Tx K mg) : Good P w K mg base "_law_is_part" ["part"] 3 S_part := by
  have g__law_is_frac := ok_lisfrac (P := P) (w := w) (base := base) T
  refine good_of (d__law_is_part T) sc__law_is_part fun f cd A outer s H E hp tk hgd hr => ⟨_, (s_cons (s_if (t_w (o_or (t_not (t_val (c_callB call_isi3 lift_isi (n_isinstance T) (a_cons (c_var 0) (a_cons (c_bltn (n := "tuple") (n_tuple T)) a_nil))))) (o_or (t_cmp (op_ne3 hr.units) lift_ne (c_callB call_len lift_len (n_len T) (a_cons (c_var 0) a_nil)) c_int) (o_or (t_not (t_val (c_call g__law_is_frac (hr.mono (by omega)) hgd tk (a_cons (c_ix (c_var 0) c_int) a_nil)))) (o_or1 (t_not (t_val (c_call g__law_is_frac (hr.mono (by omega)) hgd tk (a_cons (c_ix (c_var 0) c_int) a_nil))))))))) (s_one (s_ret c_bl)) s_nil)
      (s_cons (s_if (t_w (o_or (t_cmp op_gt lift_I2b (c_ix (c_ix (c_var 0) c_int) c_int) c_int) (o_or (t_cmp op_gt lift_I2b (c_ix (c_ix (c_var 0) c_int) c_int) c_int) (o_or (t_cmp op_lt lift_I2b (c_ix (c_ix (c_var 0) c_int) c_int) c_int) (o_or1 (t_cmp op_gt lift_I2b (c_ix (c_ix (c_var 0) c_int) c_int) (c_ix (c_ix (c_var 0) c_int) c_int))))))) (s_one (s_ret c_bl)) s_nil)
      (s_one (s_ret (c_cmp op_le lift_I2b (c_op op_mul3 lift_mul (c_ix (c_ix (c_var 0) c_int) c_int) (c_ix (c_ix (c_var 0) c_int) c_int)) (c_op op_mul3 lift_mul (c_ix (c_ix (c_var 0) c_int) c_int) (c_ix (c_ix (c_var 0) c_int) c_int))))))), fun ds G R Ex hlen hS => ?_⟩
  clear hp tk hgd hr hlen
  match ds, hS with
  | [x], ⟨h1, h2⟩ =>
    rw [show start3 ["part"] [x] = [some (x)] from rfl]
    have hr := sane_rd x h1
    simp only [wExpr, wRaise, gSb, wSeq, wNext, wRet, wRetN, wExpr, wIfS, wSet, wAsg, wPar, wAug, w1, w2, wA, aNil, aCons, wVar, wVarT, wC, tOfW, w3c, wAnd, wOr, wNot, tAnd3, tOr3, tNot3, wIf, wTup, wLst, wLstO, wCall, wSl, pNone, pSome, wipe3, List.map_cons, List.map_nil, fI2, fI2C, fI1, fAbs, addI, mulI, intI, eqS, neS, isN_, notN_, L3.isNon, gN, gsN, gsC, gT, asT, at3, List.set_cons_zero, List.set_cons_succ, Option.some.injEq, exists_eq_left', D.bl.injEq, D.int.injEq, D.tup.injEq, List.length_cons, List.length_nil, Nat.reduceAdd, true_and, if_true, if_false, Bool.false_eq_true, reduceIte, ite_true, ite_false, len_t0, len_t1, len_t2, len_t3, len_l0, len_l1, eqI, neI, Int.reduceBEq, Int.reduceLT, Int.reduceLE, Int.reduceNeg, decide_true, decide_false, Bool.not_true, Bool.not_false, ix0, ix1, ix2, and_true, and_self, S_is_fraction, isi_tup hr]
    cases x with
    | tup xs =>
      have hx := sane_tup h1
      simp only [wExpr, wRaise, gSb, wSeq, wNext, wRet, wRetN, wExpr, wIfS, wSet, wAsg, wPar, wAug, w1, w2, wA, aNil, aCons, wVar, wVarT, wC, tOfW, w3c, wAnd, wOr, wNot, tAnd3, tOr3, tNot3, wIf, wTup, wLst, wLstO, wCall, wSl, pNone, pSome, wipe3, List.map_cons, List.map_nil, fI2, fI2C, fI1, fAbs, addI, mulI, intI, eqS, neS, isN_, notN_, L3.isNon, gN, gsN, gsC, gT, asT, at3, List.set_cons_zero, List.set_cons_succ, Option.some.injEq, exists_eq_left', D.bl.injEq, D.int.injEq, D.tup.injEq, List.length_cons, List.length_nil, Nat.reduceAdd, true_and, if_true, if_false, Bool.false_eq_true, reduceIte, ite_true, ite_false, len_t0, len_t1, len_t2, len_t3, len_l0, len_l1, eqI, neI, Int.reduceBEq, Int.reduceLT, Int.reduceLE, Int.reduceNeg, decide_true, decide_false, Bool.not_true, Bool.not_false, ix0, ix1, ix2, and_true, and_self, isTupD]
      match xs, hx with
      | [], _ => (simp only [wExpr, wRaise, gSb, wSeq, wNext, wRet, wRetN, wExpr, wIfS, wSet, wAsg, wPar, wAug, w1, w2, wA, aNil, aCons, wVar, wVarT, wC, tOfW, w3c, wAnd, wOr, wNot, tAnd3, tOr3, tNot3, wIf, wTup, wLst, wLstO, wCall, wSl, pNone, pSome, wipe3, List.map_cons, List.map_nil, fI2, fI2C, fI1, fAbs, addI, mulI, intI, eqS, neS, isN_, notN_, L3.isNon, gN, gsN, gsC, gT, asT, at3, List.set_cons_zero, List.set_cons_succ, Option.some.injEq, exists_eq_left', D.bl.injEq, D.int.injEq, D.tup.injEq, List.length_cons, List.length_nil, Nat.reduceAdd, true_and, if_true, if_false, Bool.false_eq_true, reduceIte, ite_true, ite_false, len_t0, len_t1, len_t2, len_t3, len_l0, len_l1, eqI, neI, Int.reduceBEq, Int.reduceLT, Int.reduceLE, Int.reduceNeg, decide_true, decide_false, Bool.not_true, Bool.not_false, ix0, ix1, ix2, and_true, and_self]; exact h2)
      | [a], _ => (simp only [wExpr, wRaise, gSb, wSeq, wNext, wRet, wRetN, wExpr, wIfS, wSet, wAsg, wPar, wAug, w1, w2, wA, aNil, aCons, wVar, wVarT, wC, tOfW, w3c, wAnd, wOr, wNot, tAnd3, tOr3, tNot3, wIf, wTup, wLst, wLstO, wCall, wSl, pNone, pSome, wipe3, List.map_cons, List.map_nil, fI2, fI2C, fI1, fAbs, addI, mulI, intI, eqS, neS, isN_, notN_, L3.isNon, gN, gsN, gsC, gT, asT, at3, List.set_cons_zero, List.set_cons_succ, Option.some.injEq, exists_eq_left', D.bl.injEq, D.int.injEq, D.tup.injEq, List.length_cons, List.length_nil, Nat.reduceAdd, true_and, if_true, if_false, Bool.false_eq_true, reduceIte, ite_true, ite_false, len_t0, len_t1, len_t2, len_t3, len_l0, len_l1, eqI, neI, Int.reduceBEq, Int.reduceLT, Int.reduceLE, Int.reduceNeg, decide_true, decide_false, Bool.not_true, Bool.not_false, ix0, ix1, ix2, and_true, and_self]; exact h2)
      | [a, b], _ => (simp only [wExpr, wRaise, gSb, wSeq, wNext, wRet, wRetN, wExpr, wIfS, wSet, wAsg, wPar, wAug, w1, w2, wA, aNil, aCons, wVar, wVarT, wC, tOfW, w3c, wAnd, wOr, wNot, tAnd3, tOr3, tNot3, wIf, wTup, wLst, wLstO, wCall, wSl, pNone, pSome, wipe3, List.map_cons, List.map_nil, fI2, fI2C, fI1, fAbs, addI, mulI, intI, eqS, neS, isN_, notN_, L3.isNon, gN, gsN, gsC, gT, asT, at3, List.set_cons_zero, List.set_cons_succ, Option.some.injEq, exists_eq_left', D.bl.injEq, D.int.injEq, D.tup.injEq, List.length_cons, List.length_nil, Nat.reduceAdd, true_and, if_true, if_false, Bool.false_eq_true, reduceIte, ite_true, ite_false, len_t0, len_t1, len_t2, len_t3, len_l0, len_l1, eqI, neI, Int.reduceBEq, Int.reduceLT, Int.reduceLE, Int.reduceNeg, decide_true, decide_false, Bool.not_true, Bool.not_false, ix0, ix1, ix2, and_true, and_self]; exact h2)
      | [a, b, c], hx =>
        have ha := hx a (by simp)
        have hb := hx b (by simp)
        simp only [wExpr, wRaise, gSb, wSeq, wNext, wRet, wRetN, wExpr, wIfS, wSet, wAsg, wPar, wAug, w1, w2, wA, aNil, aCons, wVar, wVarT, wC, tOfW, w3c, wAnd, wOr, wNot, tAnd3, tOr3, tNot3, wIf, wTup, wLst, wLstO, wCall, wSl, pNone, pSome, wipe3, List.map_cons, List.map_nil, fI2, fI2C, fI1, fAbs, addI, mulI, intI, eqS, neS, isN_, notN_, L3.isNon, gN, gsN, gsC, gT, asT, at3, List.set_cons_zero, List.set_cons_succ, Option.some.injEq, exists_eq_left', D.bl.injEq, D.int.injEq, D.tup.injEq, List.length_cons, List.length_nil, Nat.reduceAdd, true_and, if_true, if_false, Bool.false_eq_true, reduceIte, ite_true, ite_false, len_t0, len_t1, len_t2, len_t3, len_l0, len_l1, eqI, neI, Int.reduceBEq, Int.reduceLT, Int.reduceLE, Int.reduceNeg, decide_true, decide_false, Bool.not_true, Bool.not_false, ix0, ix1, ix2, and_true, and_self, ha, hb]
        have h2' : R (.bl (partAt a b)) G := h2
        unfold partAt isBndD isShareD at h2'
        cases h3 : isFracD a with
        | false =>
          simp only [h3, Bool.false_and] at h2'
          exact h2'
        | true =>
          cases h4 : isFracD b with
          | false =>
            simp only [h4, Bool.false_and, Bool.and_false] at h2'
            exact h2'
          | true =>
            obtain ⟨n, d, rfl, k1, k2, k3⟩ := frac_cases h3
            obtain ⟨n', d', rfl, k1', k2', k3'⟩ := frac_cases h4
            simp only [h3, h4, k2, k3, k2', k3', Bool.true_and] at h2'
            have sa := sane_tup ha
            have sb := sane_tup hb
            have bn := sane_int (sa _ (by simp : D.int n ∈ [D.int n, D.int d]))
            have bd := sane_int (sa _ (by simp : D.int d ∈ [D.int n, D.int d]))
            have bn' := sane_int (sb _ (by simp : D.int n' ∈ [D.int n', D.int d']))
            have bd' := sane_int (sb _ (by simp : D.int d' ∈ [D.int n', D.int d']))
            simp only [wExpr, wRaise, gSb, wSeq, wNext, wRet, wRetN, wExpr, wIfS, wSet, wAsg, wPar, wAug, w1, w2, wA, aNil, aCons, wVar, wVarT, wC, tOfW, w3c, wAnd, wOr, wNot, tAnd3, tOr3, tNot3, wIf, wTup, wLst, wLstO, wCall, wSl, pNone, pSome, wipe3, List.map_cons, List.map_nil, fI2, fI2C, fI1, fAbs, addI, mulI, intI, eqS, neS, isN_, notN_, L3.isNon, gN, gsN, gsC, gT, asT, at3, List.set_cons_zero, List.set_cons_succ, Option.some.injEq, exists_eq_left', D.bl.injEq, D.int.injEq, D.tup.injEq, List.length_cons, List.length_nil, Nat.reduceAdd, true_and, if_true, if_false, Bool.false_eq_true, reduceIte, ite_true, ite_false, len_t0, len_t1, len_t2, len_t3, len_l0, len_l1, eqI, neI, Int.reduceBEq, Int.reduceLT, Int.reduceLE, Int.reduceNeg, decide_true, decide_false, Bool.not_true, Bool.not_false, ix0, ix1, ix2, and_true, and_self]
            by_cases c1 : d > 1000
            · have q1 : decide (d > 1000) = true := by simpa using c1
              have q2 : decide (d ≤ 1000) = false := by rw [decide_eq_false_iff_not]; omega
              simp only [q2, Bool.and_false, Bool.false_and] at h2'
              simp only [q1, if_true]
              exact h2'
            · have q1 : decide (d > 1000) = false := by simpa using c1
              have q2 : decide (d ≤ 1000) = true := by rw [decide_eq_true_eq]; omega
              simp only [q2, Bool.and_true] at h2'
              simp only [q1, Bool.false_eq_true, if_false]
              by_cases c2 : d' > 1000
              · have q3 : decide (d' > 1000) = true := by simpa using c2
                have q4 : decide (d' ≤ 1000) = false := by rw [decide_eq_false_iff_not]; omega
                simp only [q4, Bool.and_false, Bool.false_and] at h2'
                simp only [q3, if_true]
                exact h2'
              · have q3 : decide (d' > 1000) = false := by simpa using c2
                have q4 : decide (d' ≤ 1000) = true := by rw [decide_eq_true_eq]; omega
                simp only [q4, Bool.and_true] at h2'
                simp only [q3, Bool.false_eq_true, if_false]
                by_cases c3 : n < 0
                · have q5 : decide (n < 0) = true := by simpa using c3
                  have q6 : decide (0 ≤ n) = false := by rw [decide_eq_false_iff_not]; omega
                  simp only [q6, Bool.false_and] at h2'
                  simp only [q5, if_true]
                  exact h2'
                · have q5 : decide (n < 0) = false := by simpa using c3
                  simp only [q5, Bool.false_eq_true, if_false]
                  by_cases c4 : n' > d'
                  · have q7 : decide (n' > d') = true := by simpa using c4
                    have q8 : decide (n' ≤ d') = false := by rw [decide_eq_false_iff_not]; omega
                    simp only [q8, Bool.and_false, Bool.false_and] at h2'
                    simp only [q7, if_true]
                    exact h2'
                  · have q7 : decide (n' > d') = false := by simpa using c4
                    simp only [q7, Bool.false_eq_true, if_false]
                    refine ⟨MulC.r (by omega) (by omega), MulC.r (by omega) (by omega), ?_⟩
                    have e : (decide (0 ≤ n) && decide (n ≤ d) && (decide (0 ≤ n') && decide (n' ≤ d')) && decide (n * d' ≤ n' * d)) = decide (n * d' ≤ n' * d) := by
                      rw [Bool.eq_iff_iff]
                      simp only [Bool.and_eq_true, decide_eq_true_eq]
                      refine ⟨fun z => z.2, fun z => ⟨⟨⟨by omega, ?_⟩, ?_, by omega⟩, z⟩⟩
                      · have t1 : n' * d ≤ d' * d := Int.mul_le_mul_of_nonneg_right (by omega) (by omega)
                        have t2 : n * d' ≤ d * d' := by
                          rw [Int.mul_comm d d']
                          exact Int.le_trans z t1
                        exact Int.le_of_mul_le_mul_right t2 (by omega)
                      · have t3 : 0 ≤ n * d' := Int.mul_nonneg (by omega) (by omega)
                        have t4 : 0 * d ≤ n' * d := by
                          rw [Int.zero_mul]
                          exact Int.le_trans t3 z
                        exact Int.le_of_mul_le_mul_right t4 (by omega)
                    rw [e] at h2'
                    exact h2'
      | a :: b :: c :: d :: r, _ =>
        simp only [wExpr, wRaise, gSb, wSeq, wNext, wRet, wRetN, wExpr, wIfS, wSet, wAsg, wPar, wAug, w1, w2, wA, aNil, aCons, wVar, wVarT, wC, tOfW, w3c, wAnd, wOr, wNot, tAnd3, tOr3, tNot3, wIf, wTup, wLst, wLstO, wCall, wSl, pNone, pSome, wipe3, List.map_cons, List.map_nil, fI2, fI2C, fI1, fAbs, addI, mulI, intI, eqS, neS, isN_, notN_, L3.isNon, gN, gsN, gsC, gT, asT, at3, List.set_cons_zero, List.set_cons_succ, Option.some.injEq, exists_eq_left', D.bl.injEq, D.int.injEq, D.tup.injEq, List.length_cons, List.length_nil, Nat.reduceAdd, true_and, if_true, if_false, Bool.false_eq_true, reduceIte, ite_true, ite_false, len_t0, len_t1, len_t2, len_t3, len_l0, len_l1, eqI, neI, Int.reduceBEq, Int.reduceLT, Int.reduceLE, Int.reduceNeg, decide_true, decide_false, Bool.not_true, Bool.not_false, ix0, ix1, ix2, and_true, and_self, len_tup, more3]
        exact h2
    | _ => exact h2
end

end K01

set_option Elab.async false
set_option linter.all false
set_option maxRecDepth 100000
set_option maxHeartbeats 0
namespace K01
open PySem PySem.Spec L2 L3
open PyProof.Rows hiding St
/-! ### heights, weights -/
mutual
def htD : D → Nat
  | .tup xs => 1 + htL xs
  | _ => 0
def htL : List D → Nat
  | [] => 0
  | x :: xs => max (htD x) (htL xs)
end
mutual
def wtD : D → Nat
  | .tup xs => 1 + wtL xs
  | .lst xs => 1 + wtL xs
  | .lsx xs => 1 + wtL xs
  | .dct _ xs => 1 + wtL xs
  | _ => 1
def wtL : List D → Nat
  | [] => 0
  | x :: xs => wtD x + wtL xs
end
theorem ht_mem {x : D} : ∀ {xs : List D}, x ∈ xs → htD x ≤ htL xs
  | y :: ys, h => by
    simp only [htL]
    rcases List.mem_cons.mp h with z | z
    · rw [z]
      omega
    · have := ht_mem z
      omega
theorem wt_mem {x : D} : ∀ {xs : List D}, x ∈ xs → wtD x ≤ wtL xs
  | y :: ys, h => by
    simp only [wtL]
    rcases List.mem_cons.mp h with z | z
    · rw [z]
      omega
    · have := wt_mem z
      omega
theorem wt_pos (x : D) : 1 ≤ wtD x := by
  cases x <;> simp only [wtD] <;> omega
mutual
theorem lk_wt : ∀ (x : D) (d : Nat) (l : List Int), lk x = some (d, l) → l.length ≤ wtD x
  | .int i, d, l, h => by
    simp only [lk] at h
    split at h
    · cases h
      exact Nat.le_refl _
    · cases h
  | .tup xs, d, l, h => by
    simp only [lk] at h
    split at h
    · cases h2 : lkL xs with
      | none => rw [h2] at h; cases h
      | some p =>
        rw [h2] at h
        cases h
        have := lkL_wt xs p.1 p.2 h2
        simp only [wtD]
        omega
    · cases h
  | .non, _, _, h => by simp only [lk] at h; cases h
  | .bl _, _, _, h => by simp only [lk] at h; cases h
  | .str _, _, _, h => by simp only [lk] at h; cases h
  | .ty _, _, _, h => by simp only [lk] at h; cases h
  | .lst _, _, _, h => by simp only [lk] at h; cases h
  | .lsx _, _, _, h => by simp only [lk] at h; cases h
  | .dct _ _, _, _, h => by simp only [lk] at h; cases h
  | .ins _ _ _, _, _, h => by simp only [lk] at h; cases h
  | .ref _, _, _, h => by simp only [lk] at h; cases h
  | .tpf _, _, _, h => by simp only [lk] at h; cases h
  | .exc _ _ _ _, _, _, h => by simp only [lk] at h; cases h
theorem lkL_wt : ∀ (xs : List D) (d : Nat) (l : List Int), lkL xs = some (d, l) → l.length ≤ wtL xs
  | [], _, _, h => by
    simp only [lkL] at h
    cases h
    exact Nat.le_refl _
  | x :: xs, d, l, h => by
    simp only [lkL] at h
    split at h
    · rename_i d1 l1 e1 m1 h1 h2
      cases h
      have q1 := lkP_wt x d1 l1 h1
      have q2 := lkL_wt xs e1 m1 h2
      rw [List.length_append]
      simp only [wtL]
      omega
    · cases h
theorem lkP_wt : ∀ (x : D) (d : Nat) (l : List Int), lkP x = some (d, l) → l.length ≤ wtD x
  | .tup ys, d, l, h => by
    simp only [lkP] at h
    have := lkT_wt ys d l h
    simp only [wtD]
    omega
  | .int _, _, _, h => by simp only [lkP] at h; cases h
  | .non, _, _, h => by simp only [lkP] at h; cases h
  | .bl _, _, _, h => by simp only [lkP] at h; cases h
  | .str _, _, _, h => by simp only [lkP] at h; cases h
  | .ty _, _, _, h => by simp only [lkP] at h; cases h
  | .lst _, _, _, h => by simp only [lkP] at h; cases h
  | .lsx _, _, _, h => by simp only [lkP] at h; cases h
  | .dct _ _, _, _, h => by simp only [lkP] at h; cases h
  | .ins _ _ _, _, _, h => by simp only [lkP] at h; cases h
  | .ref _, _, _, h => by simp only [lkP] at h; cases h
  | .tpf _, _, _, h => by simp only [lkP] at h; cases h
  | .exc _ _ _ _, _, _, h => by simp only [lkP] at h; cases h
theorem lkT_wt : ∀ (xs : List D) (d : Nat) (l : List Int), lkT xs = some (d, l) → l.length ≤ wtL xs
  | [_, _, t], d, l, h => by
    simp only [lkT] at h
    have := lk_wt t d l h
    simp only [wtL]
    omega
  | [], _, _, h => by simp only [lkT] at h; cases h
  | [_], _, _, h => by simp only [lkT] at h; cases h
  | [_, _], _, _, h => by simp only [lkT] at h; cases h
  | _ :: _ :: _ :: _ :: _, _, _, h => by simp only [lkT] at h; cases h
end
/-- what the law sees -/
def lkD : Option (Nat × List Int) → D
  | some (d, l) => .tup [.int (d : Nat), ilD l]
  | none => .non
section
variable {P : Program} {w : World} {K : PySem.W.Frag} {mg : Str → Option Value} {base : Heap}
/-! ### the sums -/
def partFr (i : Int) (x : D) : Fr := if i = 0 then ptD (lowD x) else ptD (highD x)
def lsum (side : Int) (i : Int) (xs : List D) : Fr := (xs.map fun x => (0 - side * (partFr i x).1, (partFr i x).2)).foldl plusP (side, 1)
def S_sum : SP3 := fun ds G R _ => match ds with
  | [x, y, z] => ∃ (xs : List D) (i s : Int), x = .tup xs ∧ y = .int i ∧ z = .int s ∧ xs.length ≤ 8 ∧ (∀ x ∈ xs, partOk x = true) ∧ (i = 0 ∨ i = 1) ∧ (s = 1 ∨ s = -1) ∧ R (.bl (decide (0 ≤ (lsum s i xs).1))) G
  | _ => False
theorem part_fr {x : D} {i : Int} (h : partOk x = true) (hi : i = 0 ∨ i = 1) : ∃ a b t, x = .tup [a, b, t] ∧ (if i = 0 then a else b) = frO (partFr i x) ∧ PtOk (partFr i x) := by
  obtain ⟨a, b, t, rfl, ha, hb, _⟩ := part_cases h
  refine ⟨a, b, t, rfl, ?_⟩
  unfold partFr
  rcases hi with rfl | rfl
  · exact bnd_pt ha
  · exact bnd_pt hb
theorem lp_lsum {g : G3} {bb : S3} {E : E3} {G : GH} {v0 v1 v2 : Option D} {s i : Int} (hs : s = 1 ∨ s = -1) (hi : i = 0 ∨ i = 1)
    (Hyp : ∀ (y : D) (x : Fr) (n : Nat) (u4 : Option D) (E : E3), n ≤ 50 → Sz n x → partOk y = true → E.nx [v0, v1, v2, some (frO (plusP x (0 - s * (partFr i y).1, (partFr i y).2))), some y] G → g y [v0, v1, v2, some (frO x), u4] G fun env1 G1 => bb E env1 G1) :
    ∀ (ys : List D) (x : Fr) (n : Nat) (u4 : Option D), n + ys.length ≤ 50 → Sz n x → (∀ y ∈ ys, partOk y = true) → (∀ u4, E.nx [v0, v1, v2, some (frO ((ys.map fun y => (0 - s * (partFr i y).1, (partFr i y).2)).foldl plusP x)), u4] G) → lp (fun _ => True) g bb E ys [v0, v1, v2, some (frO x), u4] G
  | [], x, n, u4, _, _, _, h => ⟨trivial, h u4⟩
  | y :: ys, x, n, u4, hn, hx, hp, h => by
    rw [List.length_cons] at hn
    have hy := hp y (by simp)
    obtain ⟨a, b, t, e, _, ho⟩ := part_fr hy hi
    have ho' : PtOk (0 - s * (partFr i y).1, (partFr i y).2) := by
      obtain ⟨k1, k2, k3⟩ := ho
      refine ⟨k1, k2, ?_⟩
      show (0 - s * (partFr i y).1).natAbs ≤ 1000
      rcases hs with rfl | rfl <;> omega
    refine ⟨trivial, Hyp y x n u4 _ (by omega) hx hy ?_⟩
    exact lp_lsum hs hi Hyp ys _ (n + 1) _ (by omega) (plusP_sz hx ho') (fun z hz => hp z (by simp [hz])) h
theorem ok_sum (T : Tx K mg) : Good P w K mg base "_law_sum_is" ["parts", "which", "side"] 3 S_sum := by
  have g__law_plus := ok_plus (P := P) (w := w) (base := base) T
  refine good_of (d__law_sum_is T) sc__law_sum_is fun f cd A outer s H E hp tk hgd hr => ⟨_, (s_cons (s_set 3 sc__law_sum_is.nd rfl (.inl rfl) rfl (c_tup (a_cons (c_var 2) (a_cons c_int a_nil))))
      (s_cons (s_for hp rfl (i_tpl (c_var 0)) (g_name 4 sc__law_sum_is.nd rfl (.inl rfl)) (s_one (s_set 3 sc__law_sum_is.nd rfl (.inl rfl) rfl (c_call g__law_plus (hr.mono (by omega)) hgd tk (a_cons (c_var 3) (a_cons (c_tup (a_cons (c_op op_sub lift_I2i c_int (c_op op_mul3 lift_mul (c_var 2) (c_ix (c_ix (c_var 4) (c_var 1)) c_int))) (a_cons (c_ix (c_ix (c_var 4) (c_var 1)) c_int) a_nil))) a_nil))))))
      (s_one (s_ret (c_cmp op_ge lift_I2b (c_ix (c_var 3) c_int) c_int))))), fun ds G R Ex hlen hS => ?_⟩
  clear hp tk hgd hr hlen
  match ds, hS with
  | [x, y, z], ⟨xs, i, sd, e1, e2, e3, hl, hp, hi, hs, h⟩ =>
    subst e1 e2 e3
    rw [show start3 ["parts", "which", "side", "left", "part"] [.tup xs, .int i, .int sd] = [some (.tup xs), some (.int i), some (.int sd), none, none] from rfl]
    simp only [wExpr, wRaise, gSb, wSeq, wNext, wRet, wRetN, wExpr, wIfS, wSet, wAsg, wPar, wAug, w1, w2, wA, aNil, aCons, wVar, wVarT, wC, tOfW, w3c, wAnd, wOr, wNot, tAnd3, tOr3, tNot3, wIf, wTup, wLst, wLstO, wCall, wSl, pNone, pSome, wipe3, List.map_cons, List.map_nil, fI2, fI2C, fI1, fAbs, addI, mulI, intI, eqS, neS, isN_, notN_, L3.isNon, gN, gsN, gsC, gT, asT, at3, List.set_cons_zero, List.set_cons_succ, Option.some.injEq, exists_eq_left', D.bl.injEq, D.int.injEq, D.tup.injEq, List.length_cons, List.length_nil, Nat.reduceAdd, true_and, if_true, if_false, Bool.false_eq_true, reduceIte, ite_true, ite_false, len_t0, len_t1, len_t2, len_t3, len_l0, len_l1, eqI, neI, Int.reduceBEq, Int.reduceLT, Int.reduceLE, Int.reduceNeg, decide_true, decide_false, Bool.not_true, Bool.not_false, ix0, ix1, ix2, and_true, and_self, wFor, iTpl]
    refine ⟨sizeLine_eq ▸ (by decide), ?_⟩
    refine lp_lsum (x := (sd, 1)) (n := 0) hs hi ?_ xs none (by omega) ⟨show (0 : Int) < 1 by decide, show (1 : Int).natAbs ≤ 10000 ^ 0 by decide, by rcases hs with rfl | rfl <;> decide⟩ hp fun u4 => ?_
    · intro y x n u4 E hn hx hy hE
      obtain ⟨a, b, t, rfl, hab, ho⟩ := part_fr hy hi
      have ho' : PtOk (0 - sd * (partFr i (D.tup [a, b, t])).1, (partFr i (D.tup [a, b, t])).2) := by
        obtain ⟨k1, k2, k3⟩ := ho
        refine ⟨k1, k2, ?_⟩
        show (0 - sd * (partFr i (D.tup [a, b, t])).1).natAbs ≤ 1000
        rcases hs with rfl | rfl <;> omega
      have bo := ho.bd
      simp only [wExpr, wRaise, gSb, wSeq, wNext, wRet, wRetN, wExpr, wIfS, wSet, wAsg, wPar, wAug, w1, w2, wA, aNil, aCons, wVar, wVarT, wC, tOfW, w3c, wAnd, wOr, wNot, tAnd3, tOr3, tNot3, wIf, wTup, wLst, wLstO, wCall, wSl, pNone, pSome, wipe3, List.map_cons, List.map_nil, fI2, fI2C, fI1, fAbs, addI, mulI, intI, eqS, neS, isN_, notN_, L3.isNon, gN, gsN, gsC, gT, asT, at3, List.set_cons_zero, List.set_cons_succ, Option.some.injEq, exists_eq_left', D.bl.injEq, D.int.injEq, D.tup.injEq, List.length_cons, List.length_nil, Nat.reduceAdd, true_and, if_true, if_false, Bool.false_eq_true, reduceIte, ite_true, ite_false, len_t0, len_t1, len_t2, len_t3, len_l0, len_l1, eqI, neI, Int.reduceBEq, Int.reduceLT, Int.reduceLE, Int.reduceNeg, decide_true, decide_false, Bool.not_true, Bool.not_false, ix0, ix1, ix2, and_true, and_self]
      have ei : ∀ {G : GH} {R : K3}, fIx (.tup [a, b, t]) (.int i) G R = R (frO (partFr i (D.tup [a, b, t]))) G := by
        intro G R
        rw [← hab]
        rcases hi with rfl | rfl
        · exact ix0
        · exact ix1
      simp only [ei, frO, wExpr, wRaise, gSb, wSeq, wNext, wRet, wRetN, wExpr, wIfS, wSet, wAsg, wPar, wAug, w1, w2, wA, aNil, aCons, wVar, wVarT, wC, tOfW, w3c, wAnd, wOr, wNot, tAnd3, tOr3, tNot3, wIf, wTup, wLst, wLstO, wCall, wSl, pNone, pSome, wipe3, List.map_cons, List.map_nil, fI2, fI2C, fI1, fAbs, addI, mulI, intI, eqS, neS, isN_, notN_, L3.isNon, gN, gsN, gsC, gT, asT, at3, List.set_cons_zero, List.set_cons_succ, Option.some.injEq, exists_eq_left', D.bl.injEq, D.int.injEq, D.tup.injEq, List.length_cons, List.length_nil, Nat.reduceAdd, true_and, if_true, if_false, Bool.false_eq_true, reduceIte, ite_true, ite_false, len_t0, len_t1, len_t2, len_t3, len_l0, len_l1, eqI, neI, Int.reduceBEq, Int.reduceLT, Int.reduceLE, Int.reduceNeg, decide_true, decide_false, Bool.not_true, Bool.not_false, ix0, ix1, ix2, and_true, and_self, S_plus]
      refine ⟨MulC.l (by rcases hs with rfl | rfl <;> decide) (by rcases hs with rfl | rfl <;> decide), sizeLine_eq ▸ (by decide), x, (0 - sd * (partFr i (D.tup [a, b, t])).1, (partFr i (D.tup [a, b, t])).2), n, rfl, rfl, hn, hx, ho', hE⟩
    · simp only [wExpr, wRaise, gSb, wSeq, wNext, wRet, wRetN, wExpr, wIfS, wSet, wAsg, wPar, wAug, w1, w2, wA, aNil, aCons, wVar, wVarT, wC, tOfW, w3c, wAnd, wOr, wNot, tAnd3, tOr3, tNot3, wIf, wTup, wLst, wLstO, wCall, wSl, pNone, pSome, wipe3, List.map_cons, List.map_nil, fI2, fI2C, fI1, fAbs, addI, mulI, intI, eqS, neS, isN_, notN_, L3.isNon, gN, gsN, gsC, gT, asT, at3, List.set_cons_zero, List.set_cons_succ, Option.some.injEq, exists_eq_left', D.bl.injEq, D.int.injEq, D.tup.injEq, List.length_cons, List.length_nil, Nat.reduceAdd, true_and, if_true, if_false, Bool.false_eq_true, reduceIte, ite_true, ite_false, len_t0, len_t1, len_t2, len_t3, len_l0, len_l1, eqI, neI, Int.reduceBEq, Int.reduceLT, Int.reduceLE, Int.reduceNeg, decide_true, decide_false, Bool.not_true, Bool.not_false, ix0, ix1, ix2, and_true, and_self, frO]
      exact h
theorem lsum_fold (s : Int) : ∀ (ps : List Fr) (n m : Int), (ps.map fun p => ((0 - s * p.1, p.2) : Fr)).foldl addU (s * m - s * n, m) = (s * (ps.foldl addU (n, m)).2 - s * (ps.foldl addU (n, m)).1, (ps.foldl addU (n, m)).2)
  | [], _, _ => rfl
  | p :: ps, n, m => by
    rw [List.map_cons, List.foldl_cons, List.foldl_cons]
    have e1 : addU (s * m - s * n, m) (0 - s * p.1, p.2) = (s * (m * p.2) - s * (n * p.2 + p.1 * m), m * p.2) := by
      unfold addU
      simp only [Prod.mk.injEq, and_true]
      grind
    have e2 : addU (n, m) p = (n * p.2 + p.1 * m, m * p.2) := rfl
    rw [e1, e2]
    exact lsum_fold s ps _ _
theorem lsum_eqv {s i : Int} {xs : List D} (hs : s = 1 ∨ s = -1) (hi : i = 0 ∨ i = 1) (hp : ∀ x ∈ xs, partOk x = true) : Eqv (lsum s i xs) (s * (totU (xs.map (partFr i))).2 - s * (totU (xs.map (partFr i))).1, (totU (xs.map (partFr i))).2) := by
  have e := lsum_fold s (xs.map (partFr i)) 0 1
  rw [List.map_map] at e
  unfold totU
  rw [← e]
  unfold lsum
  have e0 : ((s, 1) : Fr) = (s * 1 - s * 0, 1) := by simp
  refine fold_eqv plusP plusP_u _ ?_ ?_
  · rw [← e0]
    exact Eqv.refl (show (0 : Int) < 1 by decide)
  · intro p hq
    obtain ⟨x, hx, rfl⟩ := List.mem_map.mp hq
    obtain ⟨a, b, t, _, _, k1, k2, k3⟩ := part_fr (hp x hx) hi
    refine ⟨k1, k2, ?_⟩
    show (0 - s * (partFr i x).1).natAbs ≤ 1000
    rcases hs with rfl | rfl <;> omega
theorem sums_low {xs : List D} (hp : ∀ x ∈ xs, partOk x = true) : decide (0 ≤ (lsum 1 0 xs).1) = decide ((totU (xs.map fun x => ptD (lowD x))).1 ≤ (totU (xs.map fun x => ptD (lowD x))).2) := by
  have e := (lsum_eqv (.inl rfl) (.inl rfl) hp).nn
  have e2 : xs.map (partFr 0) = xs.map fun x => ptD (lowD x) := rfl
  rw [e2] at e
  rw [Bool.eq_iff_iff, decide_eq_true_eq, decide_eq_true_eq, e]
  constructor <;> intro h <;> omega
theorem sums_high {xs : List D} (hp : ∀ x ∈ xs, partOk x = true) : decide (0 ≤ (lsum (-1) 1 xs).1) = decide ((totU (xs.map fun x => ptD (highD x))).2 ≤ (totU (xs.map fun x => ptD (highD x))).1) := by
  have e := (lsum_eqv (.inr rfl) (.inr rfl) hp).nn
  have e2 : xs.map (partFr 1) = xs.map fun x => ptD (highD x) := rfl
  rw [e2] at e
  rw [Bool.eq_iff_iff, decide_eq_true_eq, decide_eq_true_eq, e]
  constructor <;> intro h <;> omega
/-! ### the looker -/
theorem lp_look {g : G3} {bb : S3} {E : E3} {v0 : Option D} {G0 : GH} {q : Addr} (hq : G0 q = none) (xs0 : List D)
    (Hyp : ∀ y ∈ xs0, ∀ (d : Nat) (l : List Int) (u3 u4 : Option D) (E : E3) (G' : GH), l.length + wtD y ≤ 1000000 → G' q = some (.lst (l.map D.int)) → Over G0 G' →
      (lk (thirdOf y) = none → ∀ G2, Over G0 G2 → E.rt .non G2) → (∀ d' l' u3 u4 G2, lk (thirdOf y) = some (d', l') → G2 q = some (.lst ((l ++ l').map D.int)) → Over G0 G2 → E.nx [v0, some (.int (max d d' : Nat)), some (.ref q), u3, u4] G2) →
      g y [v0, some (.int (d : Nat)), some (.ref q), u3, u4] G' fun env1 G1 => bb E env1 G1) :
    ∀ (xs : List D) (d : Nat) (l : List Int) (u3 u4 : Option D) (G' : GH), (∀ x ∈ xs, x ∈ xs0) → (∀ x ∈ xs, partOk x = true) → l.length + wtL xs ≤ 1000000 → G' q = some (.lst (l.map D.int)) → Over G0 G' →
      (lkL xs = none → ∀ G2, Over G0 G2 → E.rt .non G2) → (∀ d' l' u3 u4 G2, lkL xs = some (d', l') → G2 q = some (.lst ((l ++ l').map D.int)) → Over G0 G2 → E.nx [v0, some (.int (max d d' : Nat)), some (.ref q), u3, u4] G2) →
      lp (fun _ => True) g bb E xs [v0, some (.int (d : Nat)), some (.ref q), u3, u4] G'
  | [], d, l, u3, u4, G', _, _, _, hg, ho, _, h => ⟨trivial, by
    have := h 0 [] u3 u4 G' rfl (by rw [List.append_nil]; exact hg) ho
    rw [Nat.max_zero] at this
    exact this⟩
  | y :: ys, d, l, u3, u4, G', hm, hp, hw, hg, ho, hn, h => by
    simp only [wtL] at hw
    have hpy := hp y (by simp)
    refine ⟨trivial, Hyp y (hm y (by simp)) d l u3 u4 _ G' (by omega) hg ho (fun e G2 o2 => hn ?_ G2 o2) (fun d' l' a3 a4 G2 e g2 o2 => ?_)⟩
    · simp only [lkL]
      rw [lkP_third hpy, e]
    · have wl : l'.length ≤ wtD y := by
        have e' := e
        rw [← lkP_third hpy] at e'
        exact lkP_wt y d' l' e'
      refine lp_look hq xs0 Hyp ys (max d d') (l ++ l') a3 a4 G2 (fun x hx => hm x (by simp [hx])) (fun x hx => hp x (by simp [hx])) (by rw [List.length_append]; omega) g2 o2 (fun e2 G3 o3 => hn ?_ G3 o3) (fun d2 l2 b3 b4 G3 e2 g3 o3 => ?_)
      · simp only [lkL]
        rw [lkP_third hpy, e, e2]
      · have := h (max d' d2) (l' ++ l2) b3 b4 G3 (by
          simp only [lkL]
          rw [lkP_third hpy, e, e2]) (by rw [← List.append_assoc]; exact g3) o3
        rw [Nat.max_assoc]
        exact this
def S_look (n : Nat) : SP3 := fun ds G R _ => match ds with
  | [x] => saneD x = true ∧ htD x ≤ 2 * n ∧ wtD x ≤ 1000000 ∧ ∀ G', Over G G' → R (lkD (lk x)) G'
  | _ => False
def S_lookP : Nat → SP3
  | 0 => fun _ _ _ _ => False
  | n + 1 => S_look n
theorem ext_ref {p : Addr} {ds es : List D} {y : D} {G : GH} {R : K3} (h1 : G p = some (.lst ds)) (h2 : asL1 G y = some es) (h3 : ds.length + es.length ≤ sizeLine) (h : R .non (gset G p (.lst (ds ++ es)))) : fExtend (.ref p) [y] G R := ⟨ds, es, h1, h2, h3, h⟩
theorem look_step (T : Tx K mg) (n : Nat) (g__law_looked : Good P w K mg base "_law_looked" ["thing"] (4 + n) (S_lookP n)) : Good P w K mg base "_law_looked" ["thing"] (4 + n + 1) (S_look n) := by
  have g__law_is_whole := ok_whole (P := P) (w := w) (base := base) T
  have g__law_is_part := ok_lpart (P := P) (w := w) (base := base) T
  have g__law_sum_is := ok_sum (P := P) (w := w) (base := base) T
  refine good_of (d__law_looked T) sc__law_looked fun f cd A outer s H E hp tk hgd hr => ⟨_, (s_cons (s_if (t_val (c_call g__law_is_whole (hr.mono (by omega)) hgd tk (a_cons (c_var 0) a_nil))) (s_one (s_ret (c_if (t_chain op_le lift_I2b op_le lift_I2b c_int (c_var 0) c_int) (c_tup (a_cons c_int (a_cons (c_lst (a_cons (c_var 0) a_nil)) a_nil))) c_non))) s_nil)
      (s_cons (s_if (t_w (o_or (t_not (t_val (c_callB call_isi3 lift_isi (n_isinstance T) (a_cons (c_var 0) (a_cons (c_bltn (n := "tuple") (n_tuple T)) a_nil))))) (o_or (t_not (t_chain op_le lift_I2b op_le lift_I2b c_int (c_callB call_len lift_len (n_len T) (a_cons (c_var 0) a_nil)) c_int)) (o_or1 (t_not (t_val (c_callB (cr_all rfl) lift_all (n_all T) (a_cons (c_lc [("part", 3)] rfl sc__law_looked.nd (i_tpl (c_var 0)) (blkOk_by (by kernel_rfl)) (by decide) (fun _ _ _ _ _ => (g_name 3 sc__law_looked.nd rfl (.inl rfl))) (fun _ _ _ _ _ => ts_nil) (fun _ _ _ _ _ => (c_call g__law_is_part (hr.mono (by omega)) hgd takes0 (a_cons (c_var 3) a_nil)))) a_nil)))))))) (s_one (s_ret c_non)) s_nil)
      (s_cons (s_if (t_w (o_or (t_not (t_val (c_call g__law_sum_is (hr.mono (by omega)) hgd tk (a_cons (c_var 0) (a_cons c_int (a_cons c_int a_nil)))))) (o_or1 (t_not (t_val (c_call g__law_sum_is (hr.mono (by omega)) hgd tk (a_cons (c_var 0) (a_cons c_int (a_cons (c_un un_neg lift_I1 c_int) a_nil))))))))) (s_one (s_ret c_non)) s_nil)
      (s_cons (s_par 1 2 rfl sc__law_looked.nd rfl rfl (by decide) rfl rfl (a_cons c_int (a_cons (c_lstO a_nil) a_nil)) rfl)
      (s_cons (s_for hp rfl (i_tpl (c_var 0)) (g_name 3 sc__law_looked.nd rfl (.inl rfl)) (s_cons (s_set 4 sc__law_looked.nd rfl (.inl rfl) rfl (c_call g__law_looked (hr.mono (by omega)) hgd tk (a_cons (c_ix (c_var 3) c_int) a_nil)))
      (s_cons (s_if (t_cmp op_isN lift_isN (c_var 4) c_non) (s_one (s_ret c_non)) s_nil)
      (s_cons (s_set 1 sc__law_looked.nd rfl (.inl rfl) rfl (c_callB (call_max3 rfl) lift_max (n_max T) (a_cons (c_var 1) (a_cons (c_ix (c_var 4) c_int) a_nil))))
      (s_one (s_expr (c_bm PySem.F.plainAttrs_list PySem.F.slot_list_extend PySem.F.type_list_extend mt_extend m_extend (c_var 2) (a_cons (c_ix (c_var 4) c_int) a_nil))))))))
      (s_one (s_ret (c_tup (a_cons (c_op op_add3 lift_add (c_var 1) c_int) (a_cons (c_varZ 2) a_nil)))))))))), fun ds G R Ex hlen hS => ?_⟩
  clear hp tk hgd hr hlen
  match ds, hS with
  | [x], ⟨h1, h2, h3, h4⟩ =>
    rw [show start3 ["thing", "deep", "found", "part", "under"] [x] = [some (x), none, none, none, none] from rfl]
    have hr := sane_rd x h1
    simp only [wExpr, wRaise, gSb, wSeq, wNext, wRet, wRetN, wExpr, wIfS, wSet, wAsg, wPar, wAug, w1, w2, wA, aNil, aCons, wVar, wVarT, wC, tOfW, w3c, wAnd, wOr, wNot, tAnd3, tOr3, tNot3, wIf, wTup, wLst, wLstO, wCall, wSl, pNone, pSome, wipe3, List.map_cons, List.map_nil, fI2, fI2C, fI1, fAbs, addI, mulI, intI, eqS, neS, isN_, notN_, L3.isNon, gN, gsN, gsC, gT, asT, at3, List.set_cons_zero, List.set_cons_succ, Option.some.injEq, exists_eq_left', D.bl.injEq, D.int.injEq, D.tup.injEq, List.length_cons, List.length_nil, Nat.reduceAdd, true_and, if_true, if_false, Bool.false_eq_true, reduceIte, ite_true, ite_false, len_t0, len_t1, len_t2, len_t3, len_l0, len_l1, eqI, neI, Int.reduceBEq, Int.reduceLT, Int.reduceLE, Int.reduceNeg, decide_true, decide_false, Bool.not_true, Bool.not_false, ix0, ix1, ix2, and_true, and_self, S_is_int, hr, isi_tup hr]
    have h0 := h4 G (Over.refl)
    match x, h1, h2, h3, h4, h0, hr with
    | .int i, h1, h2, h3, h4, h0, hr =>
      simp only [isIntD, if_true]
      simp only [lk] at h0
      by_cases c1 : 0 ≤ i
      · by_cases c2 : i ≤ 7
        · rw [if_pos ⟨c1, c2⟩] at h0
          simp only [c1, c2, decide_true, if_true]
          exact ⟨sizeLine_eq ▸ (by decide), sizeLine_eq ▸ (by decide), h0⟩
        · rw [if_neg (fun z => c2 z.2)] at h0
          simp only [c1, c2, decide_true, decide_false, wExpr, wRaise, gSb, wSeq, wNext, wRet, wRetN, wExpr, wIfS, wSet, wAsg, wPar, wAug, w1, w2, wA, aNil, aCons, wVar, wVarT, wC, tOfW, w3c, wAnd, wOr, wNot, tAnd3, tOr3, tNot3, wIf, wTup, wLst, wLstO, wCall, wSl, pNone, pSome, wipe3, List.map_cons, List.map_nil, fI2, fI2C, fI1, fAbs, addI, mulI, intI, eqS, neS, isN_, notN_, L3.isNon, gN, gsN, gsC, gT, asT, at3, List.set_cons_zero, List.set_cons_succ, Option.some.injEq, exists_eq_left', D.bl.injEq, D.int.injEq, D.tup.injEq, List.length_cons, List.length_nil, Nat.reduceAdd, true_and, if_true, if_false, Bool.false_eq_true, reduceIte, ite_true, ite_false, len_t0, len_t1, len_t2, len_t3, len_l0, len_l1, eqI, neI, Int.reduceBEq, Int.reduceLT, Int.reduceLE, Int.reduceNeg, decide_true, decide_false, Bool.not_true, Bool.not_false, ix0, ix1, ix2, and_true, and_self]
          exact h0
      · rw [if_neg (fun z => c1 z.1)] at h0
        simp only [c1, decide_false, wExpr, wRaise, gSb, wSeq, wNext, wRet, wRetN, wExpr, wIfS, wSet, wAsg, wPar, wAug, w1, w2, wA, aNil, aCons, wVar, wVarT, wC, tOfW, w3c, wAnd, wOr, wNot, tAnd3, tOr3, tNot3, wIf, wTup, wLst, wLstO, wCall, wSl, pNone, pSome, wipe3, List.map_cons, List.map_nil, fI2, fI2C, fI1, fAbs, addI, mulI, intI, eqS, neS, isN_, notN_, L3.isNon, gN, gsN, gsC, gT, asT, at3, List.set_cons_zero, List.set_cons_succ, Option.some.injEq, exists_eq_left', D.bl.injEq, D.int.injEq, D.tup.injEq, List.length_cons, List.length_nil, Nat.reduceAdd, true_and, if_true, if_false, Bool.false_eq_true, reduceIte, ite_true, ite_false, len_t0, len_t1, len_t2, len_t3, len_l0, len_l1, eqI, neI, Int.reduceBEq, Int.reduceLT, Int.reduceLE, Int.reduceNeg, decide_true, decide_false, Bool.not_true, Bool.not_false, ix0, ix1, ix2, and_true, and_self]
        exact h0
    | .tup xs, h1, h2, h3, h4, h0, hr =>
      simp only [wExpr, wRaise, gSb, wSeq, wNext, wRet, wRetN, wExpr, wIfS, wSet, wAsg, wPar, wAug, w1, w2, wA, aNil, aCons, wVar, wVarT, wC, tOfW, w3c, wAnd, wOr, wNot, tAnd3, tOr3, tNot3, wIf, wTup, wLst, wLstO, wCall, wSl, pNone, pSome, wipe3, List.map_cons, List.map_nil, fI2, fI2C, fI1, fAbs, addI, mulI, intI, eqS, neS, isN_, notN_, L3.isNon, gN, gsN, gsC, gT, asT, at3, List.set_cons_zero, List.set_cons_succ, Option.some.injEq, exists_eq_left', D.bl.injEq, D.int.injEq, D.tup.injEq, List.length_cons, List.length_nil, Nat.reduceAdd, true_and, if_true, if_false, Bool.false_eq_true, reduceIte, ite_true, ite_false, len_t0, len_t1, len_t2, len_t3, len_l0, len_l1, eqI, neI, Int.reduceBEq, Int.reduceLT, Int.reduceLE, Int.reduceNeg, decide_true, decide_false, Bool.not_true, Bool.not_false, ix0, ix1, ix2, and_true, and_self, isTupD, isIntD, len_tup]
      have hlk : lk (.tup xs) = if (fitLen xs.length && xs.all partOk && sumsOk xs) = true then (lkL xs).map fun p => (p.1 + 1, p.2) else none := by simp only [lk]
      have hfit : fitLen xs.length = (decide (1 ≤ (xs.length : Int)) && decide ((xs.length : Int) ≤ 8)) := by
        unfold fitLen
        rw [Bool.eq_iff_iff, Bool.and_eq_true, Bool.and_eq_true, decide_eq_true_eq, decide_eq_true_eq, decide_eq_true_eq, decide_eq_true_eq]
        omega
      rw [hlk, hfit] at h4
      have hs := sane_tup h1
      cases c1 : decide (1 ≤ (xs.length : Int)) with
      | false =>
        rw [c1] at h4
        exact h4 G Over.refl
      | true =>
        cases c2 : decide ((xs.length : Int) ≤ 8) with
        | false =>
          rw [c1, c2] at h4
          exact h4 G Over.refl
        | true =>
          have hlen : xs.length ≤ 8 := by
            have := of_decide_eq_true c2
            omega
          rw [c1, c2] at h4
          simp only [Bool.and_self, Bool.true_and] at h4
          simp only [if_true, Bool.not_true, Bool.false_eq_true, if_false]
          refine wLc_tup 0 (fun x => .bl (partOk x)) rfl rfl (by rw [sizeLine_eq]; omega) ?_ ?_
          · intro y hy p acc Q hp hQ
            simp only [wExpr, wRaise, gSb, wSeq, wNext, wRet, wRetN, wExpr, wIfS, wSet, wAsg, wPar, wAug, w1, w2, wA, aNil, aCons, wVar, wVarT, wC, tOfW, w3c, wAnd, wOr, wNot, tAnd3, tOr3, tNot3, wIf, wTup, wLst, wLstO, wCall, wSl, pNone, pSome, wipe3, List.map_cons, List.map_nil, fI2, fI2C, fI1, fAbs, addI, mulI, intI, eqS, neS, isN_, notN_, L3.isNon, gN, gsN, gsC, gT, asT, at3, List.set_cons_zero, List.set_cons_succ, Option.some.injEq, exists_eq_left', D.bl.injEq, D.int.injEq, D.tup.injEq, List.length_cons, List.length_nil, Nat.reduceAdd, true_and, if_true, if_false, Bool.false_eq_true, reduceIte, ite_true, ite_false, len_t0, len_t1, len_t2, len_t3, len_l0, len_l1, eqI, neI, Int.reduceBEq, Int.reduceLT, Int.reduceLE, Int.reduceNeg, decide_true, decide_false, Bool.not_true, Bool.not_false, ix0, ix1, ix2, and_true, and_self, S_part]
            exact ⟨hs y hy, hQ⟩
          · rw [all_lst bools_of]
            have ea : (xs.map partOk).all id = xs.all partOk := by
              rw [List.all_map]
              rfl
            rw [ea]
            refine ⟨_, rfl, ?_⟩
            cases hp : xs.all partOk with
            | false =>
              rw [hp] at h4
              exact h4 G Over.refl
            | true =>
              have hpx := List.all_eq_true.mp hp
              rw [hp] at h4
              simp only [Bool.true_and, sumsOk, ← sums_low hpx, ← sums_high hpx] at h4
              simp only [Bool.not_true, Bool.false_eq_true, if_false]
              refine ⟨xs, 0, 1, rfl, rfl, rfl, hlen, hpx, .inl rfl, .inl rfl, _, rfl, ?_⟩
              cases cL : decide (0 ≤ (lsum 1 0 xs).1) with
              | false =>
                rw [cL] at h4
                exact h4 G Over.refl
              | true =>
                rw [cL] at h4
                simp only [Bool.true_and] at h4
                simp only [Bool.not_true, Bool.false_eq_true, if_false]
                refine ⟨xs, 1, -1, rfl, rfl, rfl, hlen, hpx, .inr rfl, .inr rfl, _, rfl, ?_⟩
                cases cH : decide (0 ≤ (lsum (-1) 1 xs).1) with
                | false =>
                  rw [cH] at h4
                  exact h4 G Over.refl
                | true =>
                  rw [cH] at h4
                  simp only [if_true] at h4
                  simp only [Bool.not_true, Bool.false_eq_true, if_false]
                  refine ⟨Nat.zero_le _, fun q hq => ?_⟩
                  have hne : xs ≠ [] := fun z => by
                    rw [z] at c1
                    exact absurd c1 (by decide)
                  have hht : ∀ y ∈ xs, htD y + 1 ≤ 2 * n := fun y hy => by
                    have := ht_mem hy
                    simp only [htD] at h2
                    omega
                  have hwt : wtL xs ≤ 1000000 := by
                    simp only [wtD] at h3
                    omega
                  simp only [wFor, iTpl, wExpr, wRaise, gSb, wSeq, wNext, wRet, wRetN, wExpr, wIfS, wSet, wAsg, wPar, wAug, w1, w2, wA, aNil, aCons, wVar, wVarT, wC, tOfW, w3c, wAnd, wOr, wNot, tAnd3, tOr3, tNot3, wIf, wTup, wLst, wLstO, wCall, wSl, pNone, pSome, wipe3, List.map_cons, List.map_nil, fI2, fI2C, fI1, fAbs, addI, mulI, intI, eqS, neS, isN_, notN_, L3.isNon, gN, gsN, gsC, gT, asT, at3, List.set_cons_zero, List.set_cons_succ, Option.some.injEq, exists_eq_left', D.bl.injEq, D.int.injEq, D.tup.injEq, List.length_cons, List.length_nil, Nat.reduceAdd, true_and, if_true, if_false, Bool.false_eq_true, reduceIte, ite_true, ite_false, len_t0, len_t1, len_t2, len_t3, len_l0, len_l1, eqI, neI, Int.reduceBEq, Int.reduceLT, Int.reduceLE, Int.reduceNeg, decide_true, decide_false, Bool.not_true, Bool.not_false, ix0, ix1, ix2, and_true, and_self]
                  refine lp_look hq xs ?_ xs 0 [] none none (gset G q (.lst [])) (fun _ h => h) hpx (by simpa using hwt) gset_same (Over.refl.new hq) (fun e G2 o2 => ?_) (fun d' l' u3 u4 G2 e g2 o2 => ?_)
                  · intro y hy d l u3 u4 E G' hw hg ho hn hyes
                    obtain ⟨a, b, t, rfl, ha, hb, hab⟩ := part_cases (hpx y hy)
                    have hh := hht _ hy
                    obtain ⟨m, rfl⟩ : ∃ m, n = m + 1 := ⟨n - 1, by
                      simp only [htD] at hh
                      omega⟩
                    simp only [wExpr, wRaise, gSb, wSeq, wNext, wRet, wRetN, wExpr, wIfS, wSet, wAsg, wPar, wAug, w1, w2, wA, aNil, aCons, wVar, wVarT, wC, tOfW, w3c, wAnd, wOr, wNot, tAnd3, tOr3, tNot3, wIf, wTup, wLst, wLstO, wCall, wSl, pNone, pSome, wipe3, List.map_cons, List.map_nil, fI2, fI2C, fI1, fAbs, addI, mulI, intI, eqS, neS, isN_, notN_, L3.isNon, gN, gsN, gsC, gT, asT, at3, List.set_cons_zero, List.set_cons_succ, Option.some.injEq, exists_eq_left', D.bl.injEq, D.int.injEq, D.tup.injEq, List.length_cons, List.length_nil, Nat.reduceAdd, true_and, if_true, if_false, Bool.false_eq_true, reduceIte, ite_true, ite_false, len_t0, len_t1, len_t2, len_t3, len_l0, len_l1, eqI, neI, Int.reduceBEq, Int.reduceLT, Int.reduceLE, Int.reduceNeg, decide_true, decide_false, Bool.not_true, Bool.not_false, ix0, ix1, ix2, and_true, and_self, S_lookP, S_look]
                    simp only [htD, htL] at hh
                    simp only [wtD, wtL] at hw
                    refine ⟨sane_tup (hs _ hy) t (by simp), by omega, by omega, fun G2 o2 => ?_⟩
                    have ho2 := ho.trans o2
                    have hn' : lk t = none → ∀ G2, Over G G2 → E.rt .non G2 := hn
                    have hyes' : ∀ d' l' u3 u4 G2, lk t = some (d', l') → G2 q = some (.lst ((l ++ l').map D.int)) → Over G G2 → E.nx [some (D.tup xs), some (.int (max d d' : Nat)), some (.ref q), u3, u4] G2 := hyes
                    cases e : lk t with
                    | none => exact hn' e G2 ho2
                    | some p =>
                      obtain ⟨d', l'⟩ := p
                      have g2 : G2 q = some (.lst (l.map D.int)) := (o2 q (by rw [hg]; simp)).trans hg
                      simp only [lkD, wExpr, wRaise, gSb, wSeq, wNext, wRet, wRetN, wExpr, wIfS, wSet, wAsg, wPar, wAug, w1, w2, wA, aNil, aCons, wVar, wVarT, wC, tOfW, w3c, wAnd, wOr, wNot, tAnd3, tOr3, tNot3, wIf, wTup, wLst, wLstO, wCall, wSl, pNone, pSome, wipe3, List.map_cons, List.map_nil, fI2, fI2C, fI1, fAbs, addI, mulI, intI, eqS, neS, isN_, notN_, L3.isNon, gN, gsN, gsC, gT, asT, at3, List.set_cons_zero, List.set_cons_succ, Option.some.injEq, exists_eq_left', D.bl.injEq, D.int.injEq, D.tup.injEq, List.length_cons, List.length_nil, Nat.reduceAdd, true_and, if_true, if_false, Bool.false_eq_true, reduceIte, ite_true, ite_false, len_t0, len_t1, len_t2, len_t3, len_l0, len_l1, eqI, neI, Int.reduceBEq, Int.reduceLT, Int.reduceLE, Int.reduceNeg, decide_true, decide_false, Bool.not_true, Bool.not_false, ix0, ix1, ix2, and_true, and_self, wM]
                      have em : fMax [.int (d : Nat), .int (d' : Nat)] = fun (G : GH) (R : K3) => R (.int (max d d' : Nat)) G := by
                        funext G R
                        have : (if ((d' : Nat) : Int) > ((d : Nat) : Int) then ((d' : Nat) : Int) else ((d : Nat) : Int)) = ((max d d' : Nat) : Int) := by
                          split <;> omega
                        show R (.int (if ((d' : Nat) : Int) > ((d : Nat) : Int) then ((d' : Nat) : Int) else ((d : Nat) : Int))) G = _
                        rw [this]
                      rw [em]
                      simp only [wExpr, wRaise, gSb, wSeq, wNext, wRet, wRetN, wExpr, wIfS, wSet, wAsg, wPar, wAug, w1, w2, wA, aNil, aCons, wVar, wVarT, wC, tOfW, w3c, wAnd, wOr, wNot, tAnd3, tOr3, tNot3, wIf, wTup, wLst, wLstO, wCall, wSl, pNone, pSome, wipe3, List.map_cons, List.map_nil, fI2, fI2C, fI1, fAbs, addI, mulI, intI, eqS, neS, isN_, notN_, L3.isNon, gN, gsN, gsC, gT, asT, at3, List.set_cons_zero, List.set_cons_succ, Option.some.injEq, exists_eq_left', D.bl.injEq, D.int.injEq, D.tup.injEq, List.length_cons, List.length_nil, Nat.reduceAdd, true_and, if_true, if_false, Bool.false_eq_true, reduceIte, ite_true, ite_false, len_t0, len_t1, len_t2, len_t3, len_l0, len_l1, eqI, neI, Int.reduceBEq, Int.reduceLT, Int.reduceLE, Int.reduceNeg, decide_true, decide_false, Bool.not_true, Bool.not_false, ix0, ix1, ix2, and_true, and_self]
                      have wl := lk_wt t d' l' e
                      refine ⟨by unfold L3.cL; rw [asL_ref g2]; rfl, ext_ref g2 rfl (by rw [List.length_map, List.length_map, sizeLine_eq]; omega) ?_⟩
                      refine hyes' d' l' _ _ _ e ?_ (ho2.new hq)
                      rw [← List.map_append]
                      exact gset_same
                  · rw [e] at h4
                    exact h4 _ o2
                  · rw [e] at h4
                    simp only [wExpr, wRaise, gSb, wSeq, wNext, wRet, wRetN, wExpr, wIfS, wSet, wAsg, wPar, wAug, w1, w2, wA, aNil, aCons, wVar, wVarT, wC, tOfW, w3c, wAnd, wOr, wNot, tAnd3, tOr3, tNot3, wIf, wTup, wLst, wLstO, wCall, wSl, pNone, pSome, wipe3, List.map_cons, List.map_nil, fI2, fI2C, fI1, fAbs, addI, mulI, intI, eqS, neS, isN_, notN_, L3.isNon, gN, gsN, gsC, gT, asT, at3, List.set_cons_zero, List.set_cons_succ, Option.some.injEq, exists_eq_left', D.bl.injEq, D.int.injEq, D.tup.injEq, List.length_cons, List.length_nil, Nat.reduceAdd, true_and, if_true, if_false, Bool.false_eq_true, reduceIte, ite_true, ite_false, len_t0, len_t1, len_t2, len_t3, len_l0, len_l1, eqI, neI, Int.reduceBEq, Int.reduceLT, Int.reduceLE, Int.reduceNeg, decide_true, decide_false, Bool.not_true, Bool.not_false, ix0, ix1, ix2, and_true, and_self]
                    refine ⟨q, _, rfl, g2, sizeLine_eq ▸ (by decide), ?_⟩
                    have := h4 (gdel G2 q) (o2.del hq)
                    have em : ((max 0 d' : Nat) : Int) + 1 = ((d' + 1 : Nat) : Int) := by omega
                    rw [em, List.nil_append]
                    exact this
    | .non, _, _, _, _, h0, _ => exact h0
    | .bl _, _, _, _, _, h0, _ => exact h0
    | .str _, _, _, _, _, h0, _ => exact h0
    | .ty _, _, _, _, _, h0, _ => exact h0
    | .lst _, _, _, _, _, h0, _ => exact h0
    | .lsx _, _, _, _, _, h0, _ => exact h0
    | .dct _ _, _, _, _, _, h0, _ => exact h0
    | .ins _ _ _, _, _, _, _, h0, _ => exact h0
    | .ref _, _, _, _, _, h0, _ => exact h0
    | .tpf _, _, _, _, _, h0, _ => exact h0
    | .exc _ _ _ _, _, _, _, _, h0, _ => exact h0
theorem ok_look (T : Tx K mg) : ∀ n, Good P w K mg base "_law_looked" ["thing"] (4 + n + 1) (S_look n)
  | 0 => look_step T 0 (good_no 4 (d__law_looked T))
  | n + 1 => look_step T (n + 1) (ok_look T n)
def S_lrec : SP3 := fun ds G R _ => match ds with
  | [x] => saneD x = true ∧ htD x ≤ 80 ∧ wtD x ≤ 4000 ∧ ∀ G', Over G G' → R (.bl (isRec x)) G'
  | _ => False
theorem ok_lrec (T : Tx K mg) : Good P w K mg base "_law_is_recipe" ["thing"] 46 S_lrec := by
  have g__law_looked := ok_look (P := P) (w := w) (base := base) T 40
  refine good_of (d__law_is_recipe T) sc__law_is_recipe fun f cd A outer s H E hp tk hgd hr => ⟨_, (s_cons (s_set 1 sc__law_is_recipe.nd rfl (.inl rfl) rfl (c_call g__law_looked (hr.mono (by omega)) hgd tk (a_cons (c_var 0) a_nil)))
      (s_one (s_ret (c_and (c_cmp op_notN lift_notN (c_var 1) c_non) (c_and (c_cmp op_le lift_I2b (c_ix (c_var 1) c_int) c_int) (c_one (c_cmp (op_eq3 hr.units) lift_eq (c_lenSet rfl (n_len T) (n_set T) (c_ix (c_var 1) c_int)) (c_callB call_len lift_len (n_len T) (a_cons (c_ix (c_var 1) c_int) a_nil))))))))), fun ds G R Ex hlen hS => ?_⟩
  clear hp tk hgd hr hlen
  match ds, hS with
  | [x], ⟨h1, h2, h3, h4⟩ =>
    rw [show start3 ["thing", "found"] [x] = [some (x), none] from rfl]
    simp only [wExpr, wRaise, gSb, wSeq, wNext, wRet, wRetN, wExpr, wIfS, wSet, wAsg, wPar, wAug, w1, w2, wA, aNil, aCons, wVar, wVarT, wC, tOfW, w3c, wAnd, wOr, wNot, tAnd3, tOr3, tNot3, wIf, wTup, wLst, wLstO, wCall, wSl, pNone, pSome, wipe3, List.map_cons, List.map_nil, fI2, fI2C, fI1, fAbs, addI, mulI, intI, eqS, neS, isN_, notN_, L3.isNon, gN, gsN, gsC, gT, asT, at3, List.set_cons_zero, List.set_cons_succ, Option.some.injEq, exists_eq_left', D.bl.injEq, D.int.injEq, D.tup.injEq, List.length_cons, List.length_nil, Nat.reduceAdd, true_and, if_true, if_false, Bool.false_eq_true, reduceIte, ite_true, ite_false, len_t0, len_t1, len_t2, len_t3, len_l0, len_l1, eqI, neI, Int.reduceBEq, Int.reduceLT, Int.reduceLE, Int.reduceNeg, decide_true, decide_false, Bool.not_true, Bool.not_false, ix0, ix1, ix2, and_true, and_self, S_look, h1]
    refine ⟨h2, by omega, fun G' o => ?_⟩
    have h5 := h4 G' o
    unfold isRec at h5
    cases e : lk x with
    | none =>
      rw [e] at h5
      exact h5
    | some p =>
      obtain ⟨d, l⟩ := p
      rw [e] at h5
      simp only [lkD, wExpr, wRaise, gSb, wSeq, wNext, wRet, wRetN, wExpr, wIfS, wSet, wAsg, wPar, wAug, w1, w2, wA, aNil, aCons, wVar, wVarT, wC, tOfW, w3c, wAnd, wOr, wNot, tAnd3, tOr3, tNot3, wIf, wTup, wLst, wLstO, wCall, wSl, pNone, pSome, wipe3, List.map_cons, List.map_nil, fI2, fI2C, fI1, fAbs, addI, mulI, intI, eqS, neS, isN_, notN_, L3.isNon, gN, gsN, gsC, gT, asT, at3, List.set_cons_zero, List.set_cons_succ, Option.some.injEq, exists_eq_left', D.bl.injEq, D.int.injEq, D.tup.injEq, List.length_cons, List.length_nil, Nat.reduceAdd, true_and, if_true, if_false, Bool.false_eq_true, reduceIte, ite_true, ite_false, len_t0, len_t1, len_t2, len_t3, len_l0, len_l1, eqI, neI, Int.reduceBEq, Int.reduceLT, Int.reduceLE, Int.reduceNeg, decide_true, decide_false, Bool.not_true, Bool.not_false, ix0, ix1, ix2, and_true, and_self, wLenSet]
      by_cases c : d ≤ 6
      · have c1 : decide ((d : Int) ≤ 6) = true := by rw [decide_eq_true_eq]; omega
        have c2 : decide (d ≤ 6) = true := by rw [decide_eq_true_eq]; omega
        simp only [c2, Bool.true_and] at h5
        simp only [c1, if_true]
        have wl := lk_wt x d l e
        refine ⟨l.map D.int, l, rfl, L3.ints_map l, by omega, fun k hk => ?_⟩
        unfold ilD
        rw [len_lst, List.length_map]
        have e2 : ((k : Int) == (l.length : Int)) = decide l.Nodup := by
          rw [Bool.eq_iff_iff, beq_iff_eq, decide_eq_true_eq, ← hk.2]
          omega
        simp only [wExpr, wRaise, gSb, wSeq, wNext, wRet, wRetN, wExpr, wIfS, wSet, wAsg, wPar, wAug, w1, w2, wA, aNil, aCons, wVar, wVarT, wC, tOfW, w3c, wAnd, wOr, wNot, tAnd3, tOr3, tNot3, wIf, wTup, wLst, wLstO, wCall, wSl, pNone, pSome, wipe3, List.map_cons, List.map_nil, fI2, fI2C, fI1, fAbs, addI, mulI, intI, eqS, neS, isN_, notN_, L3.isNon, gN, gsN, gsC, gT, asT, at3, List.set_cons_zero, List.set_cons_succ, Option.some.injEq, exists_eq_left', D.bl.injEq, D.int.injEq, D.tup.injEq, List.length_cons, List.length_nil, Nat.reduceAdd, true_and, if_true, if_false, Bool.false_eq_true, reduceIte, ite_true, ite_false, len_t0, len_t1, len_t2, len_t3, len_l0, len_l1, eqI, neI, Int.reduceBEq, Int.reduceLT, Int.reduceLE, Int.reduceNeg, decide_true, decide_false, Bool.not_true, Bool.not_false, ix0, ix1, ix2, and_true, and_self, e2]
        exact h5
      · have c1 : decide ((d : Int) ≤ 6) = false := by rw [decide_eq_false_iff_not]; omega
        have c2 : decide (d ≤ 6) = false := by rw [decide_eq_false_iff_not]; omega
        simp only [c2, Bool.false_and] at h5
        simp only [c1, wExpr, wRaise, gSb, wSeq, wNext, wRet, wRetN, wExpr, wIfS, wSet, wAsg, wPar, wAug, w1, w2, wA, aNil, aCons, wVar, wVarT, wC, tOfW, w3c, wAnd, wOr, wNot, tAnd3, tOr3, tNot3, wIf, wTup, wLst, wLstO, wCall, wSl, pNone, pSome, wipe3, List.map_cons, List.map_nil, fI2, fI2C, fI1, fAbs, addI, mulI, intI, eqS, neS, isN_, notN_, L3.isNon, gN, gsN, gsC, gT, asT, at3, List.set_cons_zero, List.set_cons_succ, Option.some.injEq, exists_eq_left', D.bl.injEq, D.int.injEq, D.tup.injEq, List.length_cons, List.length_nil, Nat.reduceAdd, true_and, if_true, if_false, Bool.false_eq_true, reduceIte, ite_true, ite_false, len_t0, len_t1, len_t2, len_t3, len_l0, len_l1, eqI, neI, Int.reduceBEq, Int.reduceLT, Int.reduceLE, Int.reduceNeg, decide_true, decide_false, Bool.not_true, Bool.not_false, ix0, ix1, ix2, and_true, and_self]
        exact h5
end

end K01

set_option Elab.async false
set_option linter.all false
set_option maxRecDepth 100000
set_option maxHeartbeats 0
namespace K01
open PySem PySem.Spec L2 L3
open PyProof.Rows hiding St
mutual
theorem ht_ex {o : Int} {t : D} : ∀ x : D, htD (exD o t x) ≤ htD x + htD t
  | .int i => by
    simp only [exD, htD]
    split
    · omega
    · simp only [htD]
      omega
  | .tup xs => by
    have := ht_exL (o := o) (t := t) xs
    simp only [exD, htD]
    omega
  | .non => by simp only [exD, htD]; omega
  | .bl _ => by simp only [exD, htD]; omega
  | .str _ => by simp only [exD, htD]; omega
  | .ty _ => by simp only [exD, htD]; omega
  | .lst _ => by simp only [exD, htD]; omega
  | .lsx _ => by simp only [exD, htD]; omega
  | .dct _ _ => by simp only [exD, htD]; omega
  | .ins _ _ _ => by simp only [exD, htD]; omega
  | .ref _ => by simp only [exD, htD]; omega
  | .tpf _ => by simp only [exD, htD]; omega
  | .exc _ _ _ _ => by simp only [exD, htD]; omega
theorem ht_exL {o : Int} {t : D} : ∀ xs : List D, htL (exL o t xs) ≤ htL xs + htD t
  | [] => by simp only [exL, htL]; omega
  | x :: xs => by
    have h1 := ht_exP (o := o) (t := t) x
    have h2 := ht_exL (o := o) (t := t) xs
    simp only [exL, htL]
    omega
theorem ht_exP {o : Int} {t : D} : ∀ x : D, htD (exP o t x) ≤ htD x + htD t
  | .tup ys => by
    have := ht_exT (o := o) (t := t) ys
    simp only [exP, htD]
    omega
  | .int _ => by simp only [exP, htD]; omega
  | .non => by simp only [exP, htD]; omega
  | .bl _ => by simp only [exP, htD]; omega
  | .str _ => by simp only [exP, htD]; omega
  | .ty _ => by simp only [exP, htD]; omega
  | .lst _ => by simp only [exP, htD]; omega
  | .lsx _ => by simp only [exP, htD]; omega
  | .dct _ _ => by simp only [exP, htD]; omega
  | .ins _ _ _ => by simp only [exP, htD]; omega
  | .ref _ => by simp only [exP, htD]; omega
  | .tpf _ => by simp only [exP, htD]; omega
  | .exc _ _ _ _ => by simp only [exP, htD]; omega
theorem ht_exT {o : Int} {t : D} : ∀ xs : List D, htL (exT o t xs) ≤ htL xs + htD t
  | [] => by simp only [exT, htL]; omega
  | [a] => by simp only [exT, htL]; omega
  | [a, b] => by simp only [exT, htL]; omega
  | [a, b, r] => by
    have := ht_ex (o := o) (t := t) r
    simp only [exT, htL]
    omega
  | a :: b :: c :: d :: r => by simp only [exT, htL]; omega
end
/-- weight of a recipe whose leaves o became t -/
theorem wt_ex_aux {o : Int} {t : D} : ∀ (n : Nat) (x : D), htD x ≤ n → ∀ (d : Nat) (l : List Int), lk x = some (d, l) → wtD (exD o t x) ≤ wtD x + l.count o * wtD t
  | n, .int i, _, d, l, h => by
    simp only [lk] at h
    split at h
    · cases h
      simp only [exD]
      split
      · rename_i e
        subst e
        simp only [wtD, List.count_singleton_self]
        omega
      · simp only [wtD]
        omega
    · cases h
  | 0, .tup xs, hn, d, l, h => by
    simp only [htD] at hn
    omega
  | n + 1, .tup xs, hn, d, l, h => by
    obtain ⟨e, rfl, k1, k2, k3, k4⟩ := lk_tup h
    simp only [htD] at hn
    simp only [exD, wtD]
    have main : ∀ (ys : List D) (e : Nat) (m : List Int), htL ys ≤ n → (∀ y ∈ ys, partOk y = true) → lkL ys = some (e, m) → wtL (exL o t ys) ≤ wtL ys + m.count o * wtD t := by
      intro ys
      induction ys with
      | nil =>
        intro e m _ _ _
        simp only [exL, wtL]
        omega
      | cons y ys ih =>
        intro e m hh hp hk
        simp only [htL] at hh
        obtain ⟨d1, l1, d2, l2, h1, h2, rfl, rfl⟩ := lkL_cons (hp y (by simp)) hk
        have q2 := ih d2 l2 (by omega) (fun z hz => hp z (by simp [hz])) h2
        obtain ⟨a, b, r, rfl, _⟩ := part_cases (hp y (by simp))
        simp only [htD, htL] at hh
        have q1 := wt_ex_aux (o := o) (t := t) n r (by omega) d1 l1 h1
        simp only [exL, exP_part, wtL, wtD] at q2 ⊢
        rw [List.count_append, Nat.add_mul]
        omega
    have := main xs e l (by omega) k3 k1
    omega
  | n, .non, _, _, _, h => by simp only [lk] at h; cases h
  | n, .bl _, _, _, _, h => by simp only [lk] at h; cases h
  | n, .str _, _, _, _, h => by simp only [lk] at h; cases h
  | n, .ty _, _, _, _, h => by simp only [lk] at h; cases h
  | n, .lst _, _, _, _, h => by simp only [lk] at h; cases h
  | n, .lsx _, _, _, _, h => by simp only [lk] at h; cases h
  | n, .dct _ _, _, _, _, h => by simp only [lk] at h; cases h
  | n, .ins _ _ _, _, _, _, h => by simp only [lk] at h; cases h
  | n, .ref _, _, _, _, h => by simp only [lk] at h; cases h
  | n, .tpf _, _, _, _, h => by simp only [lk] at h; cases h
  | n, .exc _ _ _ _, _, _, _, h => by simp only [lk] at h; cases h
theorem wt_ex {o : Int} {t x : D} (h : isRec x = true) : wtD (exD o t x) ≤ wtD x + wtD t := by
  obtain ⟨d, l, h1, h2, h3⟩ := isRec_lk h
  have q := wt_ex_aux (o := o) (t := t) (htD x) x (Nat.le_refl _) d l h1
  have c : l.count o ≤ 1 := List.nodup_iff_count.mp h3 o
  have : l.count o * wtD t ≤ 1 * wtD t := Nat.mul_le_mul_right _ c
  omega
mutual
def smD : D → Bool
  | .int _ => true
  | .tup xs => smL xs
  | _ => false
def smL : List D → Bool
  | [] => true
  | x :: xs => smD x && smL xs
end
theorem smL_iff {xs : List D} : smL xs = true ↔ ∀ x ∈ xs, smD x = true := by
  induction xs with
  | nil => simp [smL]
  | cons a xs ih => simp [smL, ih]
theorem sm_frac {a : D} (h : isBndD a = true) : smD a = true := by
  obtain ⟨n, d, rfl, _⟩ := bnd_cases h
  rfl
theorem sm_lk : ∀ (n : Nat) (x : D), htD x ≤ n → ∀ (p : Nat × List Int), lk x = some p → smD x = true
  | n, .int i, _, _, _ => rfl
  | 0, .tup xs, hn, _, _ => by
    simp only [htD] at hn
    omega
  | n + 1, .tup xs, hn, (d, l), h => by
    obtain ⟨e, rfl, k1, k2, k3, k4⟩ := lk_tup h
    simp only [htD] at hn
    simp only [smD]
    refine smL_iff.mpr fun y hy => ?_
    obtain ⟨a, b, t, rfl, ha, hb, _⟩ := part_cases (k3 y hy)
    obtain ⟨d', l', q1, _, _⟩ := lkL_mem k3 k1 _ hy
    have hm := ht_mem hy
    simp only [htD, htL] at hm
    have q := sm_lk n t (by omega) _ q1
    simp only [smD, smL, sm_frac ha, sm_frac hb, q, Bool.and_self]
  | n, .non, _, _, h => by simp only [lk] at h; cases h
  | n, .bl _, _, _, h => by simp only [lk] at h; cases h
  | n, .str _, _, _, h => by simp only [lk] at h; cases h
  | n, .ty _, _, _, h => by simp only [lk] at h; cases h
  | n, .lst _, _, _, h => by simp only [lk] at h; cases h
  | n, .lsx _, _, _, h => by simp only [lk] at h; cases h
  | n, .dct _ _, _, _, h => by simp only [lk] at h; cases h
  | n, .ins _ _ _, _, _, h => by simp only [lk] at h; cases h
  | n, .ref _, _, _, h => by simp only [lk] at h; cases h
  | n, .tpf _, _, _, h => by simp only [lk] at h; cases h
  | n, .exc _ _ _ _, _, _, h => by simp only [lk] at h; cases h
theorem sm_rec {x : D} (h : isRec x = true) : smD x = true := by
  obtain ⟨d, l, h1, _⟩ := isRec_lk h
  exact sm_lk _ x (Nat.le_refl _) _ h1
/-- the word for what was to be -/
def wordS (x : Str) : Str := if x = "BadRecipe" then "recipe" else if x = "NoBin" then "nobin" else "order"
def dueD : Out → D
  | .got d => d
  | .bad x => .str (wordS x)
section
variable {P : Program} {w : World} {K : PySem.W.Frag} {mg : Str → Option Value} {base : Heap}
/-- bounds of what is handed about -/
structure Fit (x : D) : Prop where
  sane : saneD x = true
  ht : htD x ≤ 40
  wt : wtD x ≤ 1500
def S_due : SP3 := fun ds G R _ => match ds with
  | [x, o, t] => Fit x ∧ Fit o ∧ Fit t ∧ ∀ G', Over G G' → R (dueD (putO x o t)) G'
  | _ => False
end

end K01

set_option Elab.async false
set_option linter.all false
set_option maxRecDepth 100000
set_option maxHeartbeats 0
namespace K01
open PySem PySem.Spec L2 L3
open PyProof.Rows hiding St
/-! ### orders -/
def r8 : List Int := [0, 1, 2, 3, 4, 5, 6, 7]
theorem inR_iff {i : Int} : inR i = true ↔ 0 ≤ i ∧ i ≤ 7 := by
  unfold inR
  rw [Bool.and_eq_true, decide_eq_true_eq, decide_eq_true_eq]
theorem sorted_r8 {ns' ns : List Int} (hp : ns'.Perm ns) (hs : ns'.Pairwise (· ≤ ·)) : (ns' == r8) = (decide (ns.length = 8) && ns.all inR && decide ns.Nodup) := by
  rw [Bool.eq_iff_iff, beq_iff_eq, Bool.and_eq_true, Bool.and_eq_true, decide_eq_true_eq, decide_eq_true_eq, List.all_eq_true]
  constructor
  · intro e
    subst e
    refine ⟨⟨hp.length_eq.symm, fun x hx => ?_⟩, hp.nodup_iff.mp (by decide)⟩
    have h1 := hp.mem_iff.mpr hx
    rw [inR_iff]
    simp only [r8, List.mem_cons, List.not_mem_nil, or_false] at h1
    omega
  · rintro ⟨⟨h1, h2⟩, h3⟩
    have hl : ns'.length = 8 := hp.length_eq.trans h1
    have hn := hp.nodup_iff.mpr h3
    have hr : ∀ x ∈ ns', 0 ≤ x ∧ x ≤ 7 := fun x hx => inR_iff.mp (h2 x (hp.mem_iff.mp hx))
    match ns', hl, hn, hr, hs with
    | [a, b, c, d, e, f, g, h], _, hn, hr, hs =>
      simp only [List.nodup_cons, List.mem_cons, List.not_mem_nil, not_or, or_false] at hn
      simp only [List.pairwise_cons, List.mem_cons, List.not_mem_nil, or_false, forall_eq_or_imp, forall_eq] at hs
      have ra := hr a (by simp)
      have rb := hr b (by simp)
      have rc := hr c (by simp)
      have rd := hr d (by simp)
      have re := hr e (by simp)
      have rf := hr f (by simp)
      have rg := hr g (by simp)
      have rh := hr h (by simp)
      unfold r8
      simp only [List.cons.injEq, and_true]
      omega
theorem ok_ints {l : List Int} : okEq (ilD l) = true := by
  unfold okEq
  rw [Bool.and_eq_true]
  have e : ∀ l : List Int, toPyL (l.map D.int) = l.map PyData.int := fun l => by
    induction l with
    | nil => rfl
    | cons a l ih =>
      rw [List.map_cons, List.map_cons, ← ih]
      rfl
  have f : ∀ l : List Int, flat3L (l.map D.int) = true := fun l => by
    induction l with
    | nil => rfl
    | cons a l ih =>
      rw [List.map_cons]
      show (true && flat3L (l.map D.int)) = true
      rw [ih]
      rfl
  have c : ∀ l : List Int, PyData.canLayAll0 (l.map PyData.int) = true := fun l => by
    induction l with
    | nil => rfl
    | cons a l ih =>
      rw [List.map_cons]
      show (true && PyData.canLayAll0 (l.map PyData.int)) = true
      rw [ih]
      rfl
  have dd : ∀ l : List Int, PyData.depthAll (l.map PyData.int) ≤ 1 := fun l => by
    induction l with
    | nil => simp [PyData.depthAll]
    | cons a l ih =>
      rw [List.map_cons]
      simp only [PyData.depthAll, PyData.depth]
      omega
  refine ⟨f l, ?_⟩
  unfold SeqAt.shaped
  rw [Bool.and_eq_true, decide_eq_true_eq]
  have et : toPy (ilD l) = .list (l.map PyData.int) := by
    unfold ilD
    simp only [toPy, e]
  rw [et]
  refine ⟨c l, ?_⟩
  simp only [PyData.depth]
  have := dd l
  omega
theorem eq_ints {a b : List Int} {G : GH} {R : K3} (h : R (.bl (a == b)) G) : fEq (ilD a) (ilD b) G R := by
  refine ⟨ok_ints, ok_ints, ?_⟩
  have e : eq3 (ilD a) (ilD b) = (a == b) := by
    unfold eq3 ilD
    simp only [toPy]
    have : ∀ a b : List Int, PyData.eqvAll (toPyL (a.map D.int)) (toPyL (b.map D.int)) = (a == b) := by
      intro a
      induction a with
      | nil => intro b; cases b <;> rfl
      | cons x a ih =>
        intro b
        cases b with
        | nil => rfl
        | cons y b =>
          simp only [List.map_cons, toPyL, toPy, PyData.eqvAll, PyData.eqv]
          rw [ih]
          rfl
    rw [PyData.eqv]
    exact this a b
  rw [e]
  exact h
section
variable {P : Program} {w : World} {K : PySem.W.Frag} {mg : Str → Option Value} {base : Heap}
def S_rdue : SP3 := fun ds G R _ => match ds with
  | [x, o] => Fit x ∧ Fit o ∧ ∀ G', Over G G' → R (dueD (renO x o)) G'
  | _ => False
theorem ints_all {os : List D} (h : ∀ d ∈ os, isIntD d = true) : ∃ ns, intsD os = some ns := by
  induction os with
  | nil => exact ⟨[], rfl⟩
  | cons a os ih =>
    obtain ⟨ns, h1⟩ := ih fun d hd => h d (by simp [hd])
    have ha := h a (by simp)
    cases a with
    | int b =>
      refine ⟨b :: ns, ?_⟩
      show (intsD os).map (b :: ·) = _
      rw [h1]
      rfl
    | _ => cases ha
/-! ### the same -/
def S_same (n : Nat) : SP3 := fun ds G R _ => match ds with
  | [x, y] => x = y ∧ smD x = true ∧ saneD x = true ∧ htD x ≤ n ∧ wtD x ≤ 100000 ∧ R (.bl true) G
  | _ => False
def S_sameP : Nat → SP3
  | 0 => fun _ _ _ _ => False
  | n + 1 => S_same n
theorem zip_self {d : D} : ∀ {xs : List D}, d ∈ zipD xs xs → ∃ a ∈ xs, d = .tup [a, a]
  | x :: xs, h => by
    unfold zipD at h
    rw [List.zipWith_cons_cons] at h
    rcases List.mem_cons.mp h with z | z
    · exact ⟨x, by simp, z⟩
    · obtain ⟨a, ha, e⟩ := zip_self (xs := xs) z
      exact ⟨a, by simp [ha], e⟩
  | [], h => by cases h
theorem eqB {a b : Bool} {G : GH} {R : K3} : fEq (.bl a) (.bl b) G R = R (.bl (a == b)) G := by
  apply propext
  exact ⟨fun h => h.2.2, fun h => ⟨rfl, rfl, h⟩⟩
theorem neB {a b : Bool} {G : GH} {R : K3} : fNe (.bl a) (.bl b) G R = R (.bl (!(a == b))) G := by
  apply propext
  exact ⟨fun h => h.2.2, fun h => ⟨rfl, rfl, h⟩⟩
theorem wt_len {xs : List D} : xs.length ≤ wtL xs := by
  induction xs with
  | nil => exact Nat.le_refl _
  | cons a xs ih =>
    simp only [wtL, List.length_cons]
    have := wt_pos a
    omega
theorem all_true {xs : List D} : bools ((zipD xs xs).map fun _ => D.bl true) = some ((zipD xs xs).map fun _ => true) := bools_of
/-! ### the word of an error -/
def Three (x : Str) : Prop := x = "BadRecipe" ∨ x = "NoBin" ∨ x = "BadOrder"
def S_word (K : PySem.W.Frag) : SE3 := fun a c ds G R _ => match ds with
  | [d] => ∃ x : Str, d = .ref a ∧ Three x ∧ c = Bad K x ∧ R (.str (wordS x)) G
  | _ => False
end

end K01

set_option Elab.async false
set_option linter.all false
set_option maxRecDepth 100000
set_option maxHeartbeats 0
namespace K01
open PySem PySem.Spec L2 L3
open PyProof.Rows hiding St
/-! ### what repr can show -/
def strTiny (x : Str) : Bool := decide (x.cps.size ≤ 10) && x.cps.toList.all fun c => decide (c < 16 ^ 8)
def intTiny (i : Int) : Bool := decide (i.natAbs < 10 ^ 12)
def keyTiny : Key → Bool
  | .inl i => intTiny i
  | .inr x => strTiny x
mutual
def tyB : D → Bool
  | .non => true
  | .bl _ => true
  | .int i => intTiny i
  | .str x => strTiny x
  | .tup xs => tyBL xs
  | .lst xs => tyBL xs
  | .lsx xs => tyBL xs
  | .dct ks xs => ks.all keyTiny && tyBL xs
  | _ => false
def tyBL : List D → Bool
  | [] => true
  | x :: xs => tyB x && tyBL xs
end
mutual
def dpD : D → Nat
  | .tup xs => 1 + dpL xs
  | .lst xs => 1 + dpL xs
  | .lsx xs => 1 + dpL xs
  | .dct _ xs => 1 + dpL xs
  | _ => 0
def dpL : List D → Nat
  | [] => 0
  | x :: xs => max (dpD x) (dpL xs)
end
theorem tyBL_iff {xs : List D} : tyBL xs = true ↔ ∀ x ∈ xs, tyB x = true := by
  induction xs with
  | nil => simp [tyBL]
  | cons a xs ih => simp [tyBL, ih]
/-- what is to be known of plain data -/
structure Sh (p : PyData) (w d : Nat) : Prop where
  sh : p.showable = true
  lf : p.leavesShort 13 = true
  wt : p.weight + 60 ≤ 200 * w
  dp : p.depth ≤ d
theorem log_tiny {i : Int} (h : intTiny i = true) : i.natAbs.log2 < 40 := by
  have h' : i.natAbs < 10 ^ 12 := of_decide_eq_true h
  by_cases z : i.natAbs = 0
  · rw [z]; decide
  · exact (Nat.log2_lt z).mpr (by omega)
theorem int_sh {i : Int} (h : intTiny i = true) : Sh (.int i) 1 0 := by
  have l := log_tiny h
  refine ⟨?_, ?_, ?_, Nat.le_refl _⟩
  · simp only [PyData.showable, decide_eq_true_eq]
    omega
  · simp only [PyData.leavesShort, decide_eq_true_eq]
    exact PyData.shown_int_le (of_decide_eq_true h)
  · simp only [PyData.weight]
    split <;> omega
theorem str_sh {x : Str} (h : strTiny x = true) : Sh (.str x) 1 0 := by
  unfold strTiny at h
  rw [Bool.and_eq_true, decide_eq_true_eq] at h
  refine ⟨rfl, ?_, ?_, Nat.le_refl _⟩
  · simp only [PyData.leavesShort]
    exact h.2
  · simp only [PyData.weight]
    omega
theorem key_sh {k : Key} (h : keyTiny k = true) : (keyPy k).showable = true ∧ (keyPy k).leavesShort 13 = true ∧ (keyPy k).weight ≤ 41 ∧ (keyPy k).depth = 0 := by
  cases k with
  | inl i =>
    have q := int_sh (i := i) h
    have l := log_tiny (i := i) h
    refine ⟨q.sh, q.lf, ?_, rfl⟩
    show (PyData.int i).weight ≤ 41
    simp only [PyData.weight]
    split <;> omega
  | inr x =>
    have q := str_sh (x := x) h
    have h' : strTiny x = true := h
    unfold strTiny at h'
    rw [Bool.and_eq_true, decide_eq_true_eq] at h'
    refine ⟨q.sh, q.lf, ?_, rfl⟩
    show (PyData.str x).weight ≤ 41
    simp only [PyData.weight]
    omega
structure ShL (ps : List PyData) (w d : Nat) : Prop where
  sh : PyData.showableAll ps = true
  lf : PyData.leavesShortAll 13 ps = true
  wt : PyData.weightAll ps ≤ 200 * w
  dp : PyData.depthAll ps ≤ d
structure ShK (ps : List (PyData × PyData)) (w d : Nat) : Prop where
  sh : PyData.showableKv ps = true
  lf : PyData.leavesShortKv 13 ps = true
  wt : PyData.weightKv ps ≤ 200 * w
  dp : PyData.depthKv ps ≤ d
mutual
theorem sh_of : ∀ x : D, tyB x = true → Sh (toPr x) (wtD x) (dpD x)
  | .non, _ => ⟨rfl, rfl, by decide, Nat.le_refl _⟩
  | .bl b, _ => ⟨rfl, rfl, by simp only [toPr, PyData.weight, wtD]; omega, Nat.le_refl _⟩
  | .int i, h => by
    have := int_sh (i := i) h
    simpa only [toPr, wtD, dpD] using this
  | .str x, h => by
    have := str_sh (x := x) h
    simpa only [toPr, wtD, dpD] using this
  | .tup xs, h => by
    have q := shL_of xs h
    simp only [toPr, wtD, dpD]
    refine ⟨q.sh, q.lf, ?_, ?_⟩
    · have := q.wt
      simp only [PyData.weight]
      omega
    · have := q.dp
      simp only [PyData.depth]
      omega
  | .lst xs, h => by
    have q := shL_of xs h
    simp only [toPr, wtD, dpD]
    refine ⟨q.sh, q.lf, ?_, ?_⟩
    · have := q.wt
      simp only [PyData.weight]
      omega
    · have := q.dp
      simp only [PyData.depth]
      omega
  | .lsx xs, h => by
    have q := shL_of xs h
    simp only [toPr, wtD, dpD]
    refine ⟨q.sh, q.lf, ?_, ?_⟩
    · have := q.wt
      simp only [PyData.weight]
      omega
    · have := q.dp
      simp only [PyData.depth]
      omega
  | .dct ks xs, h => by
    have h' : (ks.all keyTiny && tyBL xs) = true := h
    rw [Bool.and_eq_true] at h'
    have q := shK_of xs ks h'.2 h'.1
    simp only [toPr, wtD, dpD]
    refine ⟨q.sh, q.lf, ?_, ?_⟩
    · have := q.wt
      simp only [PyData.weight]
      omega
    · have := q.dp
      simp only [PyData.depth]
      omega
  | .ty _, h => by cases h
  | .ins _ _ _, h => by cases h
  | .ref _, h => by cases h
  | .tpf _, h => by cases h
  | .exc _ _ _ _, h => by cases h
theorem shL_of : ∀ xs : List D, tyBL xs = true → ShL (toPrL xs) (wtL xs) (dpL xs)
  | [], _ => ⟨rfl, rfl, Nat.le_refl _, Nat.le_refl _⟩
  | x :: xs, h => by
    have h' : (tyB x && tyBL xs) = true := h
    rw [Bool.and_eq_true] at h'
    have q1 := sh_of x h'.1
    have q2 := shL_of xs h'.2
    simp only [toPrL, wtL, dpL]
    refine ⟨?_, ?_, ?_, ?_⟩
    · simp only [PyData.showableAll, q1.sh, q2.sh, Bool.and_self]
    · simp only [PyData.leavesShortAll, q1.lf, q2.lf, Bool.and_self]
    · have := q1.wt
      have := q2.wt
      simp only [PyData.weightAll]
      omega
    · have := q1.dp
      have := q2.dp
      simp only [PyData.depthAll]
      omega
theorem shK_of : ∀ (xs : List D) (ks : List Key), tyBL xs = true → ks.all keyTiny = true → ShK ((ks.map keyPy).zip (toPrL xs)) (wtL xs) (dpL xs)
  | [], ks, _, _ => by
    simp only [toPrL, List.zip_nil_right]
    exact ⟨rfl, rfl, Nat.zero_le _, Nat.zero_le _⟩
  | x :: xs, [], _, _ => ⟨rfl, rfl, Nat.zero_le _, Nat.zero_le _⟩
  | x :: xs, k :: ks, h, hk => by
    have h' : (tyB x && tyBL xs) = true := h
    rw [Bool.and_eq_true] at h'
    rw [List.all_cons, Bool.and_eq_true] at hk
    have q1 := sh_of x h'.1
    have q2 := shK_of xs ks h'.2 hk.2
    obtain ⟨k1, k2, k3, k4⟩ := key_sh hk.1
    simp only [toPrL, wtL, dpL, List.map_cons, List.zip_cons_cons]
    refine ⟨?_, ?_, ?_, ?_⟩
    · simp only [PyData.showableKv, q1.sh, q2.sh, k1, Bool.and_self]
    · simp only [PyData.leavesShortKv, q1.lf, q2.lf, k2, Bool.and_self]
    · have := q1.wt
      have := q2.wt
      simp only [PyData.weightKv]
      omega
    · have := q1.dp
      have := q2.dp
      simp only [PyData.depthKv, k4]
      omega
end
mutual
theorem tiny_rd : ∀ x : D, tyB x = true → rdD x = true
  | .non, _ => rfl
  | .bl _, _ => rfl
  | .int _, _ => rfl
  | .str _, _ => rfl
  | .tup xs, h => tinyL_rd xs h
  | .lst xs, h => tinyL_rd xs h
  | .lsx xs, h => tinyL_rd xs h
  | .dct ks xs, h => by
    have h' : (ks.all keyTiny && tyBL xs) = true := h
    rw [Bool.and_eq_true] at h'
    exact tinyL_rd xs h'.2
  | .ty _, h => by cases h
  | .ins _ _ _, h => by cases h
  | .ref _, h => by cases h
  | .tpf _, h => by cases h
  | .exc _ _ _ _, h => by cases h
theorem tinyL_rd : ∀ xs : List D, tyBL xs = true → rdDL xs = true
  | [], _ => rfl
  | x :: xs, h => by
    have h' : (tyB x && tyBL xs) = true := h
    rw [Bool.and_eq_true] at h'
    show (rdD x && rdDL xs) = true
    rw [tiny_rd x h'.1, tinyL_rd xs h'.2]
    rfl
end
structure Fit2 (x : D) : Prop extends Fit x where
  ty : tyB x = true
  dp : dpD x ≤ 120
theorem repr_ok {xs : List D} (h : ∀ x ∈ xs, Fit2 x) (hl : xs.length ≤ 3) : ReprOk (.tup xs) := by
  have ht : tyBL xs = true := tyBL_iff.mpr fun x hx => (h x hx).ty
  have q := sh_of (.tup xs) ht
  have w : wtL xs ≤ 1500 * xs.length := by
    clear q ht hl
    induction xs with
    | nil => exact Nat.le_refl _
    | cons a xs ih =>
      have := ih fun x hx => h x (by simp [hx])
      have := (h a (by simp)).wt
      simp only [wtL, List.length_cons]
      omega
  have dl : dpL xs ≤ 120 := by
    clear q ht hl w
    induction xs with
    | nil => exact Nat.zero_le _
    | cons a xs ih =>
      have := ih fun x hx => h x (by simp [hx])
      have := (h a (by simp)).dp
      simp only [dpL]
      omega
  have q1 := q.wt
  have q2 := q.dp
  simp only [wtD, dpD] at q1 q2
  refine ⟨tiny_rd _ ht, q.sh, by omega, PyData.shown_fits (B := 13) (by decide) (by decide) q.lf ?_⟩
  have : (toPr (.tup xs)).weight ≤ 1000000 := by omega
  exact Nat.le_trans this (by decide)
section
variable {P : Program} {w : World} {K : PySem.W.Frag} {mg : Str → Option Value} {base : Heap}
theorem repr_go {xs : List D} {G : GH} {R : K3} (h : ReprOk (.tup xs)) (q : R (.str (toPr (.tup xs)).shown) G) : fRepr [.tup xs] G R := ⟨xs, rfl, h, q⟩
theorem put_three {x o t : D} {w : Str} (h : putO x o t = .bad w) : Three w := by
  unfold putO at h
  split at h
  · cases h; exact .inl rfl
  · split at h
    · cases h; exact .inr (.inl rfl)
    · split at h
      · cases h; exact .inl rfl
      · split at h
        · cases h; exact .inl rfl
        · cases h
theorem put_got {x o t d : D} (h : putO x o t = .got d) : isRec x = true ∧ isRec d = true ∧ d = exD (intOf o) t x := by
  unfold putO at h
  split at h
  · cases h
  · rename_i h1
    split at h
    · cases h
    · split at h
      · cases h
      · split at h
        · cases h
        · rename_i h4
          cases h
          exact ⟨by simpa using h1, by simpa using h4, rfl⟩
theorem not_str {d : D} (h : smD d = true) : isStrD d = false := by
  cases d <;> first | rfl | cases h
theorem exm (T : Tx K mg) {x : Str} (h : Three x) : PySem.W.exmOne K (Bad K x) (.ref (He.ga K "BinError")) = some true := by
  rcases h with rfl | rfl | rfl
  · exact m_BadRecipe_BinError T
  · exact m_NoBin_BinError T
  · exact m_BadOrder_BinError T
theorem str_refl {x : Str} : (x == x) = true := by simp
def S_isput : SP3 := fun ds G R _ => match ds with
  | [x, o, t] => Fit2 x ∧ Fit2 o ∧ Fit2 t ∧ ∀ G', Over G G' → R (.bl true) G'
  | _ => False
theorem ren_three {x o : D} {w : Str} (h : renO x o = .bad w) : Three w := by
  unfold renO at h
  split at h
  · cases h; exact .inl rfl
  · split at h
    · cases h; exact .inr (.inr rfl)
    · cases h
theorem ren_got {x o d : D} (h : renO x o = .got d) : isRec x = true ∧ isOrd o = true ∧ d = nuD (ordOf o) x := by
  unfold renO at h
  split at h
  · cases h
  · rename_i h1
    split at h
    · cases h
    · rename_i h4
      cases h
      exact ⟨by simpa using h1, by simpa using h4, rfl⟩
/-- numbered recipes -/
theorem nu_facts {os : List D} {ns : List Int} (ho : os = ns.map D.int) (h8 : os.length = 8) (hb : ∀ i ∈ ns, 0 ≤ i ∧ i ≤ 7) : ∀ (n : Nat) (x : D), htD x ≤ n → ∀ p : Nat × List Int, lk x = some p → saneD x = true →
    smD (nuD os x) = true ∧ saneD (nuD os x) = true ∧ htD (nuD os x) = htD x ∧ wtD (nuD os x) = wtD x
  | n, .int i, _, p, h, _ => by
    simp only [lk] at h
    split at h
    · rename_i hi
      simp only [nuD]
      have hl : i.toNat < ns.length := by
        rw [ho, List.length_map] at h8
        omega
      have e : os.getD i.toNat .non = .int ns[i.toNat] := by
        rw [ho, List.getD_eq_getElem?_getD, List.getElem?_map, List.getElem?_eq_getElem hl]
        rfl
      rw [e]
      have := hb _ (List.getElem_mem hl)
      refine ⟨rfl, ?_, rfl, rfl⟩
      show wordB _ = true
      unfold wordB
      rw [decide_eq_true_eq]
      omega
    · cases h
  | 0, .tup xs, hn, _, _, _ => by
    simp only [htD] at hn
    omega
  | n + 1, .tup xs, hn, (d, l), h, hs => by
    obtain ⟨e, rfl, k1, k2, k3, k4⟩ := lk_tup h
    simp only [htD] at hn
    have each : ∀ y ∈ xs, smD (nuP os y) = true ∧ saneD (nuP os y) = true ∧ htD (nuP os y) = htD y ∧ wtD (nuP os y) = wtD y := by
      intro y hy
      obtain ⟨a, b, t, rfl, ha, hb', _⟩ := part_cases (k3 y hy)
      obtain ⟨d', l', q1, _, _⟩ := lkL_mem k3 k1 _ hy
      have hm := ht_mem hy
      have sy := sane_tup hs _ hy
      have sa := sane_tup sy
      simp only [htD, htL] at hm
      obtain ⟨f1, f2, f3, f4⟩ := nu_facts ho h8 hb n t (by omega) _ q1 (sa t (by simp))
      rw [nuP_part]
      refine ⟨?_, ?_, ?_, ?_⟩
      · simp only [smD, smL, sm_frac ha, sm_frac hb', f1, Bool.and_self]
      · simp only [saneD, saneL, sa a (by simp), sa b (by simp), f2, Bool.and_self]
      · simp only [htD, htL, f3]
      · simp only [wtD, wtL, f4]
    simp only [nuD, nuL_map]
    have hl : ∀ ys : List D, (∀ y ∈ ys, htD (nuP os y) = htD y ∧ wtD (nuP os y) = wtD y) → htL (ys.map (nuP os)) = htL ys ∧ wtL (ys.map (nuP os)) = wtL ys := by
      intro ys
      induction ys with
      | nil => intro _; exact ⟨rfl, rfl⟩
      | cons y ys ih =>
        intro hh
        obtain ⟨i1, i2⟩ := ih fun z hz => hh z (by simp [hz])
        obtain ⟨j1, j2⟩ := hh y (by simp)
        simp only [List.map_cons, htL, wtL, i1, i2, j1, j2, and_self]
    obtain ⟨g1, g2⟩ := hl xs fun y hy => ⟨(each y hy).2.2.1, (each y hy).2.2.2⟩
    refine ⟨?_, ?_, ?_, ?_⟩
    · show smL _ = true
      refine smL_iff.mpr fun z hz => ?_
      obtain ⟨y, hy, rfl⟩ := List.mem_map.mp hz
      exact (each y hy).1
    · show saneL _ = true
      refine saneL_iff.mpr fun z hz => ?_
      obtain ⟨y, hy, rfl⟩ := List.mem_map.mp hz
      exact (each y hy).2.1
    · simp only [htD, g1]
    · simp only [wtD, g2]
  | n, .non, _, _, h, _ => by simp only [lk] at h; cases h
  | n, .bl _, _, _, h, _ => by simp only [lk] at h; cases h
  | n, .str _, _, _, h, _ => by simp only [lk] at h; cases h
  | n, .ty _, _, _, h, _ => by simp only [lk] at h; cases h
  | n, .lst _, _, _, h, _ => by simp only [lk] at h; cases h
  | n, .lsx _, _, _, h, _ => by simp only [lk] at h; cases h
  | n, .dct _ _, _, _, h, _ => by simp only [lk] at h; cases h
  | n, .ins _ _ _, _, _, h, _ => by simp only [lk] at h; cases h
  | n, .ref _, _, _, h, _ => by simp only [lk] at h; cases h
  | n, .tpf _, _, _, h, _ => by simp only [lk] at h; cases h
  | n, .exc _ _ _ _, _, _, h, _ => by simp only [lk] at h; cases h
theorem ord_facts {o : D} (h : isOrd o = true) : ∃ (os : List D) (ns : List Int), o = .tup os ∧ os = ns.map D.int ∧ os.length = 8 ∧ (∀ i ∈ ns, 0 ≤ i ∧ i ≤ 7) ∧ ordOf o = os ∧ ns.Nodup := by
  match o, h with
  | .tup os, h =>
    rw [isOrd_tup] at h
    cases hi : intsD os with
    | none => rw [hi] at h; cases h
    | some ns =>
      rw [hi] at h
      simp only [Bool.and_eq_true, decide_eq_true_eq, List.all_eq_true] at h
      have e := ints_len hi
      refine ⟨os, ns, rfl, e, ?_, fun i hm => inR_iff.mp (h.1.2 i hm), rfl, h.2⟩
      rw [e, List.length_map]
      exact h.1.1
def S_isren : SP3 := fun ds G R _ => match ds with
  | [x, o] => Fit2 x ∧ Fit2 o ∧ ∀ G', Over G G' → R (.bl true) G'
  | _ => False
end

end K01

set_option Elab.async false
set_option linter.all false
set_option maxRecDepth 100000
set_option maxHeartbeats 0
namespace K01
open PySem PySem.Spec L2 L3
open PyProof.Rows hiding St
/-! ### shares -/
theorem red_cop {n d : Int} (hd : 0 < d) : Int.gcd (redN n d) (redD n d) = 1 := by
  unfold redN redD
  rw [Int.gcd_ediv (Int.gcd_dvd_left n d) (Int.gcd_dvd_right n d), Int.natAbs_natCast]
  exact Nat.div_self (Int.gcd_pos_of_ne_zero_right n (show d ≠ 0 by omega))
def rdF (a s : Int) : Fr := (redN a s, redD a s)
theorem rdF_eqv {a s : Int} (hs : 0 < s) : Eqv (rdF a s) (a, s) := red_rt hs
theorem frD_eq {a s : Int} : frD a s = frO (rdF a s) := rfl
theorem rdF_nn {a s : Int} (hs : 0 < s) (ha : 0 ≤ a) : 0 ≤ (rdF a s).1 := (rdF_eqv hs).nn.mpr ha
theorem rdF_le {a s : Int} (hs : 0 < s) (ha : a ≤ s) : (rdF a s).1 ≤ (rdF a s).2 := by
  rcases Int.lt_or_le (rdF a s).2 (rdF a s).1 with h | h
  · have := (rdF_eqv hs).lt.mp h
    simp only at this
    omega
  · exact h
theorem rdF_small {a s : Int} (hs : 0 < s) (h : s ≤ 1000) : (rdF a s).2 ≤ 1000 := by
  have := (red_le (n := a) hs).2
  have p := redD_pos (n := a) hs
  show redD a s ≤ 1000
  omega
/-- a bound: a small reduced fraction between 0 and 1 -/
def BnF (p : Fr) : Prop := 0 < p.2 ∧ p.2 ≤ 1000 ∧ 0 ≤ p.1 ∧ p.1 ≤ p.2 ∧ Int.gcd p.1 p.2 = 1
theorem rdF_bn {a s : Int} (hs : 0 < s) (h : s ≤ 1000) (h0 : 0 ≤ a) (h1 : a ≤ s) : BnF (rdF a s) := ⟨redD_pos hs, rdF_small hs h, rdF_nn hs h0, rdF_le hs h1, red_cop hs⟩
theorem BnF.bnd {p : Fr} (h : BnF p) : isBndD (frO p) = true ∧ ptD (frO p) = p ∧ PtOk p := by
  obtain ⟨h1, h2, h3, h4, h5⟩ := h
  refine ⟨?_, rfl, h1, h2, by omega⟩
  unfold isBndD isShareD
  have e1 : isFracD (frO p) = true := by
    show (decide (1 ≤ p.2) && (Int.gcd p.1 p.2 == 1)) = true
    rw [h5]
    simp
    omega
  have e2 : nmD (frO p) = p.1 := rfl
  have e3 : dnD (frO p) = p.2 := rfl
  rw [e1, e2, e3]
  simp [h2, h3, h4]
def leF (x y : Fr) : Prop := x.1 * y.2 ≤ y.1 * x.2
theorem leF_rd {a b s t : Int} (hs : 0 < s) (ht : 0 < t) (h : a * t ≤ b * s) : leF (rdF a s) (rdF b t) := by
  obtain ⟨p1, p2, p3⟩ := rdF_eqv (a := a) hs
  obtain ⟨q1, q2, q3⟩ := rdF_eqv (a := b) ht
  simp only at p3 q3 p1 q1
  unfold leF
  generalize (rdF a s).1 = x1 at *
  generalize (rdF a s).2 = x2 at *
  generalize (rdF b t).1 = y1 at *
  generalize (rdF b t).2 = y2 at *
  have e1 : (x1 * y2) * (s * t) = (a * t) * (x2 * y2) := by grind
  have e2 : (y1 * x2) * (s * t) = (b * s) * (x2 * y2) := by grind
  have e3 : (a * t) * (x2 * y2) ≤ (b * s) * (x2 * y2) := Int.mul_le_mul_of_nonneg_right h (Int.le_of_lt (Int.mul_pos p1 q1))
  rw [← e1, ← e2] at e3
  exact Int.le_of_mul_le_mul_right e3 (Int.mul_pos hs ht)
theorem sum_le : ∀ (xs ys : List Fr) (u v : Fr), xs.length = ys.length → (∀ q ∈ xs.zip ys, leF q.1 q.2 ∧ 0 < q.1.2 ∧ 0 < q.2.2) → leF u v → 0 < u.2 → 0 < v.2 → leF (xs.foldl addU u) (ys.foldl addU v) ∧ 0 < (xs.foldl addU u).2 ∧ 0 < (ys.foldl addU v).2
  | [], [], u, v, _, _, h, hu, hv => ⟨h, hu, hv⟩
  | [], _ :: _, _, _, hl, _, _, _, _ => by cases hl
  | _ :: _, [], _, _, hl, _, _, _, _ => by cases hl
  | x :: xs, y :: ys, u, v, hl, hq, h, hu, hv => by
    obtain ⟨k1, k2, k3⟩ := hq (x, y) (by simp)
    refine sum_le xs ys (addU u x) (addU v y) (by simpa using hl) (fun q hm => hq q (by simp [hm])) ?_ (Int.mul_pos hu k2) (Int.mul_pos hv k3)
    unfold leF addU at *
    simp only at *
    obtain ⟨u1, u2⟩ := u
    obtain ⟨v1, v2⟩ := v
    obtain ⟨x1, x2⟩ := x
    obtain ⟨y1, y2⟩ := y
    simp only at *
    have a1 : (u1 * v2) * (x2 * y2) ≤ (v1 * u2) * (x2 * y2) := Int.mul_le_mul_of_nonneg_right h (Int.le_of_lt (Int.mul_pos k2 k3))
    have a2 : (x1 * y2) * (u2 * v2) ≤ (y1 * x2) * (u2 * v2) := Int.mul_le_mul_of_nonneg_right k1 (Int.le_of_lt (Int.mul_pos hu hv))
    have e1 : (u1 * x2 + x1 * u2) * (v2 * y2) = (u1 * v2) * (x2 * y2) + (x1 * y2) * (u2 * v2) := by grind
    have e2 : (v1 * y2 + y1 * v2) * (u2 * x2) = (v1 * u2) * (x2 * y2) + (y1 * x2) * (u2 * v2) := by grind
    rw [e1, e2]
    exact Int.add_le_add a1 a2
theorem sum_sh {s : Int} (hs : 0 < s) : ∀ (as : List Int) (u : Fr) (A : Int), Rt u.1 u.2 A s → Rt ((as.map fun a => rdF a s).foldl addU u).1 ((as.map fun a => rdF a s).foldl addU u).2 (A + as.sum) s
  | [], u, A, h => by simpa using h
  | a :: as, u, A, h => by
    rw [List.map_cons, List.foldl_cons, List.sum_cons, ← Int.add_assoc]
    refine sum_sh hs as _ (A + a) ?_
    obtain ⟨h1, h2, h3⟩ := h
    obtain ⟨k1, k2, k3⟩ := rdF_eqv (a := a) hs
    unfold addU
    simp only at *
    refine ⟨Int.mul_pos h1 k1, hs, ?_⟩
    generalize (rdF a s).1 = p at *
    generalize (rdF a s).2 = q at *
    grind
/-- shares that make one whole -/
structure Whole (ps : List Fr) : Prop where
  bn : ∀ p ∈ ps, BnF p
  one : (totU ps).1 = (totU ps).2
  pos : 0 < (totU ps).2
theorem whole_of {s : Int} {as : List Int} (hs : 0 < s) (h : s ≤ 1000) (ha : ∀ a ∈ as, 0 ≤ a ∧ a ≤ s) (hsum : as.sum = s) : Whole (as.map fun a => rdF a s) := by
  have q := sum_sh hs as (0, 1) 0 ⟨by decide, hs, by simp⟩
  rw [Int.zero_add, hsum] at q
  refine ⟨fun p hp => ?_, ?_, q.1⟩
  · obtain ⟨a, hm, rfl⟩ := List.mem_map.mp hp
    exact rdF_bn hs h (ha a hm).1 (ha a hm).2
  · obtain ⟨q1, q2, q3⟩ := q
    unfold totU
    rw [Int.mul_comm s] at q3
    exact Int.eq_of_mul_eq_mul_right (by omega) q3
/-- bounds about the shares: the sums do -/
theorem sums_of {los his shs : List Fr} (w : Whole shs) (h1 : los.length = shs.length) (h2 : his.length = shs.length) (k1 : ∀ q ∈ los.zip shs, leF q.1 q.2 ∧ 0 < q.1.2 ∧ 0 < q.2.2) (k2 : ∀ q ∈ shs.zip his, leF q.1 q.2 ∧ 0 < q.1.2 ∧ 0 < q.2.2) :
    (totU los).1 ≤ (totU los).2 ∧ (totU his).2 ≤ (totU his).1 := by
  obtain ⟨a1, a2, a3⟩ := sum_le los shs (0, 1) (0, 1) h1 k1 (by unfold leF; simp) (by decide) (by decide)
  obtain ⟨b1, b2, b3⟩ := sum_le shs his (0, 1) (0, 1) h2.symm k2 (by unfold leF; simp) (by decide) (by decide)
  have e := w.one
  have ps := w.pos
  unfold totU at *
  unfold leF at a1 b1
  generalize shs.foldl addU (0, 1) = S at *
  generalize los.foldl addU (0, 1) = L at *
  generalize his.foldl addU (0, 1) = H at *
  rw [e] at a1 b1
  constructor
  · rw [Int.mul_comm S.2] at a1
    exact Int.le_of_mul_le_mul_right a1 ps
  · rw [Int.mul_comm S.2] at b1
    exact Int.le_of_mul_le_mul_right b1 ps
section
variable {P : Program} {w : World} {K : PySem.W.Frag} {mg : Str → Option Value} {base : Heap}
/-! ### the deepest -/
def chain (m : Int) : Nat → D
  | 0 => .int m
  | n + 1 => .tup [.tup [frO (0, 1), frO (1, 1), chain m n]]
def S_deepest : SP3 := fun ds G R _ => match ds with
  | [x] => ∃ p, x = .ref p ∧ HandOk G p ∧ ∀ m G', 0 ≤ m → m ≤ 7 → HandOk G' p → Apart p G G' → R (.tup [chain m 6, .int m]) G'
  | _ => False
/-! ### ranges, shares -/
def S_range : SP3 := fun ds G R _ => match ds with
  | [x, y] => ∃ (p : Addr) (q : Fr), x = .ref p ∧ y = frO q ∧ HandOk G p ∧ BnF q ∧ ∀ lo hi G', BnF lo → BnF hi → leF lo q → leF q hi → HandOk G' p → Apart p G G' → R (.tup [frO lo, frO hi]) G'
  | _ => False
end

end K01

set_option Elab.async false
set_option linter.all false
set_option maxRecDepth 100000
set_option maxHeartbeats 0
namespace K01
open PySem PySem.Spec L2 L3
open PyProof.Rows hiding St
theorem BnF.zero : BnF (0, 1) := ⟨by decide, by decide, by decide, by decide, by decide⟩
theorem BnF.one : BnF (1, 1) := ⟨by decide, by decide, by decide, by decide, by decide⟩
/-- floor and ceiling of a share -/
theorem floor_fit {a b s : Int} (hb : 0 < b) (hs : 0 < s) (h0 : 0 ≤ a) (h1 : a ≤ b) : 0 ≤ (a * s).fdiv b ∧ (a * s).fdiv b * b ≤ a * s ∧ (a * s).fdiv b ≤ s := by
  rw [Int.fdiv_eq_ediv_of_nonneg _ (Int.le_of_lt hb)]
  have p : 0 ≤ a * s := Int.mul_nonneg h0 (Int.le_of_lt hs)
  have q1 := Int.ediv_nonneg p (Int.le_of_lt hb)
  have q2 := Int.ediv_mul_le (a * s) (show b ≠ 0 by omega)
  refine ⟨q1, q2, ?_⟩
  have q3 : a * s ≤ s * b := by
    rw [Int.mul_comm s b]
    exact Int.mul_le_mul_of_nonneg_right h1 (Int.le_of_lt hs)
  exact Int.le_of_mul_le_mul_right (Int.le_trans q2 q3) hb
theorem ceil_fit {a b s : Int} (hb : 0 < b) (hs : 0 < s) (h0 : 0 ≤ a) (h1 : a ≤ b) : a * s ≤ (0 - (0 - a * s).fdiv b) * b ∧ 0 ≤ 0 - (0 - a * s).fdiv b ∧ 0 - (0 - a * s).fdiv b ≤ s := by
  rw [Int.fdiv_eq_ediv_of_nonneg _ (Int.le_of_lt hb)]
  have q2 := Int.ediv_mul_le (0 - a * s) (show b ≠ 0 by omega)
  have q4 := Int.lt_ediv_add_one_mul_self (0 - a * s) hb
  generalize (0 - a * s) / b = k at *
  have e1 : (0 - k) * b = -(k * b) := by grind
  have p : 0 ≤ a * s := Int.mul_nonneg h0 (Int.le_of_lt hs)
  have q3 : a * s ≤ s * b := by
    rw [Int.mul_comm s b]
    exact Int.mul_le_mul_of_nonneg_right h1 (Int.le_of_lt hs)
  refine ⟨by rw [e1]; omega, ?_, ?_⟩
  · have : 0 * b ≤ (0 - k) * b := by rw [e1, Int.zero_mul]; omega
    exact Int.le_of_mul_le_mul_right this hb
  · have e2 : (k + 1) * b = k * b + b := by grind
    rw [e2] at q4
    have e3 : (0 - k) * b < (s + 1) * b := by
      have : (s + 1) * b = s * b + b := by grind
      rw [e1, this]
      omega
    have := Int.lt_of_mul_lt_mul_right e3 (Int.le_of_lt hb)
    omega
theorem leF_low {q : Fr} {low s : Int} (hq : 0 < q.2) (hs : 0 < s) (h : low * q.2 ≤ q.1 * s) : leF (rdF low s) q := by
  obtain ⟨p1, p2, p3⟩ := rdF_eqv (a := low) hs
  simp only at p3 p1
  unfold leF
  generalize (rdF low s).1 = x1 at *
  generalize (rdF low s).2 = x2 at *
  have e1 : (x1 * q.2) * s = (low * q.2) * x2 := by grind
  have e2 : (q.1 * x2) * s = (q.1 * s) * x2 := by grind
  have e3 : (low * q.2) * x2 ≤ (q.1 * s) * x2 := Int.mul_le_mul_of_nonneg_right h (Int.le_of_lt p1)
  rw [← e1, ← e2] at e3
  exact Int.le_of_mul_le_mul_right e3 hs
theorem leF_high {q : Fr} {high s : Int} (hq : 0 < q.2) (hs : 0 < s) (h : q.1 * s ≤ high * q.2) : leF q (rdF high s) := by
  obtain ⟨p1, p2, p3⟩ := rdF_eqv (a := high) hs
  simp only at p3 p1
  unfold leF
  generalize (rdF high s).1 = x1 at *
  generalize (rdF high s).2 = x2 at *
  have e1 : (x1 * q.2) * s = (high * q.2) * x2 := by grind
  have e2 : (q.1 * x2) * s = (q.1 * s) * x2 := by grind
  have e3 : (q.1 * s) * x2 ≤ (high * q.2) * x2 := Int.mul_le_mul_of_nonneg_right h (Int.le_of_lt p1)
  rw [← e1, ← e2] at e3
  exact Int.le_of_mul_le_mul_right e3 hs
theorem mem_ints {d : D} {l : List Int} (h : d ∈ l.map D.int) : ∃ i ∈ l, d = .int i := by
  obtain ⟨i, hi, e⟩ := List.mem_map.mp h
  exact ⟨i, hi, e.symm⟩
section
variable {P : Program} {w : World} {K : PySem.W.Frag} {mg : Str → Option Value} {base : Heap}
theorem ok_range (T : Tx K mg) : Good P w K mg base "_law_range" ["hand", "share"] 3 S_range := by
  have g__law_draw := ok_draw (P := P) (w := w) (base := base) T
  have g__law_any := ok_any (P := P) (w := w) (base := base) T
  have g__law_frac := ok_lfrac (P := P) (w := w) (base := base) T
  refine good_of (d__law_range T) sc__law_range fun f cd A outer s H E hp tk hgd hr => ⟨_, (s_cons (s_set 2 sc__law_range.nd rfl (.inl rfl) rfl (c_call g__law_draw (hr.mono (by omega)) hgd tk (a_cons (c_var 0) (a_cons c_int a_nil))))
      (s_cons (s_if (t_cmp (op_eq3 hr.units) lift_eq (c_var 2) c_int) (s_one (s_ret (c_tup (a_cons (c_tup (a_cons c_int (a_cons c_int a_nil))) (a_cons (c_tup (a_cons c_int (a_cons c_int a_nil))) a_nil))))) s_nil)
      (s_cons (s_if (t_w (o_and (t_cmp (op_eq3 hr.units) lift_eq (c_var 2) c_int) (o_and1 (t_cmp op_le lift_I2b (c_ix (c_var 1) c_int) c_int)))) (s_one (s_ret (c_tup (a_cons (c_var 1) (a_cons (c_var 1) a_nil))))) s_nil)
      (s_cons (s_set 3 sc__law_range.nd rfl (.inl rfl) rfl (c_op op_add3 lift_add c_int (c_call g__law_draw (hr.mono (by omega)) hgd tk (a_cons (c_var 0) (a_cons (c_call g__law_any (hr.mono (by omega)) hgd tk (a_cons (c_var 0) (a_cons (c_tup (a_cons c_int (a_cons c_int (a_cons c_int (a_cons c_int a_nil))))) a_nil))) a_nil)))))
      (s_cons (s_set 4 sc__law_range.nd rfl (.inl rfl) rfl (c_op op_fdivG lift_I2C (c_op op_mul3 lift_mul (c_ix (c_var 1) c_int) (c_var 3)) (c_ix (c_var 1) c_int)))
      (s_cons (s_set 5 sc__law_range.nd rfl (.inl rfl) rfl (c_op op_sub lift_I2i c_int (c_op op_fdivG lift_I2C (c_op op_sub lift_I2i c_int (c_op op_mul3 lift_mul (c_ix (c_var 1) c_int) (c_var 3))) (c_ix (c_var 1) c_int))))
      (s_cons (s_if (t_cmp op_lt lift_I2b (c_var 2) c_int) (s_cons (s_set 4 sc__law_range.nd rfl (.inl rfl) rfl (c_op op_sub lift_I2i (c_var 4) (c_call g__law_draw (hr.mono (by omega)) hgd tk (a_cons (c_var 0) (a_cons (c_op op_add3 lift_add c_int (c_var 4)) a_nil)))))
      (s_one (s_set 5 sc__law_range.nd rfl (.inl rfl) rfl (c_op op_add3 lift_add (c_var 5) (c_call g__law_draw (hr.mono (by omega)) hgd tk (a_cons (c_var 0) (a_cons (c_op op_sub lift_I2i (c_op op_add3 lift_add c_int (c_var 3)) (c_var 5)) a_nil))))))) s_nil)
      (s_one (s_ret (c_tup (a_cons (c_call g__law_frac (hr.mono (by omega)) hgd tk (a_cons (c_var 4) (a_cons (c_var 3) a_nil))) (a_cons (c_call g__law_frac (hr.mono (by omega)) hgd tk (a_cons (c_var 5) (a_cons (c_var 3) a_nil))) a_nil)))))))))))), fun ds G R Ex hlen hS => ?_⟩
  clear hp tk hgd hr hlen
  match ds, hS with
  | [x, y], ⟨p, q, e1, e2, hH, hq, hR⟩ =>
    subst e1 e2
    rw [show start3 ["hand", "share", "kind", "scale", "low", "high"] [.ref p, frO q] = [some (.ref p), some (frO q), none, none, none, none] from rfl]
    obtain ⟨a, b⟩ := q
    obtain ⟨b1, b2, b3, b4, b5⟩ := id hq
    simp only at b1 b2 b3 b4 b5
    have s2 : (2 : Nat) ≤ sizeLine := sizeLine_eq ▸ (by decide)
    have s4 : (4 : Nat) ≤ sizeLine := sizeLine_eq ▸ (by decide)
    simp only [wExpr, wRaise, gSb, wSeq, wNext, wRet, wRetN, wExpr, wIfS, wSet, wAsg, wPar, wAug, w1, w2, wA, aNil, aCons, wVar, wVarT, wC, tOfW, w3c, wAnd, wOr, wNot, tAnd3, tOr3, tNot3, wIf, wTup, wLst, wLstO, wCall, wSl, pNone, pSome, wipe3, List.map_cons, List.map_nil, fI2, fI2C, fI1, fAbs, addI, mulI, intI, eqS, neS, isN_, notN_, L3.isNon, gN, gsN, gsC, gT, asT, at3, List.set_cons_zero, List.set_cons_succ, Option.some.injEq, exists_eq_left', D.bl.injEq, D.int.injEq, D.tup.injEq, List.length_cons, List.length_nil, Nat.reduceAdd, true_and, if_true, if_false, Bool.false_eq_true, reduceIte, ite_true, ite_false, len_t0, len_t1, len_t2, len_t3, len_l0, len_l1, eqI, neI, Int.reduceBEq, Int.reduceLT, Int.reduceLE, Int.reduceNeg, decide_true, decide_false, Bool.not_true, Bool.not_false, ix0, ix1, ix2, and_true, and_self, S_draw, S_any, S_fraction, frO, s2, s4]
    refine ⟨p, 7, rfl, rfl, hH, by decide, by decide, fun k G1 k1 k2 hH1 hA1 => ?_⟩
    cases c1 : k == 0 with
    | true =>
      simp only [if_true]
      refine hR (0, 1) (1, 1) G1 BnF.zero BnF.one ?_ ?_ hH1 hA1
      · unfold leF; simp only; omega
      · unfold leF; simp only; omega
    | false =>
      simp only [Bool.false_eq_true, if_false]
      cases c2 : k == 1 with
      | true =>
        have cb : decide (b ≤ 1000) = true := by rw [decide_eq_true_eq]; exact b2
        simp only [if_true, cb]
        exact hR (a, b) (a, b) G1 hq hq (Int.le_refl _) (Int.le_refl _) hH1 hA1
      | false =>
        simp only [Bool.false_eq_true, if_false]
        refine ⟨p, [.int 4, .int 12, .int 12, .int 1000], rfl, by simp, hH1, rfl, by simp, by simp, fun d G2 hd hH2 hA2 => ?_⟩
        obtain ⟨m, rfl, m1, m2⟩ : ∃ m : Int, d = .int m ∧ 4 ≤ m ∧ m ≤ 1000 := by
          simp only [List.mem_cons, List.not_mem_nil, or_false] at hd
          rcases hd with rfl | rfl | rfl | rfl <;> exact ⟨_, rfl, by decide, by decide⟩
        refine ⟨p, m, rfl, rfl, hH2, by omega, by omega, fun r G3 r1 r2 hH3 hA3 => ?_⟩
        have hA := (hA1.trans hA2).trans hA3
        generalize hs : 1 + r = s
        have s0 : 0 < s := by omega
        have s1 : s ≤ 1000 := by omega
        obtain ⟨f1, f2, f3⟩ := floor_fit b1 s0 b3 b4
        obtain ⟨g1, g2, g3⟩ := ceil_fit b1 s0 b3 b4
        generalize (a * s).fdiv b = low at *
        generalize 0 - (0 - a * s).fdiv b = high at *
        refine ⟨MulC.l (by omega) (by omega), DivC.small b1 (by omega), MulC.l (by omega) (by omega), DivC.small b1 (by omega), ?_⟩
        have fin : ∀ (lo hi : Int) (G' : GH), 0 ≤ lo → lo ≤ low → high ≤ hi → hi ≤ s → HandOk G' p → Apart p G G' →
            (0 < s ∧ Bd lo ∧ Bd s ∧ 0 < s ∧ Bd hi ∧ Bd s ∧ R (.tup [frD lo s, frD hi s]) G') := by
          intro lo hi G' l1 l2 l3 l4 h1 h2
          refine ⟨s0, Bd.small (by omega) (by omega), Bd.small (by omega) (by omega), s0, Bd.small (by omega) (by omega), Bd.small (by omega) (by omega), ?_⟩
          refine hR (rdF lo s) (rdF hi s) G' (rdF_bn s0 s1 l1 (by omega)) (rdF_bn s0 s1 (by omega) l4) (leF_low b1 s0 ?_) (leF_high b1 s0 ?_) h1 h2
          · exact Int.le_trans (Int.mul_le_mul_of_nonneg_right l2 (Int.le_of_lt b1)) f2
          · exact Int.le_trans g1 (Int.mul_le_mul_of_nonneg_right l3 (Int.le_of_lt b1))
        cases c3 : decide (k < 5) with
        | false =>
          simp only [Bool.false_eq_true, if_false]
          exact fin low high G3 f1 (Int.le_refl _) (Int.le_refl _) g3 hH3 hA
        | true =>
          simp only [if_true]
          refine ⟨p, _, rfl, rfl, hH3, by omega, by omega, fun r' G4 q1 q2 hH4 hA4 => ?_⟩
          refine ⟨p, _, rfl, rfl, hH4, by omega, by omega, fun r2' G5 q3 q4 hH5 hA5 => ?_⟩
          exact fin _ _ G5 (by omega) (by omega) (by omega) (by omega) hH5 ((hA.trans hA4).trans hA5)
def S_shares : SP3 := fun ds G R _ => match ds with
  | [x, y] => ∃ (p : Addr) (m : Int), x = .ref p ∧ y = .int m ∧ HandOk G p ∧ 1 ≤ m ∧ m ≤ 100 ∧ ∀ (ps : List Fr) G', Whole ps → (ps.length : Int) = m → HandOk G' p → Apart p G G' → R (.lst (ps.map frO)) G'
  | _ => False
theorem lp_shares {g : G3} {bb : S3} {E : E3} {v0 v1 : Option D} {G0 : GH} {q p : Addr} {scale : Int}
    (Hyp : ∀ (t : D) (left : Int) (as : List Int) (u5 u6 : Option D) (E : E3) (G' : GH), 0 ≤ left → left ≤ 1000 → as.length < 1000 → HandOk G' p → Apart p G0 G' → G' q = some (.lst (as.map D.int)) →
      (∀ r G2 u5, 0 ≤ r → r ≤ left → HandOk G2 p → Apart p G0 G2 → G2 q = some (.lst ((as ++ [r]).map D.int)) → E.nx [v0, v1, some (.int scale), some (.int (left - r)), some (.ref q), u5, u6] G2) →
      g t [v0, v1, some (.int scale), some (.int left), some (.ref q), u5, u6] G' fun env1 G1 => bb E env1 G1) :
    ∀ (ds : List D) (left : Int) (as : List Int) (u5 u6 : Option D) (G' : GH), 0 ≤ left → left + as.sum = scale → scale ≤ 1000 → (∀ a ∈ as, 0 ≤ a ∧ a ≤ scale) → as.length + ds.length < 1000 → HandOk G' p → Apart p G0 G' → G' q = some (.lst (as.map D.int)) →
      (∀ (left' : Int) (as' : List Int) u5 G2, 0 ≤ left' → left' + as'.sum = scale → (∀ a ∈ as', 0 ≤ a ∧ a ≤ scale) → as'.length = as.length + ds.length → HandOk G2 p → Apart p G0 G2 → G2 q = some (.lst (as'.map D.int)) → E.nx [v0, v1, some (.int scale), some (.int left'), some (.ref q), u5, u6] G2) →
      lp (fun _ => True) g bb E ds [v0, v1, some (.int scale), some (.int left), some (.ref q), u5, u6] G'
  | [], left, as, u5, u6, G', h0, h1, _, h2, _, h3, h4, h5, h => ⟨trivial, h left as u5 G' h0 h1 h2 rfl h3 h4 h5⟩
  | t :: ds, left, as, u5, u6, G', h0, h1, hs, h2, hl, h3, h4, h5, h => by
    rw [List.length_cons] at hl
    have nn : 0 ≤ as.sum := by
      clear h1 h5 h hl
      induction as with
      | nil => exact Int.le_refl 0
      | cons a as ih =>
        rw [List.sum_cons]
        have := ih fun b hb => h2 b (by simp [hb])
        have := (h2 a (by simp)).1
        omega
    refine ⟨trivial, Hyp t left as u5 u6 _ G' h0 (by omega) (by omega) h3 h4 h5 fun r G2 u5' r1 r2 k1 k2 k3 => ?_⟩
    refine lp_shares Hyp ds (left - r) (as ++ [r]) u5' u6 G2 (by omega) (by rw [List.sum_append, List.sum_singleton]; omega) hs (fun a ha => ?_) (by rw [List.length_append, List.length_singleton]; omega) k1 k2 k3 fun left' as' a5 G3 m1 m2 m3 m4 m5 m6 m7 => h left' as' a5 G3 m1 m2 m3 (by rw [m4, List.length_append, List.length_singleton, List.length_cons]; omega) m5 m6 m7
    rcases List.mem_append.mp ha with z | z
    · exact h2 a z
    · rw [List.mem_singleton] at z
      omega
theorem perm_sum {l m : List Int} (h : l.Perm m) : l.sum = m.sum := by
  induction h with
  | nil => rfl
  | cons a _ ih => rw [List.sum_cons, List.sum_cons, ih]
  | swap a b l => simp only [List.sum_cons]; omega
  | trans _ _ i1 i2 => exact i1.trans i2
theorem perm_ints {fs : List D} {l : List Int} (h : fs.Perm (l.map D.int)) : ∃ m : List Int, fs = m.map D.int ∧ m.Perm l := by
  refine ⟨fs.map intOf, ?_, ?_⟩
  · rw [List.map_map]
    have : ∀ x ∈ fs, (D.int ∘ intOf) x = x := fun x hx => by
      obtain ⟨i, _, rfl⟩ := mem_ints (h.mem_iff.mp hx)
      rfl
    rw [List.map_congr_left this, List.map_id']
  · have q := h.map intOf
    rw [List.map_map] at q
    have : (l.map (intOf ∘ D.int)) = l := by
      have : ∀ x ∈ l, (intOf ∘ D.int) x = x := fun x _ => rfl
      rw [List.map_congr_left this, List.map_id']
    rw [this] at q
    exact q
theorem ok_shares (T : Tx K mg) : Good P w K mg base "_law_shares" ["hand", "many"] 3 S_shares := by
  have g__law_draw := ok_draw (P := P) (w := w) (base := base) T
  have g__law_any := ok_any (P := P) (w := w) (base := base) T
  have g__law_mixed := ok_mixed (P := P) (w := w) (base := base) T
  have g__law_frac := ok_lfrac (P := P) (w := w) (base := base) T
  refine good_of (d__law_shares T) sc__law_shares fun f cd A outer s H E hp tk hgd hr => ⟨_, (s_cons (s_set 2 sc__law_shares.nd rfl (.inr rfl) rfl (c_call g__law_any (hr.mono (by omega)) hgd tk (a_cons (c_var 0) (a_cons (c_tup (a_cons c_int (a_cons c_int (a_cons c_int (a_cons c_int (a_cons c_int (a_cons c_int (a_cons c_int (a_cons c_int a_nil))))))))) a_nil))))
      (s_cons (s_par 3 4 rfl sc__law_shares.nd rfl rfl (by decide) rfl rfl (a_cons (c_var 2) (a_cons (c_lstO a_nil) a_nil)) rfl)
      (s_cons (s_for hp rfl (i_rg1 (n_range T) (c_op op_sub lift_I2i (c_var 1) c_int)) (g_name 5 sc__law_shares.nd rfl (.inl rfl)) (s_cons (s_expr (c_bm PySem.F.plainAttrs_list PySem.F.slot_list_append PySem.F.type_list_append mt_append m_append (c_var 4) (a_cons (c_call g__law_draw (hr.mono (by omega)) hgd tk (a_cons (c_var 0) (a_cons (c_op op_add3 lift_add (c_var 3) c_int) a_nil))) a_nil)))
      (s_one (s_set 3 sc__law_shares.nd rfl (.inl rfl) rfl (c_op op_sub lift_I2i (c_var 3) (c_ix (c_var 4) (c_un un_neg lift_I1 c_int)))))))
      (s_one (s_ret (c_lc [("one", 6)] rfl sc__law_shares.nd (i_lst (c_call g__law_mixed (hr.mono (by omega)) hgd tk (a_cons (c_var 0) (a_cons (c_op op_add3 lift_add (c_varZ 4) (c_lst (a_cons (c_var 3) a_nil))) a_nil)))) (blkOk_by (by kernel_rfl)) (by decide) (fun _ _ _ _ _ => (g_name 6 sc__law_shares.nd rfl (.inl rfl))) (fun _ _ _ _ _ => ts_nil) (fun _ _ _ _ _ => (c_call g__law_frac (hr.mono (by omega)) hgd takes0 (a_cons (c_var 6) (a_cons (c_var 2) a_nil)))))))))), fun ds G R Ex hlen hS => ?_⟩
  clear hp tk hgd hr hlen
  match ds, hS with
  | [x, y], ⟨p, m, e1, e2, hH, hm1, hm2, hR⟩ =>
    subst e1 e2
    rw [show start3 ["hand", "many", "scale", "left", "found", "turn", "one"] [.ref p, .int m] = [some (.ref p), some (.int m), none, none, none, none, none] from rfl]
    have s8 : (8 : Nat) ≤ sizeLine := sizeLine_eq ▸ (by decide)
    simp only [wExpr, wRaise, gSb, wSeq, wNext, wRet, wRetN, wExpr, wIfS, wSet, wAsg, wPar, wAug, w1, w2, wA, aNil, aCons, wVar, wVarT, wC, tOfW, w3c, wAnd, wOr, wNot, tAnd3, tOr3, tNot3, wIf, wTup, wLst, wLstO, wCall, wSl, pNone, pSome, wipe3, List.map_cons, List.map_nil, fI2, fI2C, fI1, fAbs, addI, mulI, intI, eqS, neS, isN_, notN_, L3.isNon, gN, gsN, gsC, gT, asT, at3, List.set_cons_zero, List.set_cons_succ, Option.some.injEq, exists_eq_left', D.bl.injEq, D.int.injEq, D.tup.injEq, List.length_cons, List.length_nil, Nat.reduceAdd, true_and, if_true, if_false, Bool.false_eq_true, reduceIte, ite_true, ite_false, len_t0, len_t1, len_t2, len_t3, len_l0, len_l1, eqI, neI, Int.reduceBEq, Int.reduceLT, Int.reduceLE, Int.reduceNeg, decide_true, decide_false, Bool.not_true, Bool.not_false, ix0, ix1, ix2, and_true, and_self, S_any, s8]
    refine ⟨p, [.int 1, .int 2, .int 4, .int 6, .int 10, .int 12, .int 60, .int 997], rfl, by simp, hH, rfl, by simp, by simp, fun d G1 hd hH1 hA1 => ?_⟩
    obtain ⟨s, rfl, s1, s2⟩ : ∃ s : Int, d = .int s ∧ 1 ≤ s ∧ s ≤ 1000 := by
      simp only [List.mem_cons, List.not_mem_nil, or_false] at hd
      rcases hd with rfl | rfl | rfl | rfl | rfl | rfl | rfl | rfl <;> exact ⟨_, rfl, by decide, by decide⟩
    refine ⟨Nat.zero_le _, fun q hq => ?_⟩
    have hqp : q ≠ p := hH1.ne hq
    simp only [wExpr, wRaise, gSb, wSeq, wNext, wRet, wRetN, wExpr, wIfS, wSet, wAsg, wPar, wAug, w1, w2, wA, aNil, aCons, wVar, wVarT, wC, tOfW, w3c, wAnd, wOr, wNot, tAnd3, tOr3, tNot3, wIf, wTup, wLst, wLstO, wCall, wSl, pNone, pSome, wipe3, List.map_cons, List.map_nil, fI2, fI2C, fI1, fAbs, addI, mulI, intI, eqS, neS, isN_, notN_, L3.isNon, gN, gsN, gsC, gT, asT, at3, List.set_cons_zero, List.set_cons_succ, Option.some.injEq, exists_eq_left', D.bl.injEq, D.int.injEq, D.tup.injEq, List.length_cons, List.length_nil, Nat.reduceAdd, true_and, if_true, if_false, Bool.false_eq_true, reduceIte, ite_true, ite_false, len_t0, len_t1, len_t2, len_t3, len_l0, len_l1, eqI, neI, Int.reduceBEq, Int.reduceLT, Int.reduceLE, Int.reduceNeg, decide_true, decide_false, Bool.not_true, Bool.not_false, ix0, ix1, ix2, and_true, and_self, wFor, iRg1]
    refine ⟨by omega, by omega, ?_⟩
    generalize hds : ((List.range (m - 1).toNat).map fun i : Nat => D.int (0 + i)) = dsr
    have hlen : dsr.length = (m - 1).toNat := by rw [← hds, List.length_map, List.length_range]
    refine lp_shares (p := p) (q := q) (G0 := G1) (scale := s) ?_ dsr s [] none none _ (by omega) (by simp) s2 (fun a ha => by cases ha) (by simp; omega) (hH1.new hqp) (Apart.refl.new hq) gset_same ?_
    · intro t left as u5 u6 E G' l0 l1 la hH' hA' hg hE
      simp only [wExpr, wRaise, gSb, wSeq, wNext, wRet, wRetN, wExpr, wIfS, wSet, wAsg, wPar, wAug, w1, w2, wA, aNil, aCons, wVar, wVarT, wC, tOfW, w3c, wAnd, wOr, wNot, tAnd3, tOr3, tNot3, wIf, wTup, wLst, wLstO, wCall, wSl, pNone, pSome, wipe3, List.map_cons, List.map_nil, fI2, fI2C, fI1, fAbs, addI, mulI, intI, eqS, neS, isN_, notN_, L3.isNon, gN, gsN, gsC, gT, asT, at3, List.set_cons_zero, List.set_cons_succ, Option.some.injEq, exists_eq_left', D.bl.injEq, D.int.injEq, D.tup.injEq, List.length_cons, List.length_nil, Nat.reduceAdd, true_and, if_true, if_false, Bool.false_eq_true, reduceIte, ite_true, ite_false, len_t0, len_t1, len_t2, len_t3, len_l0, len_l1, eqI, neI, Int.reduceBEq, Int.reduceLT, Int.reduceLE, Int.reduceNeg, decide_true, decide_false, Bool.not_true, Bool.not_false, ix0, ix1, ix2, and_true, and_self, S_draw, wM]
      refine ⟨by unfold L3.cL; rw [asL_ref hg]; rfl, p, left + 1, rfl, rfl, hH', by omega, by omega, fun r G2 r1 r2 hH2 hA2 => ?_⟩
      have g2 : G2 q = some (.lst (as.map D.int)) := (hA2 q hqp (by rw [hg]; simp)).trans hg
      refine ⟨as.map D.int, g2, by rw [List.length_map, sizeLine_eq]; omega, ?_⟩
      have g3 : gset G2 q (.lst (as.map D.int ++ [.int r])) q = some (.lst (as.map D.int ++ [.int r])) := gset_same
      have hix : atD (as.map D.int ++ [.int r]) (-1) = some (.int r) := by
        unfold atD L2.atI L2.ixN
        rw [if_neg (by decide), if_pos (by rw [List.length_append, List.length_singleton]; omega)]
        have e : ((-1 : Int) + ((as.map D.int ++ [D.int r]).length : Nat)).toNat = (as.map D.int).length := by
          rw [List.length_append, List.length_singleton]
          omega
        show (as.map D.int ++ [D.int r])[((-1 : Int) + ((as.map D.int ++ [D.int r]).length : Nat)).toNat]? = _
        rw [e, List.getElem?_append_right (Nat.le_refl _), Nat.sub_self]
        rfl
      dsimp only
      rw [ix_ref g3 hix]
      refine hE r _ _ r1 (by omega) (hH2.new hqp) ((hA'.trans hA2).new hq) ?_
      rw [List.map_append]
      exact gset_same
    · intro left' as' u5 G2 l0 l1 l2 l3 hH2 hA2 hg
      simp only [wExpr, wRaise, gSb, wSeq, wNext, wRet, wRetN, wExpr, wIfS, wSet, wAsg, wPar, wAug, w1, w2, wA, aNil, aCons, wVar, wVarT, wC, tOfW, w3c, wAnd, wOr, wNot, tAnd3, tOr3, tNot3, wIf, wTup, wLst, wLstO, wCall, wSl, pNone, pSome, wipe3, List.map_cons, List.map_nil, fI2, fI2C, fI1, fAbs, addI, mulI, intI, eqS, neS, isN_, notN_, L3.isNon, gN, gsN, gsC, gT, asT, at3, List.set_cons_zero, List.set_cons_succ, Option.some.injEq, exists_eq_left', D.bl.injEq, D.int.injEq, D.tup.injEq, List.length_cons, List.length_nil, Nat.reduceAdd, true_and, if_true, if_false, Bool.false_eq_true, reduceIte, ite_true, ite_false, len_t0, len_t1, len_t2, len_t3, len_l0, len_l1, eqI, neI, Int.reduceBEq, Int.reduceLT, Int.reduceLE, Int.reduceNeg, decide_true, decide_false, Bool.not_true, Bool.not_false, ix0, ix1, ix2, and_true, and_self, S_mixed, wLc, iLst]
      have hcat : ((as' ++ [left']).map D.int).length < 4000 := by
        rw [List.length_map, List.length_append, List.length_singleton]
        simp only [List.length_nil] at l3
        omega
      refine ⟨q, as'.map D.int, rfl, hg, sizeLine_eq ▸ (by decide), ?_⟩
      refine add_lst (by rw [List.length_map, sizeLine_eq]; simp only [List.length_nil] at l3; simp only [List.length_cons, List.length_nil]; omega) ?_
      have e : as'.map D.int ++ [D.int left'] = (as' ++ [left']).map D.int := by rw [List.map_append]; rfl
      rw [e]
      refine ⟨p, (as' ++ [left']).map D.int, rfl, by simp, hH2.del hqp, rfl, hcat, fun fs G3 pf hH3 hA3 => ?_⟩
      obtain ⟨bs, rfl, pb⟩ := perm_ints pf
      have hb : ∀ b ∈ bs, 0 ≤ b ∧ b ≤ s := fun b hb => by
        rcases List.mem_append.mp (pb.mem_iff.mp hb) with z | z
        · exact l2 b z
        · rw [List.mem_singleton] at z
          have nn : ∀ l : List Int, (∀ a ∈ l, 0 ≤ a ∧ a ≤ s) → 0 ≤ l.sum := fun l => by
            induction l with
            | nil => intro _; exact Int.le_refl 0
            | cons a l ih =>
              intro h
              rw [List.sum_cons]
              have := ih fun b hb => h b (by simp [hb])
              have := (h a (by simp)).1
              omega
          have := nn as' l2
          omega
      have hbs : bs.sum = s := by
        rw [perm_sum pb, List.sum_append, List.sum_singleton]
        omega
      have hbl : bs.length = as'.length + 1 := by
        rw [pb.length_eq, List.length_append, List.length_singleton]
      refine ⟨bs.map D.int, rfl, ?_⟩
      refine lcm (fun d => frO (rdF (intOf d) s)) (fun _ _ => trivial) (by rw [List.length_map, sizeLine_eq]; simp only [List.length_nil] at l3; omega) ?_ ?_
      · intro d hd pp acc Q hpp hQ
        obtain ⟨b, hb', rfl⟩ := mem_ints hd
        have := hb b hb'
        simp only [wExpr, wRaise, gSb, wSeq, wNext, wRet, wRetN, wExpr, wIfS, wSet, wAsg, wPar, wAug, w1, w2, wA, aNil, aCons, wVar, wVarT, wC, tOfW, w3c, wAnd, wOr, wNot, tAnd3, tOr3, tNot3, wIf, wTup, wLst, wLstO, wCall, wSl, pNone, pSome, wipe3, List.map_cons, List.map_nil, fI2, fI2C, fI1, fAbs, addI, mulI, intI, eqS, neS, isN_, notN_, L3.isNon, gN, gsN, gsC, gT, asT, at3, List.set_cons_zero, List.set_cons_succ, Option.some.injEq, exists_eq_left', D.bl.injEq, D.int.injEq, D.tup.injEq, List.length_cons, List.length_nil, Nat.reduceAdd, true_and, if_true, if_false, Bool.false_eq_true, reduceIte, ite_true, ite_false, len_t0, len_t1, len_t2, len_t3, len_l0, len_l1, eqI, neI, Int.reduceBEq, Int.reduceLT, Int.reduceLE, Int.reduceNeg, decide_true, decide_false, Bool.not_true, Bool.not_false, ix0, ix1, ix2, and_true, and_self, S_fraction]
        exact ⟨by omega, Bd.small (by omega) (by omega), Bd.small (by omega) (by omega), hQ⟩
      · have e2 : (bs.map D.int).map (fun d => frO (rdF (intOf d) s)) = (bs.map fun b => rdF b s).map frO := by
          rw [List.map_map, List.map_map]
          rfl
        rw [e2]
        refine hR _ G3 (whole_of (by omega) s2 hb hbs) (by rw [List.length_map, hbl, l3, hlen]; simp; omega) hH3 ((hA1.trans (hA2.del hq)).trans hA3)
end

end K01

set_option Elab.async false
set_option linter.all false
set_option maxRecDepth 100000
set_option maxHeartbeats 0
namespace K01
open PySem PySem.Spec L2 L3
open PyProof.Rows hiding St
/-! ### what is made is a recipe -/
structure RecOk (L : List Int) (k : Nat) (x : D) : Prop where
  lk_ : ∃ d l, lk x = some (d, l) ∧ l.Perm L ∧ d ≤ k
  sane : saneD x = true
  ty : tyB x = true
  ht : htD x ≤ 2 * k + 1
  dp : dpD x ≤ 2 * k + 1
  wt : wtD x ≤ L.length * (1 + 8 * k)
def PtOk1 (k : Nat) (x : D) (L : List Int) (s : Fr) : Prop := ∃ lo hi t, x = .tup [frO lo, frO hi, t] ∧ BnF lo ∧ BnF hi ∧ leF lo s ∧ leF s hi ∧ 0 < s.2 ∧ RecOk L k t
def PtsOk (k : Nat) : List D → List (List Int) → List Fr → Prop
  | [], [], [] => True
  | x :: xs, L :: Ls, s :: ss => PtOk1 k x L s ∧ PtsOk k xs Ls ss
  | _, _, _ => False
theorem PtsOk.snoc {k : Nat} {x : D} {L : List Int} {s : Fr} (h : PtOk1 k x L s) : ∀ {xs : List D} {Ls : List (List Int)} {ss : List Fr}, PtsOk k xs Ls ss → PtsOk k (xs ++ [x]) (Ls ++ [L]) (ss ++ [s])
  | [], [], [], _ => ⟨h, trivial⟩
  | _ :: _, _ :: _, _ :: _, ⟨a, b⟩ => ⟨a, PtsOk.snoc h b⟩
  | [], [], _ :: _, z => z.elim
  | [], _ :: _, _, z => z.elim
  | _ :: _, [], _, z => z.elim
  | _ :: _, _ :: _, [], z => z.elim
theorem BnF.tiny {p : Fr} (h : BnF p) : saneD (frO p) = true ∧ tyB (frO p) = true ∧ htD (frO p) = 1 ∧ dpD (frO p) = 1 ∧ wtD (frO p) = 3 := by
  obtain ⟨h1, h2, h3, h4, _⟩ := h
  refine ⟨?_, ?_, rfl, rfl, rfl⟩
  · show (wordB p.1 && (wordB p.2 && true)) = true
    unfold wordB
    simp only [Bool.and_true, Bool.and_eq_true, decide_eq_true_eq]
    omega
  · show (intTiny p.1 && (intTiny p.2 && true)) = true
    unfold intTiny
    simp only [Bool.and_true, Bool.and_eq_true, decide_eq_true_eq]
    omega
theorem leF.trans {x y z : Fr} (a : leF x y) (b : leF y z) (hx : 0 < x.2) (hy : 0 < y.2) (hz : 0 < z.2) : leF x z := by
  unfold leF at *
  have a1 : x.1 * y.2 * z.2 ≤ y.1 * x.2 * z.2 := Int.mul_le_mul_of_nonneg_right a (Int.le_of_lt hz)
  have b1 : y.1 * z.2 * x.2 ≤ z.1 * y.2 * x.2 := Int.mul_le_mul_of_nonneg_right b (Int.le_of_lt hx)
  have e1 : y.1 * x.2 * z.2 = y.1 * z.2 * x.2 := by grind
  have e2 : x.1 * y.2 * z.2 = (x.1 * z.2) * y.2 := by grind
  have e3 : z.1 * y.2 * x.2 = (z.1 * x.2) * y.2 := by grind
  rw [e1] at a1
  have c := Int.le_trans a1 b1
  rw [e2, e3] at c
  exact Int.le_of_mul_le_mul_right c hy
theorem PtOk1.part {k : Nat} {x : D} {L : List Int} {s : Fr} (h : PtOk1 k x L s) : partOk x = true := by
  obtain ⟨lo, hi, t, rfl, b1, b2, l1, l2, hs, _⟩ := h
  show partAt (frO lo) (frO hi) = true
  unfold partAt
  rw [b1.bnd.1, b2.bnd.1]
  simp only [Bool.and_self, Bool.true_and, decide_eq_true_eq]
  exact leF.trans l1 l2 b1.1 hs b2.1
theorem pts_all {k : Nat} : ∀ {xs : List D} {Ls : List (List Int)} {ss : List Fr}, PtsOk k xs Ls ss →
    (∀ x ∈ xs, partOk x = true) ∧ (∃ e l, lkL xs = some (e, l) ∧ l.Perm Ls.flatten ∧ e ≤ k) ∧ saneL xs = true ∧ tyBL xs = true ∧ htL xs ≤ 2 * k + 2 ∧ dpL xs ≤ 2 * k + 2 ∧ wtL xs ≤ 7 * xs.length + Ls.flatten.length * (1 + 8 * k) ∧
    xs.length = ss.length ∧ (∀ q ∈ (xs.map fun x => ptD (lowD x)).zip ss, leF q.1 q.2 ∧ 0 < q.1.2 ∧ 0 < q.2.2) ∧ (∀ q ∈ ss.zip (xs.map fun x => ptD (highD x)), leF q.1 q.2 ∧ 0 < q.1.2 ∧ 0 < q.2.2)
  | [], [], [], _ => ⟨(fun x hx => by cases hx), ⟨0, [], rfl, List.Perm.refl _, Nat.zero_le _⟩, rfl, rfl, Nat.zero_le _, Nat.zero_le _, Nat.zero_le _, rfl, (fun q hq => by cases hq), (fun q hq => by cases hq)⟩
  | x :: xs, L :: Ls, s :: ss, ⟨a, b⟩ => by
    have hp := a.part
    obtain ⟨i1, ⟨e, l, i2, i3, i4⟩, i5, i6, i7, i8, i9, i10, i11, i12⟩ := pts_all b
    obtain ⟨lo, hi, t, rfl, b1, b2, l1, l2, hs, rk⟩ := a
    obtain ⟨d, m, k1, k2, k3⟩ := rk.lk_
    obtain ⟨lo1, lo2, lo3, lo4, lo5⟩ := b1.tiny
    obtain ⟨hi1, hi2, hi3, hi4, hi5⟩ := b2.tiny
    have r1 := rk.ht
    have r2 := rk.dp
    have r3 := rk.wt
    refine ⟨?_, ⟨max d e, m ++ l, ?_, ?_, by omega⟩, ?_, ?_, ?_, ?_, ?_, ?_, ?_, ?_⟩
    · intro y hy
      rcases List.mem_cons.mp hy with z | z
      · rw [z]; exact hp
      · exact i1 y z
    · simp only [lkL, lkP, lkT]
      rw [k1, i2]
    · rw [List.flatten_cons]
      exact k2.append i3
    · simp only [saneL, saneD, lo1, hi1, rk.sane, i5, Bool.and_self]
    · simp only [tyBL, tyB, lo2, hi2, rk.ty, i6, Bool.and_self]
    · simp only [htL, htD, lo3, hi3]
      omega
    · simp only [dpL, dpD, lo4, hi4]
      omega
    · simp only [wtL, wtD, lo5, hi5, List.length_cons, List.flatten_cons, List.length_append, Nat.add_mul L.length]
      omega
    · simp only [List.length_cons, i10]
    · intro q hq
      rw [List.map_cons, List.zip_cons_cons] at hq
      rcases List.mem_cons.mp hq with z | z
      · rw [z]
        exact ⟨l1, b1.1, hs⟩
      · exact i11 q z
    · intro q hq
      rw [List.map_cons, List.zip_cons_cons] at hq
      rcases List.mem_cons.mp hq with z | z
      · rw [z]
        exact ⟨l2, hs, b2.1⟩
      · exact i12 q z
  | [], [], _ :: _, z => z.elim
  | [], _ :: _, _, z => z.elim
  | _ :: _, [], _, z => z.elim
  | _ :: _, _ :: _, [], z => z.elim
theorem rec_tup {k : Nat} {L : List Int} {xs : List D} {Ls : List (List Int)} {ss : List Fr} (h : PtsOk k xs Ls ss) (w : Whole ss) (h1 : 1 ≤ xs.length) (h8 : xs.length ≤ 8) (hl : xs.length ≤ L.length) (hp : Ls.flatten.Perm L) : RecOk L (k + 1) (.tup xs) := by
  obtain ⟨i1, ⟨e, l, i2, i3, i4⟩, i5, i6, i7, i8, i9, i10, i11, i12⟩ := pts_all h
  have so : sumsOk xs = true := by
    obtain ⟨s1, s2⟩ := sums_of w (by rw [List.length_map, i10]) (by rw [List.length_map, i10]) i11 i12
    unfold sumsOk
    simp only [Bool.and_eq_true, decide_eq_true_eq]
    exact ⟨s1, s2⟩
  have hf : fitLen xs.length = true := by
    unfold fitLen
    simp only [Bool.and_eq_true, decide_eq_true_eq]
    exact ⟨h1, h8⟩
  have ha : xs.all partOk = true := List.all_eq_true.mpr i1
  refine ⟨⟨e + 1, l, ?_, i3.trans hp, by omega⟩, i5, i6, ?_, ?_, ?_⟩
  · simp only [lk, hf, ha, so, Bool.and_self, if_true, i2, Option.map_some]
  · simp only [htD]
    omega
  · simp only [dpD]
    omega
  · have := hp.length_eq
    simp only [wtD]
    rw [this] at i9
    have e2 : L.length * (1 + 8 * (k + 1)) = L.length * (1 + 8 * k) + 8 * L.length := by grind
    rw [e2]
    omega
/-! ### the groups -/
structure GS (G0 G : GH) (p g : Addr) (qs : List Addr) (Ls : List (List Int)) : Prop where
  hand : HandOk G p
  apart : Apart p G0 G
  gr : G g = some (.lst (qs.map D.ref))
  len : qs.length = Ls.length
  each : ∀ (i : Nat) (q : Addr) (M : List Int), qs[i]? = some q → Ls[i]? = some M → G q = some (.lst (M.map D.int))
  new : ∀ q ∈ qs, G0 q = none ∧ q ≠ g
  nd : qs.Nodup
  g0 : G0 g = none
theorem GS.old {G0 G : GH} {p g q : Addr} {qs : List Addr} {Ls : List (List Int)} (s : GS G0 G p g qs Ls) (h : G q = none) : G0 q = none ∧ q ≠ p ∧ q ≠ g ∧ q ∉ qs := by
  have hqp := s.hand.ne h
  refine ⟨?_, hqp, fun e => ?_, fun hm => ?_⟩
  · cases z : G0 q with
    | none => rfl
    | some o =>
      have := s.apart q hqp (by rw [z]; simp)
      rw [h, z] at this
      cases this
  · rw [e, s.gr] at h
    cases h
  · obtain ⟨i, hi, e⟩ := List.mem_iff_getElem.mp hm
    have hl : i < Ls.length := by rw [← s.len]; exact hi
    have := s.each i q Ls[i] (by rw [List.getElem?_eq_getElem hi, e]) (List.getElem?_eq_getElem hl)
    rw [h] at this
    cases this
theorem GS.add {G0 G : GH} {p g q : Addr} {qs : List Addr} {Ls : List (List Int)} {b : Int} (s : GS G0 G p g qs Ls) (h : G q = none) : GS G0 (gset (gset G q (.lst [.int b])) g (.lst (qs.map D.ref ++ [.ref q]))) p g (qs ++ [q]) (Ls ++ [[b]]) := by
  obtain ⟨h0, h1, h2, h3⟩ := s.old h
  have hg : g ≠ p := s.hand.ne_refs s.gr
  refine ⟨(s.hand.new h1).new hg, (s.apart.new h0).new s.g0, by rw [gset_same, List.map_append]; rfl, by rw [List.length_append, List.length_append, s.len]; rfl, fun i r M e1 e2 => ?_, fun r hr => ?_, ?_, s.g0⟩
  · by_cases hi : i < qs.length
    · rw [List.getElem?_append_left hi] at e1
      rw [List.getElem?_append_left (by rw [← s.len]; exact hi)] at e2
      have hr := List.mem_of_getElem? e1
      rw [gset_ne (s.new r hr).2, gset_ne (fun (e : r = q) => h3 (e ▸ hr))]
      exact s.each i r M e1 e2
    · have hi2 : i = qs.length := by
        have := (List.getElem?_eq_some_iff.mp e1).1
        rw [List.length_append, List.length_singleton] at this
        omega
      rw [hi2, List.getElem?_append_right (Nat.le_refl _), Nat.sub_self] at e1
      rw [hi2, s.len, List.getElem?_append_right (Nat.le_refl _), Nat.sub_self] at e2
      cases e1
      cases e2
      rw [gset_ne h2, gset_same]
      rfl
  · rcases List.mem_append.mp hr with z | z
    · exact s.new r z
    · rw [List.mem_singleton] at z
      rw [z]
      exact ⟨h0, h2⟩
  · exact List.nodup_append.mpr ⟨s.nd, by simp, fun a ha c hc e => h3 (by rw [List.mem_singleton] at hc; rw [← hc, ← e]; exact ha)⟩
theorem GS.push {G0 G : GH} {p g q : Addr} {qs : List Addr} {Ls : List (List Int)} {b : Int} {i : Nat} {M : List Int} (s : GS G0 G p g qs Ls) (hq : qs[i]? = some q) (hM : Ls[i]? = some M) : GS G0 (gset G q (.lst (M.map D.int ++ [.int b]))) p g qs (Ls.set i (M ++ [b])) := by
  have hm := List.mem_of_getElem? hq
  obtain ⟨h0, hg⟩ := s.new q hm
  have hqp : q ≠ p := s.hand.ne_ints (s.each i q M hq hM)
  refine ⟨s.hand.new hqp, s.apart.new h0, by rw [gset_ne fun e => hg e.symm]; exact s.gr, by rw [List.length_set]; exact s.len, fun j r N e1 e2 => ?_, s.new, s.nd, s.g0⟩
  by_cases hj : j = i
  · subst hj
    rw [hq] at e1
    cases e1
    have hl : j < Ls.length := (List.getElem?_eq_some_iff.mp hM).1
    rw [List.getElem?_set_self hl] at e2
    cases e2
    rw [gset_same, List.map_append]
    rfl
  · rw [List.getElem?_set_ne (fun e => hj e.symm)] at e2
    have hne : r ≠ q := fun e => by
      subst e
      have h1 := (List.getElem?_eq_some_iff.mp e1)
      have h2 := (List.getElem?_eq_some_iff.mp hq)
      exact hj ((List.getElem_inj s.nd).mp (h1.2.trans h2.2.symm))
    rw [gset_ne hne]
    exact s.each j r N e1 e2
theorem flat_set {b : Int} : ∀ {Ls : List (List Int)} {i : Nat} {M : List Int}, Ls[i]? = some M → (Ls.set i (M ++ [b])).flatten.Perm (Ls.flatten ++ [b])
  | L :: Ls, 0, M, h => by
    cases h
    rw [List.set_cons_zero, List.flatten_cons, List.flatten_cons, List.append_assoc, List.append_assoc]
    exact List.Perm.append_left L List.perm_append_comm
  | L :: Ls, i + 1, M, h => by
    rw [List.set_cons_succ, List.flatten_cons, List.flatten_cons, List.append_assoc]
    exact List.Perm.append_left L (flat_set (by simpa using h))
  | [], _, _, h => by cases h
theorem enum_nil {n : Nat} : (([] : List D).zipIdx n).map (fun p => D.tup [.int p.2, p.1]) = [] := rfl
theorem lp_groups {g0 : G3} {bb : S3} {E : E3} {v0 v1 v2 u7 u8 u9 u10 u11 : Option D} {G0 : GH} {st : GH → Prop} {p g : Addr} {c : Nat} (hst : ∀ G, st G)
    (Hyp : ∀ (i : Nat) (b : Int) (qs : List Addr) (Ls : List (List Int)) (u5 u6 : Option D) (E : E3) (G' : GH), GS G0 G' p g qs Ls → qs.length = min i c → i ≤ 8 → Ls.flatten.length = i →
      (∀ (qs' : List Addr) (Ls' : List (List Int)) u5 u6 G2, GS G0 G2 p g qs' Ls' → qs'.length = min (i + 1) c → Ls'.flatten.Perm (Ls.flatten ++ [b]) → (c ≤ i → ∀ (j : Nat) (M : List Int), Ls[j]? = some M → ∃ M' : List Int, Ls'[j]? = some M' ∧ M.length ≤ M'.length) → (i < c → Ls' = Ls ++ [[b]]) → E.nx [v0, v1, v2, some (.int (c : Nat)), some (.ref g), u5, u6, u7, u8, u9, u10, u11] G2) →
      g0 (.tup [.int (i : Nat), .int b]) [v0, v1, v2, some (.int (c : Nat)), some (.ref g), u5, u6, u7, u8, u9, u10, u11] G' fun env1 G1 => bb E env1 G1) :
    ∀ (bs : List Int) (i : Nat) (qs : List Addr) (Ls : List (List Int)) (u5 u6 : Option D) (G' : GH), GS G0 G' p g qs Ls → qs.length = min i c → i + bs.length ≤ 8 → (∀ M ∈ Ls, 1 ≤ M.length) → Ls.flatten.length = i →
      (∀ (qs' : List Addr) (Ls' : List (List Int)) u5 u6 G2, GS G0 G2 p g qs' Ls' → qs'.length = min (i + bs.length) c → Ls'.flatten.Perm (Ls.flatten ++ bs) → (∀ M ∈ Ls', 1 ≤ M.length) → E.nx [v0, v1, v2, some (.int (c : Nat)), some (.ref g), u5, u6, u7, u8, u9, u10, u11] G2) →
      lp st g0 bb E (((bs.map D.int).zipIdx i).map fun p => D.tup [.int p.2, p.1]) [v0, v1, v2, some (.int (c : Nat)), some (.ref g), u5, u6, u7, u8, u9, u10, u11] G'
  | [], i, qs, Ls, u5, u6, G', s, hl, _, hM, _, h => ⟨hst _, h qs Ls u5 u6 G' s hl (by rw [List.append_nil]) hM⟩
  | b :: bs, i, qs, Ls, u5, u6, G', s, hl, hb, hM, hf, h => by
    rw [List.length_cons] at hb
    rw [List.map_cons, List.zipIdx_cons, List.map_cons]
    refine ⟨hst _, Hyp i b qs Ls u5 u6 _ G' s hl (by omega) hf fun qs' Ls' a5 a6 G2 s' hl' hp hge hlt => ?_⟩
    have hM' : ∀ M ∈ Ls', 1 ≤ M.length := fun M hm => by
      by_cases hc : i < c
      · rw [hlt hc] at hm
        rcases List.mem_append.mp hm with z | z
        · exact hM M z
        · rw [List.mem_singleton] at z
          rw [z]
          exact Nat.le_refl 1
      · obtain ⟨j, hj, e⟩ := List.mem_iff_getElem.mp hm
        have hjl : j < Ls.length := by
          rw [← s.len, hl]
          rw [← s'.len, hl'] at hj
          omega
        obtain ⟨M', e1, e2⟩ := hge (by omega) j Ls[j] (List.getElem?_eq_getElem hjl)
        rw [List.getElem?_eq_getElem hj, e] at e1
        cases e1
        have := hM _ (List.getElem_mem hjl)
        omega
    refine lp_groups hst Hyp bs (i + 1) qs' Ls' a5 a6 G2 s' hl' (by omega) hM' (by rw [hp.length_eq, List.length_append, List.length_singleton, hf]) fun qs2 Ls2 b5 b6 G3 s2 l2 p2 m2 => h qs2 Ls2 b5 b6 G3 s2 (by rw [l2, List.length_cons]; congr 1; omega) ?_ m2
    refine p2.trans ?_
    have := hp.append_right bs
    rw [List.append_assoc] at this
    exact this

end K01

set_option Elab.async false
set_option linter.all false
set_option maxRecDepth 100000
set_option maxHeartbeats 0
namespace K01
open PySem PySem.Spec L2 L3
open PyProof.Rows hiding St
section
variable {P : Program} {w : World} {K : PySem.W.Frag} {mg : Str → Option Value} {base : Heap}
def S_rec (n : Nat) : SP3 := fun ds G R _ => match ds with
  | [x, y, z] => ∃ (p : Addr) (L : List Int) (k : Nat), x = .ref p ∧ z = .int (k : Nat) ∧ k ≤ n ∧ n ≤ 6 ∧ HandOk G p ∧ y ≠ .ref p ∧ asS G y = some (L.map D.int) ∧ 1 ≤ L.length ∧ L.length ≤ 8 ∧ (∀ i ∈ L, 0 ≤ i ∧ i ≤ 7) ∧ (1 ≤ k ∨ L.length = 1) ∧
      ∀ t G', RecOk L k t → HandOk G' p → Apart p G G' → R t G'
  | _ => False
def S_recP : Nat → SP3
  | 0 => fun _ _ _ _ => False
  | n + 1 => S_rec n
theorem leaf_ok {i : Int} {k : Nat} (h : 0 ≤ i ∧ i ≤ 7) : RecOk [i] k (.int i) := by
  refine ⟨⟨0, [i], by simp only [lk]; rw [if_pos h], List.Perm.refl _, Nat.zero_le _⟩, ?_, ?_, Nat.zero_le _, Nat.zero_le _, ?_⟩
  · show wordB i = true
    unfold wordB
    rw [decide_eq_true_eq]
    omega
  · show intTiny i = true
    unfold intTiny
    rw [decide_eq_true_eq]
    omega
  · simp only [wtD, List.length_singleton]
    omega
/-- the loop over the groups -/
theorem lp_parts {g0 : G3} {bb : S3} {E : E3} {v0 v1 v2 v3 u5 u6 : Option D} {Ga : GH} {st : GH → Prop} {p g pr : Addr} {k : Nat} {Gs : List (List Int)} {qs : List Addr}
    (hst : ∀ G, HandOk G p → Apart p Ga G → st G)
    (Hyp : ∀ (i : Nat) (q : Addr) (s : Fr) (M : List Int) (xs : List D) (u8 u9 u10 u11 : Option D) (E : E3) (G' : GH), qs[i]? = some q → Gs[i]? = some M → BnF s → HandOk G' p → Apart p Ga G' → G' pr = some (.lst xs) → xs.length ≤ 8 →
      (∀ x u8 u9 u10 u11 G2, PtOk1 k x M s → HandOk G2 p → Apart p Ga G2 → G2 pr = some (.lst (xs ++ [x])) → E.nx [v0, v1, v2, v3, some (.ref g), u5, u6, some (.ref pr), u8, u9, u10, u11] G2) →
      g0 (.tup [.ref q, frO s]) [v0, v1, v2, v3, some (.ref g), u5, u6, some (.ref pr), u8, u9, u10, u11] G' fun env1 G1 => bb E env1 G1) :
    ∀ (qr : List Addr) (sr : List Fr) (Lr : List (List Int)) (i : Nat) (xs : List D) (Ls : List (List Int)) (ss : List Fr) (u8 u9 u10 u11 : Option D) (G' : GH), qr = qs.drop i → Lr = Gs.drop i → qr.length = sr.length → qr.length = Lr.length → i + qr.length ≤ 8 → xs.length = i → (∀ s ∈ sr, BnF s) → PtsOk k xs Ls ss → HandOk G' p → Apart p Ga G' → G' pr = some (.lst xs) →
      (∀ xs' u8 u9 u10 u11 G2, PtsOk k xs' (Ls ++ Lr) (ss ++ sr) → xs'.length = i + qr.length → HandOk G2 p → Apart p Ga G2 → G2 pr = some (.lst xs') → E.nx [v0, v1, v2, v3, some (.ref g), u5, u6, some (.ref pr), u8, u9, u10, u11] G2) →
      lp st g0 bb E (zipD (qr.map D.ref) (sr.map frO)) [v0, v1, v2, v3, some (.ref g), u5, u6, some (.ref pr), u8, u9, u10, u11] G'
  | [], [], [], i, xs, Ls, ss, u8, u9, u10, u11, G', _, _, _, _, _, hx, _, hp, h1, h2, h3, h => ⟨hst _ h1 h2, h xs u8 u9 u10 u11 G' (by rw [List.append_nil, List.append_nil]; exact hp) hx h1 h2 h3⟩
  | [], _ :: _, _, _, _, _, _, _, _, _, _, _, _, _, h, _, _, _, _, _, _, _, _, _ => by cases h
  | [], [], _ :: _, _, _, _, _, _, _, _, _, _, _, _, _, h, _, _, _, _, _, _, _, _ => by cases h
  | _ :: _, [], _, _, _, _, _, _, _, _, _, _, _, _, h, _, _, _, _, _, _, _, _, _ => by cases h
  | _ :: _, _ :: _, [], _, _, _, _, _, _, _, _, _, _, _, _, h, _, _, _, _, _, _, _, _ => by cases h
  | q :: qr, s :: sr, M :: Lr, i, xs, Ls, ss, u8, u9, u10, u11, G', e1, e2, e3, e4, e5, hx, hs, hp, h1, h2, h3, h => by
    rw [List.length_cons] at e5
    have gq : qs[i]? = some q := by
      have := congrArg (fun l => l[0]?) e1
      simpa using this.symm
    have gM : Gs[i]? = some M := by
      have := congrArg (fun l => l[0]?) e2
      simpa using this.symm
    have d1 : qr = qs.drop (i + 1) := by
      have := congrArg List.tail e1
      simpa using this
    have d2 : Lr = Gs.drop (i + 1) := by
      have := congrArg List.tail e2
      simpa using this
    unfold zipD
    rw [List.map_cons, List.map_cons, List.zipWith_cons_cons]
    refine ⟨hst _ h1 h2, Hyp i q s M xs u8 u9 u10 u11 _ G' gq gM (hs s (by simp)) h1 h2 h3 (by omega) fun x a8 a9 a10 a11 G2 k1 k2 k3 k4 => ?_⟩
    refine lp_parts hst Hyp qr sr Lr (i + 1) (xs ++ [x]) (Ls ++ [M]) (ss ++ [s]) a8 a9 a10 a11 G2 d1 d2 (by simpa using e3) (by simpa using e4) (by omega) (by rw [List.length_append, List.length_singleton, hx]) (fun z hz => hs z (by simp [hz])) (PtsOk.snoc k1 hp) k2 k3 k4 fun xs' b8 b9 b10 b11 G3 m1 m2 m3 m4 m5 => ?_
    refine h xs' b8 b9 b10 b11 G3 ?_ (by rw [m2, List.length_cons]; omega) m3 m4 m5
    rw [List.append_assoc, List.append_assoc] at m1
    exact m1
theorem GS.mv {G0 G G2 : GH} {p g : Addr} {qs : List Addr} {Ls : List (List Int)} (s : GS G0 G p g qs Ls) (h : HandOk G2 p) (a : Apart p G G2) : GS G0 G2 p g qs Ls :=
  ⟨h, s.apart.trans a, (a g (s.hand.ne_refs s.gr) (by rw [s.gr]; simp)).trans s.gr, s.len, fun i q M e1 e2 => by
    have z := s.each i q M e1 e2
    exact (a q (s.hand.ne_ints z) (by rw [z]; simp)).trans z, s.new, s.nd, s.g0⟩
theorem flat_ge : ∀ {Ls : List (List Int)}, (∀ M ∈ Ls, 1 ≤ M.length) → Ls.length ≤ Ls.flatten.length
  | [], _ => Nat.le_refl _
  | L :: Ls, h => by
    rw [List.flatten_cons, List.length_append, List.length_cons]
    have h1 := flat_ge (Ls := Ls) fun M hM => h M (List.mem_cons_of_mem _ hM)
    have h2 := h L (by simp)
    omega
theorem flat_one : ∀ {Ls : List (List Int)}, (∀ M ∈ Ls, 1 ≤ M.length) → Ls.flatten.length = Ls.length → ∀ M ∈ Ls, M.length = 1
  | [], _, _ => fun M hM => by cases hM
  | L :: Ls, h, e => fun M hM => by
    rw [List.flatten_cons, List.length_append, List.length_cons] at e
    have h1 := flat_ge (Ls := Ls) fun M hM => h M (List.mem_cons_of_mem _ hM)
    have h2 := h L (by simp)
    rcases List.mem_cons.mp hM with z | z
    · rw [z]; omega
    · exact flat_one (fun M hM => h M (List.mem_cons_of_mem _ hM)) (by omega) M z
theorem flat_le : ∀ {Ls : List (List Int)} {M : List Int}, M ∈ Ls → M.length ≤ Ls.flatten.length
  | L :: Ls, M, h => by
    rw [List.flatten_cons, List.length_append]
    rcases List.mem_cons.mp h with z | z
    · rw [z]; omega
    · have := flat_le z
      omega
theorem rec_step (T : Tx K mg) (n : Nat) (g__law_recipe : Good P w K mg base "_law_recipe" ["hand", "some", "deep"] (4 + n) (S_recP n)) : Good P w K mg base "_law_recipe" ["hand", "some", "deep"] (4 + n + 1) (S_rec n) := by
  have g__law_draw := ok_draw (P := P) (w := w) (base := base) T
  have g__law_mixed := ok_mixed (P := P) (w := w) (base := base) T
  have g__law_shares := ok_shares (P := P) (w := w) (base := base) T
  have g__law_range := ok_range (P := P) (w := w) (base := base) T
  refine good_of (d__law_recipe T) sc__law_recipe fun f cd A outer s H E hp tk hgd hr => ⟨_, (s_cons (s_if (t_w (o_and (t_cmp (op_eq3 hr.units) lift_eq (c_callB call_len lift_len (n_len T) (a_cons (c_var 1) a_nil)) c_int) (o_and1 (t_w (o_or (t_cmp (op_eq3 hr.units) lift_eq (c_var 2) c_int) (o_or1 (t_cmp op_gt lift_I2b (c_call g__law_draw (hr.mono (by omega)) hgd tk (a_cons (c_var 0) (a_cons c_int a_nil))) c_int))))))) (s_one (s_ret (c_ix (c_var 1) c_int))) s_nil)
      (s_cons (s_par 3 4 rfl sc__law_recipe.nd rfl rfl (by decide) rfl rfl (a_cons (c_callB call_len lift_len (n_len T) (a_cons (c_var 1) a_nil)) (a_cons (c_lstO a_nil) a_nil)) rfl)
      (s_cons (s_if (t_cmp op_gt lift_I2b (c_var 2) c_int) (s_one (s_set 3 sc__law_recipe.nd rfl (.inl rfl) rfl (c_op op_add3 lift_add c_int (c_call g__law_draw (hr.mono (by omega)) hgd tk (a_cons (c_var 0) (a_cons (c_callB call_len lift_len (n_len T) (a_cons (c_var 1) a_nil)) a_nil)))))) s_nil)
      (s_cons (s_for hp rfl (i_enum (n_enumerate T) (c_call g__law_mixed (hr.mono (by omega)) hgd tk (a_cons (c_var 0) (a_cons (c_var 1) a_nil)))) (g_tup (n := 2) rfl (gs_cons (g_name 5 sc__law_recipe.nd rfl (.inl rfl)) (gs_cons (g_name 6 sc__law_recipe.nd rfl (.inl rfl)) gs_nil))) (s_one (s_if (t_cmp op_lt lift_I2b (c_var 5) (c_var 3)) (s_one (s_expr (c_bm PySem.F.plainAttrs_list PySem.F.slot_list_append PySem.F.type_list_append mt_append m_append (c_var 4) (a_cons (c_lstO (a_cons (c_var 6) a_nil)) a_nil)))) (s_one (s_expr (c_bm PySem.F.plainAttrs_list PySem.F.slot_list_append PySem.F.type_list_append mt_append m_append (c_ix (c_var 4) (c_call g__law_draw (hr.mono (by omega)) hgd tk (a_cons (c_var 0) (a_cons (c_var 3) a_nil)))) (a_cons (c_var 6) a_nil)))))))
      (s_cons (s_set 7 sc__law_recipe.nd rfl (.inl rfl) rfl (c_lstO a_nil))
      (s_cons (s_for hp rfl (i_zip (n_zip T) (c_var 4) (c_call g__law_shares (hr.mono (by omega)) hgd tk (a_cons (c_var 0) (a_cons (c_var 3) a_nil)))) (g_tup (n := 2) rfl (gs_cons (g_name 8 sc__law_recipe.nd rfl (.inl rfl)) (gs_cons (g_name 9 sc__law_recipe.nd rfl (.inl rfl)) gs_nil))) (s_cons (s_asg (c_call g__law_range (hr.mono (by omega)) hgd tk (a_cons (c_var 0) (a_cons (c_var 9) a_nil))) (g_tup (n := 2) rfl (gs_cons (g_name 10 sc__law_recipe.nd rfl (.inl rfl)) (gs_cons (g_name 11 sc__law_recipe.nd rfl (.inl rfl)) gs_nil))))
      (s_one (s_expr (c_bm PySem.F.plainAttrs_list PySem.F.slot_list_append PySem.F.type_list_append mt_append m_append (c_var 7) (a_cons (c_tup (a_cons (c_var 10) (a_cons (c_var 11) (a_cons (c_call g__law_recipe (hr.mono (by omega)) hgd tk (a_cons (c_var 0) (a_cons (c_var 8) (a_cons (c_op op_sub lift_I2i (c_var 2) c_int) a_nil)))) a_nil)))) a_nil))))))
      (s_one (s_ret (c_callT call_tuple_of lift_tuple (n_tuple T) (a_cons (c_varZ 7) a_nil)))))))))), fun ds G R Ex hlen hS => ?_⟩
  clear hp tk hgd hr hlen
  match ds, hS with
  | [x, y, z], ⟨p, L, k, e1, e2, hk, hn, hH, hy, hs, hl1, hl8, hL, hdeep, hR⟩ =>
    subst e1 e2
    rw [show start3 ["hand", "some", "deep", "count", "groups", "place", "one", "parts", "group", "share", "least", "greatest"] [.ref p, y, .int (k : Nat)] = [some (.ref p), some (y), some (.int (k : Nat)), none, none, none, none, none, none, none, none, none] from rfl]
    refine seq_cut (fun env' G' => env' = [some (.ref p), some y, some (.int (k : Nat)), none, none, none, none, none, none, none, none, none] ∧ HandOk G' p ∧ Apart p G G' ∧ 1 ≤ k) ?_ ?_
    · rintro env' G1 ⟨rfl, hH1, hA1, hk1⟩
      have hs1 := hA1.asS hy hs
      refine seq_cut (fun env' G' => ∃ g, env' = [some (.ref p), some y, some (.int (k : Nat)), some (.int (L.length : Nat)), some (.ref g), none, none, none, none, none, none, none] ∧ HandOk G' p ∧ Apart p G G' ∧ G g = none ∧ G' g = some (.lst [])) ?_ ?_
      · rintro env' G2 ⟨g, rfl, hH2, hA2, hg0, hg⟩
        have hs2 := hA2.asS hy hs
        refine seq_cut (fun env' G' => ∃ c : Nat, env' = [some (.ref p), some y, some (.int (k : Nat)), some (.int (c : Nat)), some (.ref g), none, none, none, none, none, none, none] ∧ HandOk G' p ∧ Apart p G G' ∧ G' g = some (.lst []) ∧ 1 ≤ c ∧ c ≤ L.length ∧ (k = 1 → c = L.length)) ?_ ?_
        · rintro env' G3 ⟨c, rfl, hH3, hA3, hg3, hc1, hc2, hc3⟩
          have hs3 := hA3.asS hy hs
          refine seq_cut (fun env' G' => ∃ qs Ls u5 u6, env' = [some (.ref p), some y, some (.int (k : Nat)), some (.int (c : Nat)), some (.ref g), u5, u6, none, none, none, none, none] ∧ GS G G' p g qs Ls ∧ qs.length = c ∧ Ls.flatten.Perm L ∧ (∀ M ∈ Ls, 1 ≤ M.length)) ?_ ?_
          · rintro env' G4 ⟨qs, Ls, u5, u6, rfl, s4, hqc, hfl, hM⟩
            have hgp : g ≠ p := s4.hand.ne_refs s4.gr
            obtain ⟨k', rfl⟩ : ∃ k', k = k' + 1 := ⟨k - 1, by omega⟩
            have hLs : Ls.length = c := s4.len.symm.trans hqc
            have hfll : Ls.flatten.length = L.length := hfl.length_eq
            simp only [wExpr, wRaise, gSb, wSeq, wNext, wRet, wRetN, wExpr, wIfS, wSet, wAsg, wPar, wAug, w1, w2, wA, aNil, aCons, wVar, wVarT, wC, tOfW, w3c, wAnd, wOr, wNot, tAnd3, tOr3, tNot3, wIf, wTup, wLst, wLstO, wCall, wSl, pNone, pSome, wipe3, List.map_cons, List.map_nil, fI2, fI2C, fI1, fAbs, addI, mulI, intI, eqS, neS, isN_, notN_, L3.isNon, gN, gsN, gsC, gT, asT, at3, List.set_cons_zero, List.set_cons_succ, Option.some.injEq, exists_eq_left', D.bl.injEq, D.int.injEq, D.tup.injEq, List.length_cons, List.length_nil, Nat.reduceAdd, true_and, if_true, if_false, Bool.false_eq_true, reduceIte, ite_true, ite_false, len_t0, len_t1, len_t2, len_t3, len_l0, len_l1, eqI, neI, Int.reduceBEq, Int.reduceLT, Int.reduceLE, Int.reduceNeg, decide_true, decide_false, Bool.not_true, Bool.not_false, ix0, ix1, ix2, and_true, and_self, S_shares, iZp, wFor]
            refine ⟨Nat.zero_le _, fun pr hpr => ?_⟩
            obtain ⟨o1, o2, o3, o4⟩ := s4.old hpr
            refine ⟨p, (c : Nat), rfl, rfl, s4.hand.new o2, by omega, by omega, fun ps G5 hW hps hH5 hA5 => .inr ?_⟩
            have hA4 : Apart p G4 G5 := (Apart.refl.new hpr).trans hA5
            have hg5 : G5 g = some (.lst (qs.map D.ref)) := (hA4 g hgp (by rw [s4.gr]; simp)).trans s4.gr
            have hpr5 : G5 pr = some (.lst []) := (hA5 pr o2 (by rw [gset_same]; simp)).trans gset_same
            refine ⟨_, _, asL_ref hg5, rfl, ?_⟩
            refine lp_parts (Ga := G4) (p := p) (g := g) (pr := pr) (k := k') (Gs := Ls) (qs := qs) ?_ ?_ qs ps Ls 0 [] [] [] none none none none G5 rfl rfl (by omega) s4.len (by omega) rfl (fun s hs => hW.bn s hs) trivial hH5 hA4 hpr5 ?_
            · intro G' _ hA'
              exact ⟨(hA' g hgp (by rw [s4.gr]; simp)).trans s4.gr, trivial⟩
            · intro i q s M xs u8 u9 u10 u11 E G' e1 e2 hs hH' hA' hpr' hx hE
              have hq4 := s4.each i q M e1 e2
              have hqp : q ≠ p := s4.hand.ne_ints hq4
              have hMm := List.mem_of_getElem? e2
              have hMl : M.length ≤ L.length := hfll ▸ flat_le hMm
              simp only [wExpr, wRaise, gSb, wSeq, wNext, wRet, wRetN, wExpr, wIfS, wSet, wAsg, wPar, wAug, w1, w2, wA, aNil, aCons, wVar, wVarT, wC, tOfW, w3c, wAnd, wOr, wNot, tAnd3, tOr3, tNot3, wIf, wTup, wLst, wLstO, wCall, wSl, pNone, pSome, wipe3, List.map_cons, List.map_nil, fI2, fI2C, fI1, fAbs, addI, mulI, intI, eqS, neS, isN_, notN_, L3.isNon, gN, gsN, gsC, gT, asT, at3, List.set_cons_zero, List.set_cons_succ, Option.some.injEq, exists_eq_left', D.bl.injEq, D.int.injEq, D.tup.injEq, List.length_cons, List.length_nil, Nat.reduceAdd, true_and, if_true, if_false, Bool.false_eq_true, reduceIte, ite_true, ite_false, len_t0, len_t1, len_t2, len_t3, len_l0, len_l1, eqI, neI, Int.reduceBEq, Int.reduceLT, Int.reduceLE, Int.reduceNeg, decide_true, decide_false, Bool.not_true, Bool.not_false, ix0, ix1, ix2, and_true, and_self, S_range]
              refine ⟨p, s, rfl, rfl, hH', hs, fun lo hi G6 b1 b2 l1 l2 hH6 hA6 => ?_⟩
              have hA46 := hA'.trans hA6
              have hpr6 : G6 pr = some (.lst xs) := (hA6 pr o2 (by rw [hpr']; simp)).trans hpr'
              simp only [wExpr, wRaise, gSb, wSeq, wNext, wRet, wRetN, wExpr, wIfS, wSet, wAsg, wPar, wAug, w1, w2, wA, aNil, aCons, wVar, wVarT, wC, tOfW, w3c, wAnd, wOr, wNot, tAnd3, tOr3, tNot3, wIf, wTup, wLst, wLstO, wCall, wSl, pNone, pSome, wipe3, List.map_cons, List.map_nil, fI2, fI2C, fI1, fAbs, addI, mulI, intI, eqS, neS, isN_, notN_, L3.isNon, gN, gsN, gsC, gT, asT, at3, List.set_cons_zero, List.set_cons_succ, Option.some.injEq, exists_eq_left', D.bl.injEq, D.int.injEq, D.tup.injEq, List.length_cons, List.length_nil, Nat.reduceAdd, true_and, if_true, if_false, Bool.false_eq_true, reduceIte, ite_true, ite_false, len_t0, len_t1, len_t2, len_t3, len_l0, len_l1, eqI, neI, Int.reduceBEq, Int.reduceLT, Int.reduceLE, Int.reduceNeg, decide_true, decide_false, Bool.not_true, Bool.not_false, ix0, ix1, ix2, and_true, and_self, wM]
              refine ⟨by unfold L3.cL; rw [asL_ref hpr6]; rfl, ?_⟩
              cases n with
              | zero => omega
              | succ n' =>
                simp only [wExpr, wRaise, gSb, wSeq, wNext, wRet, wRetN, wExpr, wIfS, wSet, wAsg, wPar, wAug, w1, w2, wA, aNil, aCons, wVar, wVarT, wC, tOfW, w3c, wAnd, wOr, wNot, tAnd3, tOr3, tNot3, wIf, wTup, wLst, wLstO, wCall, wSl, pNone, pSome, wipe3, List.map_cons, List.map_nil, fI2, fI2C, fI1, fAbs, addI, mulI, intI, eqS, neS, isN_, notN_, L3.isNon, gN, gsN, gsC, gT, asT, at3, List.set_cons_zero, List.set_cons_succ, Option.some.injEq, exists_eq_left', D.bl.injEq, D.int.injEq, D.tup.injEq, List.length_cons, List.length_nil, Nat.reduceAdd, true_and, if_true, if_false, Bool.false_eq_true, reduceIte, ite_true, ite_false, len_t0, len_t1, len_t2, len_t3, len_l0, len_l1, eqI, neI, Int.reduceBEq, Int.reduceLT, Int.reduceLE, Int.reduceNeg, decide_true, decide_false, Bool.not_true, Bool.not_false, ix0, ix1, ix2, and_true, and_self, S_recP, S_rec]
                have hq6 : G6 q = some (.lst (M.map D.int)) := (hA46 q hqp (by rw [hq4]; simp)).trans hq4
                refine ⟨p, M, k', rfl, by omega, by omega, by omega, hH6, fun z => hqp (by cases z; rfl), ?_, hM M hMm, by omega, fun i hi => hL i (hfl.mem_iff.mp (List.mem_flatten.mpr ⟨M, hMm, hi⟩)), ?_, fun t G7 rk hH7 hA7 => ?_⟩
                · show asL G6 (.ref q) = _
                  exact asL_ref hq6
                · by_cases hk0 : 1 ≤ k'
                  · exact .inl hk0
                  · refine .inr (flat_one hM ?_ M hMm)
                    have := hc3 (by omega)
                    omega
                · have hpr7 : G7 pr = some (.lst xs) := (hA7 pr o2 (by rw [hpr6]; simp)).trans hpr6
                  refine ⟨by rw [sizeLine_eq]; omega, xs, hpr7, by rw [sizeLine_eq]; omega, ?_⟩
                  exact hE _ _ _ _ _ _ ⟨lo, hi, t, rfl, b1, b2, l1, l2, hs.1, rk⟩ (hH7.new o2) ((hA46.trans hA7).new hpr) gset_same
            · intro xs' u8 u9 u10 u11 G6 hP hxl hH6 hA6 hpr6
              simp only [wExpr, wRaise, gSb, wSeq, wNext, wRet, wRetN, wExpr, wIfS, wSet, wAsg, wPar, wAug, w1, w2, wA, aNil, aCons, wVar, wVarT, wC, tOfW, w3c, wAnd, wOr, wNot, tAnd3, tOr3, tNot3, wIf, wTup, wLst, wLstO, wCall, wSl, pNone, pSome, wipe3, List.map_cons, List.map_nil, fI2, fI2C, fI1, fAbs, addI, mulI, intI, eqS, neS, isN_, notN_, L3.isNon, gN, gsN, gsC, gT, asT, at3, List.set_cons_zero, List.set_cons_succ, Option.some.injEq, exists_eq_left', D.bl.injEq, D.int.injEq, D.tup.injEq, List.length_cons, List.length_nil, Nat.reduceAdd, true_and, if_true, if_false, Bool.false_eq_true, reduceIte, ite_true, ite_false, len_t0, len_t1, len_t2, len_t3, len_l0, len_l1, eqI, neI, Int.reduceBEq, Int.reduceLT, Int.reduceLE, Int.reduceNeg, decide_true, decide_false, Bool.not_true, Bool.not_false, ix0, ix1, ix2, and_true, and_self, wVarZ, fTuple]
              refine ⟨pr, xs', rfl, hpr6, xs', rfl, ?_⟩
              rw [List.nil_append, List.nil_append] at hP
              exact hR _ _ (rec_tup hP hW (by omega) (by omega) (by omega) hfl) (hH6.del o2) ((s4.apart.trans hA6).del o1)
          · intro N hN
            simp only [wExpr, wRaise, gSb, wSeq, wNext, wRet, wRetN, wExpr, wIfS, wSet, wAsg, wPar, wAug, w1, w2, wA, aNil, aCons, wVar, wVarT, wC, tOfW, w3c, wAnd, wOr, wNot, tAnd3, tOr3, tNot3, wIf, wTup, wLst, wLstO, wCall, wSl, pNone, pSome, wipe3, List.map_cons, List.map_nil, fI2, fI2C, fI1, fAbs, addI, mulI, intI, eqS, neS, isN_, notN_, L3.isNon, gN, gsN, gsC, gT, asT, at3, List.set_cons_zero, List.set_cons_succ, Option.some.injEq, exists_eq_left', D.bl.injEq, D.int.injEq, D.tup.injEq, List.length_cons, List.length_nil, Nat.reduceAdd, true_and, if_true, if_false, Bool.false_eq_true, reduceIte, ite_true, ite_false, len_t0, len_t1, len_t2, len_t3, len_l0, len_l1, eqI, neI, Int.reduceBEq, Int.reduceLT, Int.reduceLE, Int.reduceNeg, decide_true, decide_false, Bool.not_true, Bool.not_false, ix0, ix1, ix2, and_true, and_self, wFor, iEn, S_mixed]
            refine ⟨p, L.map D.int, rfl, hy, hH3, hs3, by rw [List.length_map]; omega, fun fs G4 pf hH4 hA4 => ?_⟩
            obtain ⟨bs, rfl, pb⟩ := perm_ints pf
            refine ⟨_, rfl, ?_⟩
            have hgp : g ≠ p := hH3.ne_refs (qs := []) hg3
            have hg4 : G4 g = some (.lst []) := (hA4 g hgp (by rw [hg3]; simp)).trans hg3
            have hbl : bs.length = L.length := pb.length_eq
            refine lp_groups (G0 := G) (p := p) (g := g) (c := c) (fun _ => trivial) ?_ bs 0 [] [] none none G4 ⟨hH4, hA3.trans hA4, hg4, rfl, (fun i q M z => by cases z), (fun q z => by cases z), List.nodup_nil, hg0⟩ (by simp) (by omega) (fun M z => by cases z) rfl ?_
            · intro i b qs Ls u5 u6 E G' s hl hi8 hfi hE
              simp only [wExpr, wRaise, gSb, wSeq, wNext, wRet, wRetN, wExpr, wIfS, wSet, wAsg, wPar, wAug, w1, w2, wA, aNil, aCons, wVar, wVarT, wC, tOfW, w3c, wAnd, wOr, wNot, tAnd3, tOr3, tNot3, wIf, wTup, wLst, wLstO, wCall, wSl, pNone, pSome, wipe3, List.map_cons, List.map_nil, fI2, fI2C, fI1, fAbs, addI, mulI, intI, eqS, neS, isN_, notN_, L3.isNon, gN, gsN, gsC, gT, asT, at3, List.set_cons_zero, List.set_cons_succ, Option.some.injEq, exists_eq_left', D.bl.injEq, D.int.injEq, D.tup.injEq, List.length_cons, List.length_nil, Nat.reduceAdd, true_and, if_true, if_false, Bool.false_eq_true, reduceIte, ite_true, ite_false, len_t0, len_t1, len_t2, len_t3, len_l0, len_l1, eqI, neI, Int.reduceBEq, Int.reduceLT, Int.reduceLE, Int.reduceNeg, decide_true, decide_false, Bool.not_true, Bool.not_false, ix0, ix1, ix2, and_true, and_self, wM, S_draw]
              by_cases hic : i < c
              · have e : decide ((i : Int) < (c : Int)) = true := by rw [decide_eq_true_eq]; omega
                simp only [e, if_true]
                refine ⟨by unfold L3.cL; rw [asL_ref s.gr]; rfl, by rw [sizeLine_eq]; omega, fun q hq => ?_⟩
                have o := s.old hq
                refine ⟨qs.map D.ref, by rw [gset_ne (fun e => o.2.2.1 e.symm)]; exact s.gr, by rw [List.length_map, sizeLine_eq]; omega, ?_⟩
                exact hE (qs ++ [q]) (Ls ++ [[b]]) _ _ _ (s.add hq) (by rw [List.length_append, List.length_singleton]; omega) (by rw [List.flatten_append]; exact List.Perm.refl _) (fun z => by omega) (fun _ => rfl)
              · have e : decide ((i : Int) < (c : Int)) = false := by rw [decide_eq_false_iff_not]; omega
                simp only [e, Bool.false_eq_true, if_false]
                refine ⟨p, (c : Nat), rfl, rfl, s.hand, by omega, by omega, fun r G5 r1 r2 hH5 hA5 => ?_⟩
                have s5 := s.mv hH5 hA5
                have hr : r.toNat < qs.length := by omega
                have hrl : r.toNat < Ls.length := by rw [← s.len]; exact hr
                have gq : qs[r.toNat]? = some qs[r.toNat] := List.getElem?_eq_getElem hr
                have gM : Ls[r.toNat]? = some Ls[r.toNat] := List.getElem?_eq_getElem hrl
                have hix : atD (qs.map D.ref) r = some (.ref qs[r.toNat]) := by
                  have := atD_nat (xs := qs.map D.ref) (n := r.toNat) (d := .ref qs[r.toNat]) (by rw [List.getElem?_map, gq]; rfl)
                  rw [Int.toNat_of_nonneg r1] at this
                  exact this
                rw [ix_ref s5.gr hix]
                have hq5 := s5.each _ _ _ gq gM
                refine ⟨by unfold L3.cL; rw [asL_ref hq5]; rfl, _, hq5, ?_, ?_⟩
                · have := flat_le (List.getElem_mem hrl)
                  rw [List.length_map, sizeLine_eq]
                  omega
                · refine hE qs (Ls.set r.toNat (Ls[r.toNat] ++ [b])) _ _ _ (s5.push gq gM) (by omega) (flat_set gM) (fun _ j M hj => ?_) (fun z => by omega)
                  by_cases hjr : j = r.toNat
                  · subst hjr
                    rw [gM] at hj
                    cases hj
                    exact ⟨_, List.getElem?_set_self hrl, by rw [List.length_append]; omega⟩
                  · exact ⟨M, by rw [List.getElem?_set_ne (fun e => hjr e.symm)]; exact hj, Nat.le_refl _⟩
            · intro qs Ls u5 u6 G5 s hl hp hM
              exact hN _ _ ⟨qs, Ls, u5, u6, rfl, s, by omega, hp.trans (by rw [List.flatten_nil, List.nil_append]; exact pb), hM⟩
        · intro N hN
          simp only [wExpr, wRaise, gSb, wSeq, wNext, wRet, wRetN, wExpr, wIfS, wSet, wAsg, wPar, wAug, w1, w2, wA, aNil, aCons, wVar, wVarT, wC, tOfW, w3c, wAnd, wOr, wNot, tAnd3, tOr3, tNot3, wIf, wTup, wLst, wLstO, wCall, wSl, pNone, pSome, wipe3, List.map_cons, List.map_nil, fI2, fI2C, fI1, fAbs, addI, mulI, intI, eqS, neS, isN_, notN_, L3.isNon, gN, gsN, gsC, gT, asT, at3, List.set_cons_zero, List.set_cons_succ, Option.some.injEq, exists_eq_left', D.bl.injEq, D.int.injEq, D.tup.injEq, List.length_cons, List.length_nil, Nat.reduceAdd, true_and, if_true, if_false, Bool.false_eq_true, reduceIte, ite_true, ite_false, len_t0, len_t1, len_t2, len_t3, len_l0, len_l1, eqI, neI, Int.reduceBEq, Int.reduceLT, Int.reduceLE, Int.reduceNeg, decide_true, decide_false, Bool.not_true, Bool.not_false, ix0, ix1, ix2, and_true, and_self, S_draw]
          by_cases hk2 : (1 : Int) < (k : Int)
          · have e : decide ((k : Int) > 1) = true := by rw [decide_eq_true_eq]; exact hk2
            simp only [e, if_true]
            refine len_seq hs2 ⟨p, _, rfl, rfl, hH2, by rw [List.length_map]; omega, by rw [List.length_map]; omega, fun r G3 r1 r2 hH3 hA3 => ?_⟩
            rw [List.length_map] at r2
            have hgp : g ≠ p := hH2.ne_refs (qs := []) hg
            refine hN _ _ ⟨(1 + r).toNat, ?_, hH3, hA2.trans hA3, (hA3 g hgp (by rw [hg]; simp)).trans hg, by omega, by omega, fun z => by omega⟩
            rw [Int.toNat_of_nonneg (by omega)]
          · have e : decide ((k : Int) > 1) = false := by rw [decide_eq_false_iff_not]; exact hk2
            simp only [e, Bool.false_eq_true, if_false]
            exact hN _ _ ⟨L.length, rfl, hH2, hA2, hg, hl1, Nat.le_refl _, fun _ => rfl⟩
      · intro N hN
        simp only [wExpr, wRaise, gSb, wSeq, wNext, wRet, wRetN, wExpr, wIfS, wSet, wAsg, wPar, wAug, w1, w2, wA, aNil, aCons, wVar, wVarT, wC, tOfW, w3c, wAnd, wOr, wNot, tAnd3, tOr3, tNot3, wIf, wTup, wLst, wLstO, wCall, wSl, pNone, pSome, wipe3, List.map_cons, List.map_nil, fI2, fI2C, fI1, fAbs, addI, mulI, intI, eqS, neS, isN_, notN_, L3.isNon, gN, gsN, gsC, gT, asT, at3, List.set_cons_zero, List.set_cons_succ, Option.some.injEq, exists_eq_left', D.bl.injEq, D.int.injEq, D.tup.injEq, List.length_cons, List.length_nil, Nat.reduceAdd, true_and, if_true, if_false, Bool.false_eq_true, reduceIte, ite_true, ite_false, len_t0, len_t1, len_t2, len_t3, len_l0, len_l1, eqI, neI, Int.reduceBEq, Int.reduceLT, Int.reduceLE, Int.reduceNeg, decide_true, decide_false, Bool.not_true, Bool.not_false, ix0, ix1, ix2, and_true, and_self]
        refine len_seq hs1 ⟨Nat.zero_le _, fun g hg => ?_⟩
        have hg0 : G g = none := by
          cases q : G g with
          | none => rfl
          | some o =>
            have hgp := hH1.ne hg
            have := hA1 g hgp (by rw [q]; simp)
            rw [hg, q] at this
            cases this
        refine hN _ _ ⟨g, by rw [List.length_map], hH1.new (hH1.ne hg), hA1.new hg0, hg0, gset_same⟩
    · intro N hN
      simp only [wExpr, wRaise, gSb, wSeq, wNext, wRet, wRetN, wExpr, wIfS, wSet, wAsg, wPar, wAug, w1, w2, wA, aNil, aCons, wVar, wVarT, wC, tOfW, w3c, wAnd, wOr, wNot, tAnd3, tOr3, tNot3, wIf, wTup, wLst, wLstO, wCall, wSl, pNone, pSome, wipe3, List.map_cons, List.map_nil, fI2, fI2C, fI1, fAbs, addI, mulI, intI, eqS, neS, isN_, notN_, L3.isNon, gN, gsN, gsC, gT, asT, at3, List.set_cons_zero, List.set_cons_succ, Option.some.injEq, exists_eq_left', D.bl.injEq, D.int.injEq, D.tup.injEq, List.length_cons, List.length_nil, Nat.reduceAdd, true_and, if_true, if_false, Bool.false_eq_true, reduceIte, ite_true, ite_false, len_t0, len_t1, len_t2, len_t3, len_l0, len_l1, eqI, neI, Int.reduceBEq, Int.reduceLT, Int.reduceLE, Int.reduceNeg, decide_true, decide_false, Bool.not_true, Bool.not_false, ix0, ix1, ix2, and_true, and_self, S_draw]
      refine len_seq hs ?_
      rw [List.length_map]
      simp only [eqI, D.bl.injEq, exists_eq_left']
      by_cases h1 : L.length = 1
      · have e : ((L.length : Int) == 1) = true := by rw [beq_iff_eq]; omega
        rw [e]
        simp only [if_true]
        obtain ⟨i, rfl⟩ := List.length_eq_one_iff.mp h1
        have hfirst : ∀ G', asS G' y = some ([i].map D.int) → HandOk G' p → Apart p G G' → fIx y (.int 0) G' R := fun G' hs' hH' hA' => ix_seq3 hs' (atD_nat (n := 0) rfl) (hR _ G' (leaf_ok (hL i (by simp))) hH' hA')
        by_cases hk0 : k = 0
        · have e0 : (((k : Nat) : Int) == 0) = true := by rw [beq_iff_eq]; omega
          simp only [e0, if_true]
          exact hfirst G hs hH Apart.refl
        · have e0 : (((k : Nat) : Int) == 0) = false := by rw [beq_eq_false_iff_ne]; omega
          simp only [e0, Bool.false_eq_true, if_false]
          refine ⟨p, 4, rfl, rfl, hH, by decide, by decide, fun r G1 r1 r2 hH1 hA1 => ?_⟩
          cases hr : decide (0 < r) with
          | true =>
            simp only [if_true]
            exact hfirst G1 (hA1.asS hy hs) hH1 hA1
          | false =>
            simp only [Bool.false_eq_true, if_false]
            exact hN _ _ ⟨rfl, hH1, hA1, by omega⟩
      · have e : ((L.length : Int) == 1) = false := by rw [beq_eq_false_iff_ne]; omega
        simp only [e, Bool.false_eq_true, if_false]
        exact hN _ _ ⟨rfl, hH, Apart.refl, by omega⟩
end

end K01

set_option Elab.async false
set_option linter.all false
set_option maxRecDepth 100000
set_option maxHeartbeats 0
namespace K01
open PySem PySem.Spec L2 L3
open PyProof.Rows hiding St
section
variable {P : Program} {w : World} {K : PySem.W.Frag} {mg : Str → Option Value} {base : Heap}
theorem ok_rec (T : Tx K mg) : ∀ n, Good P w K mg base "_law_recipe" ["hand", "some", "deep"] (4 + n) (S_recP n)
  | 0 => good_no 4 (d__law_recipe T)
  | n + 1 => rec_step T n (ok_rec T n)
theorem RecOk.fit2 {L : List Int} {k : Nat} {x : D} (h : RecOk L k x) (hk : k ≤ 6) (hl : L.length ≤ 8) : Fit2 x := by
  have h1 := h.ht
  have h2 := h.wt
  have h3 := h.dp
  refine ⟨⟨h.sane, by omega, ?_⟩, h.ty, by omega⟩
  have : L.length * (1 + 8 * k) ≤ 8 * 49 := Nat.mul_le_mul hl (by omega)
  omega
theorem RecOk.isRec {L : List Int} {k : Nat} {x : D} (h : RecOk L k x) (hk : k ≤ 6) (hn : L.Nodup) : isRec x = true := by
  obtain ⟨d, l, h1, h2, h3⟩ := h.lk_
  unfold K01.isRec
  rw [h1]
  show (decide (d ≤ 6) && decide l.Nodup) = true
  rw [Bool.and_eq_true, decide_eq_true_eq, decide_eq_true_eq]
  exact ⟨by omega, h2.nodup_iff.mpr hn⟩
theorem ints_L {L : List Int} : intsD (L.map D.int) = some L := by
  induction L with
  | nil => rfl
  | cons a l ih =>
    rw [List.map_cons]
    show (intsD (l.map D.int)).map (a :: ·) = _
    rw [ih]
    rfl
theorem sorted_eq : ∀ {a b : List Int}, a.Perm b → a.Pairwise (· ≤ ·) → b.Pairwise (· ≤ ·) → a = b := fun h1 h2 h3 => h1.eq_of_pairwise (fun a b _ _ h k => Int.le_antisymm h k) h2 h3
theorem tiny_ints {L : List Int} (h : ∀ i ∈ L, 0 ≤ i ∧ i ≤ 7) (hl : L.length ≤ 8) : smD (.tup (L.map D.int)) = true ∧ saneD (.tup (L.map D.int)) = true ∧ htD (.tup (L.map D.int)) ≤ 8 ∧ wtD (.tup (L.map D.int)) ≤ 100000 := by
  have w : wtL (L.map D.int) = L.length := by
    clear h hl
    induction L with
    | nil => rfl
    | cons a l ih =>
      rw [List.map_cons, wtL, ih, List.length_cons]
      show 1 + _ = _
      omega
  have t : htL (L.map D.int) = 0 := by
    clear h hl w
    induction L with
    | nil => rfl
    | cons a l ih =>
      rw [List.map_cons, htL, ih]
      rfl
  refine ⟨smL_iff.mpr fun x hx => ?_, saneL_iff.mpr fun x hx => ?_, ?_, ?_⟩
  · obtain ⟨i, _, rfl⟩ := mem_ints hx
    rfl
  · obtain ⟨i, hi, rfl⟩ := mem_ints hx
    have := h i hi
    show wordB i = true
    unfold wordB
    rw [decide_eq_true_eq]
    omega
  · show 1 + htL (L.map D.int) ≤ 8
    omega
  · show 1 + wtL (L.map D.int) ≤ 100000
    omega
theorem cut_to {xs : List D} {j : Int} (h : 0 ≤ j) : L3.cutD xs none (some j) = xs.take j.toNat := by
  unfold L3.cutD
  show (xs.drop 0).take ((if j < 0 then (j + (xs.length : Int)).toNat else min j.toNat xs.length) - 0) = _
  rw [if_neg (by omega), List.drop_zero, Nat.sub_zero]
  by_cases q : j.toNat ≤ xs.length
  · rw [Nat.min_eq_left q]
  · rw [Nat.min_eq_right (by omega), List.take_of_length_le (Nat.le_refl _), List.take_of_length_le (by omega)]
def S_drawn : SP3 := fun ds G R _ => match ds with
  | [x, y] => ∃ (p : Addr) (m : Nat), x = .ref p ∧ y = .int m ∧ 1 ≤ m ∧ m ≤ 7 ∧ HandOk G p ∧ ∀ (t : D) (L : List Int) (k : Nat) (G' : GH), RecOk L k t → k ≤ 6 → L.Nodup → 1 ≤ L.length → L.length ≤ 8 → (∀ i ∈ L, 0 ≤ i ∧ i ≤ 7) → HandOk G' p → Apart p G G' → R (.tup [t, .lst (L.map D.int)]) G'
  | _ => False
def S_counted : SP3 := fun ds G R _ => match ds with
  | [x, y] => ∃ (L : List Int) (k : Nat), RecOk L k x ∧ y = .lst (L.map D.int) ∧ k ≤ 6 ∧ L.Nodup ∧ L.length ≤ 8 ∧ (∀ i ∈ L, 0 ≤ i ∧ i ≤ 7) ∧ ∀ G', Over G G' → R (.bl true) G'
  | _ => False
end

end K01

set_option Elab.async false
set_option linter.all false
set_option maxRecDepth 100000
set_option maxHeartbeats 0
namespace K01
open PySem PySem.Spec L2 L3
open PyProof.Rows hiding St
section
variable {P : Program} {w : World} {K : PySem.W.Frag} {mg : Str → Option Value} {base : Heap}
/-! ### odd things -/
structure Nest (n : Nat) (d : D) : Prop where
  sane : saneD d = true
  ty : tyB d = true
  ht : htD d ≤ n
  wt : wtD d ≤ 2 * n + 1
  dp : dpD d ≤ n
theorem Nest.up {n : Nat} {d e : D} (h : Nest n d) (he : e = .tup [d] ∨ e = .lst [d] ∨ e = .dct [.inl 0] [d]) : Nest (n + 1) e := by
  obtain ⟨h1, h2, h3, h4, h5⟩ := h
  have s : saneL [d] = true := by simp only [saneL, h1, Bool.and_self]
  have y : tyBL [d] = true := by simp only [tyBL, h2, Bool.and_self]
  have a : htL [d] = htD d := by simp only [htL]; omega
  have b : wtL [d] = wtD d := by simp only [wtL]; omega
  have c : dpL [d] = dpD d := by simp only [dpL]; omega
  rcases he with rfl | rfl | rfl
  · exact ⟨s, y, by simp only [htD]; omega, by simp only [wtD]; omega, by simp only [dpD]; omega⟩
  · exact ⟨s, y, by simp only [htD]; omega, by simp only [wtD]; omega, by simp only [dpD]; omega⟩
  · refine ⟨s, ?_, by simp only [htD]; omega, by simp only [wtD]; omega, by simp only [dpD]; omega⟩
    show (true && tyBL [d]) = true
    rw [y]
    rfl
def S_odd : SP3 := fun ds G R _ => match ds with
  | [x] => ∃ p, x = .ref p ∧ HandOk G p ∧ ∀ d G', Fit2 d → HandOk G' p → Apart p G G' → R d G'
  | _ => False
theorem lp_odd {g0 : G3} {bb : S3} {E : E3} {v0 v3 : Option D} {G0 : GH} {st : GH → Prop} {p : Addr} (hst : ∀ G, st G)
    (Hyp : ∀ (i : Nat) (t d : D) (u2 : Option D) (E : E3) (G' : GH), Nest i d → HandOk G' p → Apart p G0 G' →
      (∀ e u2 G2, Nest (i + 1) e → HandOk G2 p → Apart p G0 G2 → E.nx [v0, some e, u2, v3] G2) →
      g0 t [v0, some d, u2, v3] G' fun env1 G1 => bb E env1 G1) :
    ∀ (ts : List D) (i : Nat) (d : D) (u2 : Option D) (G' : GH), Nest i d → HandOk G' p → Apart p G0 G' →
      (∀ e u2 G2, Nest (i + ts.length) e → HandOk G2 p → Apart p G0 G2 → E.nx [v0, some e, u2, v3] G2) →
      lp st g0 bb E ts [v0, some d, u2, v3] G'
  | [], i, d, u2, G', h1, h2, h3, h => ⟨hst _, h d u2 G' h1 h2 h3⟩
  | t :: ts, i, d, u2, G', h1, h2, h3, h => by
    refine ⟨hst _, Hyp i t d u2 _ G' h1 h2 h3 fun e a2 G2 k1 k2 k3 => ?_⟩
    refine lp_odd hst Hyp ts (i + 1) e a2 G2 k1 k2 k3 fun e' b2 G3 m1 m2 m3 => h e' b2 G3 ?_ m2 m3
    rw [List.length_cons, show i + (ts.length + 1) = i + 1 + ts.length by omega]
    exact m1
theorem ok_odd (T : Tx K mg) : Good P w K mg base "_law_odd" ["hand"] 3 S_odd := by
  have g__law_draw := ok_draw (P := P) (w := w) (base := base) T
  have g__law_any := ok_any (P := P) (w := w) (base := base) T
  refine good_of (d__law_odd T) sc__law_odd fun f cd A outer s H E hp tk hgd hr => ⟨_, (s_cons (s_set 1 sc__law_odd.nd rfl (.inl rfl) rfl c_non)
      (s_cons (s_for hp rfl (i_rg1 (n_range T) (c_op op_add3 lift_add c_int (c_call g__law_draw (hr.mono (by omega)) hgd tk (a_cons (c_var 0) (a_cons c_int a_nil))))) (g_name 2 sc__law_odd.nd rfl (.inl rfl)) (s_one (s_set 1 sc__law_odd.nd rfl (.inl rfl) rfl (c_ix (c_lst (a_cons (c_tup (a_cons (c_var 1) a_nil)) (a_cons (c_lst (a_cons (c_var 1) a_nil)) (a_cons (c_dict1 c_int (c_var 1)) a_nil)))) (c_call g__law_draw (hr.mono (by omega)) hgd tk (a_cons (c_var 0) (a_cons c_int a_nil)))))))
      (s_cons (s_set 3 sc__law_odd.nd rfl (.inl rfl) rfl (c_lst (a_cons c_non (a_cons c_int (a_cons (c_un un_neg lift_I1 c_int) (a_cons c_bl (a_cons c_bl (a_cons c_str (a_cons c_str (a_cons (c_lst a_nil) (a_cons (c_tup a_nil) (a_cons c_dnew (a_cons (c_tup (a_cons (c_tup a_nil) a_nil)) (a_cons (c_tup (a_cons c_non (a_cons c_non a_nil))) (a_cons (c_tup (a_cons c_int (a_cons c_int a_nil))) (a_cons (c_tup (a_cons (c_tup (a_cons c_int (a_cons c_int a_nil))) (a_cons (c_tup (a_cons c_int (a_cons c_int a_nil))) a_nil))) (a_cons (c_op op_pow lift_I2C c_int c_int) a_nil)))))))))))))))))
      (s_one (s_ret (c_call g__law_any (hr.mono (by omega)) hgd tk (a_cons (c_var 0) (a_cons (c_op op_add3 lift_add (c_var 3) (c_lst (a_cons (c_var 1) a_nil))) a_nil)))))))), fun ds G R Ex hlen hS => ?_⟩
  clear hp tk hgd hr hlen
  match ds, hS with
  | [x], ⟨p, e1, hH, hR⟩ =>
    subst e1
    rw [show start3 ["hand", "deep", "turn", "some"] [.ref p] = [some (.ref p), none, none, none] from rfl]
    have s30 : ∀ n : Nat, n ≤ 100 → n ≤ sizeLine := fun n hn => by rw [sizeLine_eq]; omega
    refine seq_cut (fun env' G' => env' = [some (.ref p), some .non, none, none] ∧ G' = G) ?_ ?_
    · rintro env' G1 ⟨rfl, rfl⟩
      refine seq_cut (fun env' G' => ∃ e u2 n, env' = [some (.ref p), some e, u2, none] ∧ Nest n e ∧ n ≤ 31 ∧ HandOk G' p ∧ Apart p G1 G') ?_ ?_
      · rintro env' G2 ⟨e, u2, n, rfl, hn, hn2, hH2, hA2⟩
        simp only [wExpr, wRaise, gSb, wSeq, wNext, wRet, wRetN, wExpr, wIfS, wSet, wAsg, wPar, wAug, w1, w2, wA, aNil, aCons, wVar, wVarT, wC, tOfW, w3c, wAnd, wOr, wNot, tAnd3, tOr3, tNot3, wIf, wTup, wLst, wLstO, wCall, wSl, pNone, pSome, wipe3, List.map_cons, List.map_nil, fI2, fI2C, fI1, fAbs, addI, mulI, intI, eqS, neS, isN_, notN_, L3.isNon, gN, gsN, gsC, gT, asT, at3, List.set_cons_zero, List.set_cons_succ, Option.some.injEq, exists_eq_left', D.bl.injEq, D.int.injEq, D.tup.injEq, List.length_cons, List.length_nil, Nat.reduceAdd, true_and, if_true, if_false, Bool.false_eq_true, reduceIte, ite_true, ite_false, len_t0, len_t1, len_t2, len_t3, len_l0, len_l1, eqI, neI, Int.reduceBEq, Int.reduceLT, Int.reduceLE, Int.reduceNeg, decide_true, decide_false, Bool.not_true, Bool.not_false, ix0, ix1, ix2, and_true, and_self, S_any, wDNew]
        have cp : CPow 10 11 := by
          unfold CPow
          decide
        have s15 : ∀ n : Nat, n ≤ 15 → n ≤ sizeLine := fun n hn => s30 n (by omega)
        refine ⟨s15 _ (by decide), s15 _ (by decide), s15 _ (by decide), s15 _ (by decide), s15 _ (by decide), s15 _ (by decide), s15 _ (by decide), s15 _ (by decide), s15 _ (by decide), cp, s15 _ (by decide), s15 _ (by decide), ?_⟩
        refine add_lst (s30 _ (by simp)) ⟨p, _, rfl, (fun z => by cases z), hH2, rfl, by simp, by simp, fun d G3 hd hH3 hA3 => ?_⟩
        refine hR d G3 ?_ hH3 (hA2.trans hA3)
        rcases List.mem_append.mp hd with z | z
        · have all : ∀ d ∈ [D.non, D.int 8, D.int (-1), D.bl true, D.bl false, D.str (Str.ofString ""), D.str (Str.ofString "0"), D.lst [], D.tup [], D.dct [] [], D.tup [D.tup []], D.tup [D.non, D.non], D.tup [D.int 1, D.int 1], D.tup [D.tup [D.int 0, D.int 1], D.tup [D.int 1, D.int 1]], D.int (10 ^ Int.toNat 11)], (saneD d && decide (htD d ≤ 40) && decide (wtD d ≤ 1500) && tyB d && decide (dpD d ≤ 120)) = true := by
            decide +kernel
          have := all d z
          simp only [Bool.and_eq_true, decide_eq_true_eq] at this
          obtain ⟨⟨⟨⟨a1, a2⟩, a3⟩, a4⟩, a5⟩ := this
          exact ⟨⟨a1, a2, a3⟩, a4, a5⟩
        · rw [List.mem_singleton] at z
          subst z
          have h1 := hn.ht
          have h2 := hn.wt
          have h3 := hn.dp
          exact ⟨⟨hn.sane, by omega, by omega⟩, hn.ty, by omega⟩
      · intro N hN
        simp only [wExpr, wRaise, gSb, wSeq, wNext, wRet, wRetN, wExpr, wIfS, wSet, wAsg, wPar, wAug, w1, w2, wA, aNil, aCons, wVar, wVarT, wC, tOfW, w3c, wAnd, wOr, wNot, tAnd3, tOr3, tNot3, wIf, wTup, wLst, wLstO, wCall, wSl, pNone, pSome, wipe3, List.map_cons, List.map_nil, fI2, fI2C, fI1, fAbs, addI, mulI, intI, eqS, neS, isN_, notN_, L3.isNon, gN, gsN, gsC, gT, asT, at3, List.set_cons_zero, List.set_cons_succ, Option.some.injEq, exists_eq_left', D.bl.injEq, D.int.injEq, D.tup.injEq, List.length_cons, List.length_nil, Nat.reduceAdd, true_and, if_true, if_false, Bool.false_eq_true, reduceIte, ite_true, ite_false, len_t0, len_t1, len_t2, len_t3, len_l0, len_l1, eqI, neI, Int.reduceBEq, Int.reduceLT, Int.reduceLE, Int.reduceNeg, decide_true, decide_false, Bool.not_true, Bool.not_false, ix0, ix1, ix2, and_true, and_self, S_draw, wFor, iRg1]
        refine ⟨p, 30, rfl, rfl, hH, by decide, by decide, fun r G2 r1 r2 hH2 hA2 => ⟨by omega, by omega, ?_⟩⟩
        generalize hts : (List.map (fun i : Nat => D.int (0 + i)) (List.range (1 + r).toNat)) = ts
        have hlen : ts.length = (1 + r).toNat := by rw [← hts, List.length_map, List.length_range]
        refine lp_odd (p := p) (G0 := G1) (v3 := none) (fun _ => trivial) ?_ ts 0 .non none G2 ⟨rfl, rfl, Nat.le_refl _, Nat.le_refl _, Nat.le_refl _⟩ hH2 hA2 ?_
        · intro i t d u2 E G' hn hH' hA' hE
          simp only [wExpr, wRaise, gSb, wSeq, wNext, wRet, wRetN, wExpr, wIfS, wSet, wAsg, wPar, wAug, w1, w2, wA, aNil, aCons, wVar, wVarT, wC, tOfW, w3c, wAnd, wOr, wNot, tAnd3, tOr3, tNot3, wIf, wTup, wLst, wLstO, wCall, wSl, pNone, pSome, wipe3, List.map_cons, List.map_nil, fI2, fI2C, fI1, fAbs, addI, mulI, intI, eqS, neS, isN_, notN_, L3.isNon, gN, gsN, gsC, gT, asT, at3, List.set_cons_zero, List.set_cons_succ, Option.some.injEq, exists_eq_left', D.bl.injEq, D.int.injEq, D.tup.injEq, List.length_cons, List.length_nil, Nat.reduceAdd, true_and, if_true, if_false, Bool.false_eq_true, reduceIte, ite_true, ite_false, len_t0, len_t1, len_t2, len_t3, len_l0, len_l1, eqI, neI, Int.reduceBEq, Int.reduceLT, Int.reduceLE, Int.reduceNeg, decide_true, decide_false, Bool.not_true, Bool.not_false, ix0, ix1, ix2, and_true, and_self, S_draw, wDict1]
          refine ⟨s30 _ (by decide), s30 _ (by decide), fun q hq => ?_⟩
          have hqp := hH'.ne hq
          have q0 : G1 q = none := by
            cases z : G1 q with
            | none => rfl
            | some o =>
              have := hA' q hqp (by rw [z]; simp)
              rw [hq, z] at this
              cases this
          refine ⟨.inl 0, rfl, gset_same, s30 _ (by decide), p, 3, rfl, rfl, (hH'.new hqp).del hqp, by decide, by decide, fun r G3 r1 r2 hH3 hA3 => ?_⟩
          have hA4 : Apart p G1 G3 := ((hA'.new q0).del q0).trans hA3
          obtain ⟨e, he, hx⟩ : ∃ e, (e = .tup [d] ∨ e = .lst [d] ∨ e = .dct [.inl 0] [d]) ∧ atD [D.tup [d], D.lst [d], D.dct [.inl 0] [d]] r = some e := by
            have : r = 0 ∨ r = 1 ∨ r = 2 := by omega
            rcases this with rfl | rfl | rfl
            · exact ⟨_, .inl rfl, rfl⟩
            · exact ⟨_, .inr (.inl rfl), rfl⟩
            · exact ⟨_, .inr (.inr rfl), rfl⟩
          exact ix_seq3 (es := [D.tup [d], D.lst [d], D.dct [.inl 0] [d]]) rfl hx (hE e _ _ (hn.up he) hH3 hA4)
        · intro e u2 G3 hn hH3 hA3
          exact hN _ _ ⟨e, u2, 0 + ts.length, rfl, hn, by omega, hH3, hA3⟩
    · intro N hN
      simp only [wExpr, wRaise, gSb, wSeq, wNext, wRet, wRetN, wExpr, wIfS, wSet, wAsg, wPar, wAug, w1, w2, wA, aNil, aCons, wVar, wVarT, wC, tOfW, w3c, wAnd, wOr, wNot, tAnd3, tOr3, tNot3, wIf, wTup, wLst, wLstO, wCall, wSl, pNone, pSome, wipe3, List.map_cons, List.map_nil, fI2, fI2C, fI1, fAbs, addI, mulI, intI, eqS, neS, isN_, notN_, L3.isNon, gN, gsN, gsC, gT, asT, at3, List.set_cons_zero, List.set_cons_succ, Option.some.injEq, exists_eq_left', D.bl.injEq, D.int.injEq, D.tup.injEq, List.length_cons, List.length_nil, Nat.reduceAdd, true_and, if_true, if_false, Bool.false_eq_true, reduceIte, ite_true, ite_false, len_t0, len_t1, len_t2, len_t3, len_l0, len_l1, eqI, neI, Int.reduceBEq, Int.reduceLT, Int.reduceLE, Int.reduceNeg, decide_true, decide_false, Bool.not_true, Bool.not_false, ix0, ix1, ix2, and_true, and_self]
      exact hN _ _ ⟨rfl, rfl⟩
end

end K01

set_option Elab.async false
set_option linter.all false
set_option maxRecDepth 100000
set_option maxHeartbeats 0
namespace K01
open PySem PySem.Spec L2 L3
open PyProof.Rows hiding St
/-! ### small things: measures kept together -/
structure Sm (h w d : Nat) (x : D) : Prop where
  sane : saneD x = true
  ty : tyB x = true
  ht : htD x ≤ h
  wt : wtD x ≤ w
  dp : dpD x ≤ d
structure SmL (h w d : Nat) (xs : List D) : Prop where
  sane : saneL xs = true
  ty : tyBL xs = true
  ht : htL xs ≤ h
  wt : wtL xs ≤ w
  dp : dpL xs ≤ d
section
variable {h w d h' w' d' w1 w2 : Nat} {x : D} {xs ys : List D}
theorem Sm.mono (s : Sm h w d x) (a : h ≤ h') (b : w ≤ w') (c : d ≤ d') : Sm h' w' d' x := ⟨s.sane, s.ty, Nat.le_trans s.ht a, Nat.le_trans s.wt b, Nat.le_trans s.dp c⟩
theorem SmL.mono (s : SmL h w d xs) (a : h ≤ h') (b : w ≤ w') (c : d ≤ d') : SmL h' w' d' xs := ⟨s.sane, s.ty, Nat.le_trans s.ht a, Nat.le_trans s.wt b, Nat.le_trans s.dp c⟩
theorem SmL.nil : SmL h w d [] := ⟨rfl, rfl, Nat.zero_le _, Nat.zero_le _, Nat.zero_le _⟩
theorem SmL.cons (a : Sm h w1 d x) (b : SmL h w2 d xs) : SmL h (w1 + w2) d (x :: xs) := by
  refine ⟨?_, ?_, ?_, ?_, ?_⟩
  · simp only [saneL, a.sane, b.sane, Bool.and_self]
  · simp only [tyBL, a.ty, b.ty, Bool.and_self]
  · simp only [htL]; exact Nat.max_le.mpr ⟨a.ht, b.ht⟩
  · simp only [wtL]; exact Nat.add_le_add a.wt b.wt
  · simp only [dpL]; exact Nat.max_le.mpr ⟨a.dp, b.dp⟩
theorem wtL_append : wtL (xs ++ ys) = wtL xs + wtL ys := by
  induction xs with
  | nil => simp [wtL]
  | cons a xs ih => simp only [List.cons_append, wtL, ih]; omega
theorem htL_append : htL (xs ++ ys) = max (htL xs) (htL ys) := by
  induction xs with
  | nil => simp [htL]
  | cons a xs ih => simp only [List.cons_append, htL, ih]; omega
theorem dpL_append : dpL (xs ++ ys) = max (dpL xs) (dpL ys) := by
  induction xs with
  | nil => simp [dpL]
  | cons a xs ih => simp only [List.cons_append, dpL, ih]; omega
theorem saneL_append : saneL (xs ++ ys) = (saneL xs && saneL ys) := by
  induction xs with
  | nil => simp [saneL]
  | cons a xs ih => simp only [List.cons_append, saneL, ih, Bool.and_assoc]
theorem tyBL_append : tyBL (xs ++ ys) = (tyBL xs && tyBL ys) := by
  induction xs with
  | nil => simp [tyBL]
  | cons a xs ih => simp only [List.cons_append, tyBL, ih, Bool.and_assoc]
theorem SmL.append (a : SmL h w1 d xs) (b : SmL h w2 d ys) : SmL h (w1 + w2) d (xs ++ ys) := by
  refine ⟨?_, ?_, ?_, ?_, ?_⟩
  · rw [saneL_append, a.sane, b.sane]; rfl
  · rw [tyBL_append, a.ty, b.ty]; rfl
  · rw [htL_append]; exact Nat.max_le.mpr ⟨a.ht, b.ht⟩
  · rw [wtL_append]; exact Nat.add_le_add a.wt b.wt
  · rw [dpL_append]; exact Nat.max_le.mpr ⟨a.dp, b.dp⟩
theorem SmL.split (a : SmL h w d (xs ++ ys)) : SmL h w d xs ∧ SmL h w d ys := by
  obtain ⟨a1, a2, a3, a4, a5⟩ := a
  rw [saneL_append, Bool.and_eq_true] at a1
  rw [tyBL_append, Bool.and_eq_true] at a2
  rw [htL_append] at a3
  rw [wtL_append] at a4
  rw [dpL_append] at a5
  exact ⟨⟨a1.1, a2.1, by omega, by omega, by omega⟩, ⟨a1.2, a2.2, by omega, by omega, by omega⟩⟩
theorem SmL.take (a : SmL h w d xs) (n : Nat) : SmL h w d (xs.take n) := by
  rw [← List.take_append_drop n xs] at a
  exact a.split.1
theorem SmL.drop (a : SmL h w d xs) (n : Nat) : SmL h w d (xs.drop n) := by
  rw [← List.take_append_drop n xs] at a
  exact a.split.2
theorem SmL.mem (a : SmL h w d xs) (hx : x ∈ xs) : Sm h w d x := by
  induction xs with
  | nil => cases hx
  | cons y ys ih =>
    obtain ⟨a1, a2, a3, a4, a5⟩ := a
    simp only [saneL, Bool.and_eq_true] at a1
    simp only [tyBL, Bool.and_eq_true] at a2
    simp only [htL] at a3
    simp only [wtL] at a4
    simp only [dpL] at a5
    rcases List.mem_cons.mp hx with z | z
    · subst z; exact ⟨a1.1, a2.1, by omega, by omega, by omega⟩
    · exact ih ⟨a1.2, a2.2, by omega, by omega, by omega⟩ z
theorem SmL.reverse (a : SmL h w d xs) : SmL h w d xs.reverse := by
  induction xs generalizing w with
  | nil => exact .nil
  | cons y ys ih =>
    have hy := a.mem List.mem_cons_self
    obtain ⟨a1, a2, a3, a4, a5⟩ := a
    simp only [saneL, Bool.and_eq_true] at a1
    simp only [tyBL, Bool.and_eq_true] at a2
    simp only [htL] at a3
    simp only [wtL] at a4
    simp only [dpL] at a5
    rw [List.reverse_cons]
    exact ((ih (w := wtL ys) ⟨a1.2, a2.2, by omega, Nat.le_refl _, by omega⟩).append (.cons (w1 := wtD y) ⟨hy.sane, hy.ty, hy.ht, Nat.le_refl _, hy.dp⟩ (.nil (w := 0)))).mono (Nat.le_refl _) (by omega) (Nat.le_refl _)
theorem Sm.tup (a : SmL h w d xs) : Sm (h + 1) (w + 1) (d + 1) (.tup xs) := ⟨a.sane, a.ty, by have := a.ht; simp only [htD]; omega, by have := a.wt; simp only [wtD]; omega, by have := a.dp; simp only [dpD]; omega⟩
theorem Sm.lst (a : SmL h w d xs) : Sm h' (w + 1) (d + 1) (.lst xs) := ⟨a.sane, a.ty, Nat.zero_le _, by have := a.wt; simp only [wtD]; omega, by have := a.dp; simp only [dpD]; omega⟩
theorem Sm.items (a : Sm (h + 1) w (d + 1) (.tup xs)) : SmL h w d xs := by
  obtain ⟨a1, a2, a3, a4, a5⟩ := a
  simp only [htD] at a3
  simp only [wtD] at a4
  simp only [dpD] at a5
  exact ⟨a1, a2, by omega, by omega, by omega⟩
theorem Sm.itemsL (a : Sm h w (d + 1) (.lst xs)) (hh : htL xs ≤ h') : SmL h' w d xs := by
  obtain ⟨a1, a2, a3, a4, a5⟩ := a
  simp only [wtD] at a4
  simp only [dpD] at a5
  exact ⟨a1, a2, hh, by omega, by omega⟩
theorem Sm.fit2 (a : Sm h w d x) (hh : h ≤ 40) (hw : w ≤ 1500) (hd : d ≤ 120) : Fit2 x := ⟨⟨a.sane, Nat.le_trans a.ht hh, Nat.le_trans a.wt hw⟩, a.ty, Nat.le_trans a.dp hd⟩
theorem Fit2.sm (a : Fit2 x) : Sm 40 1500 120 x := ⟨a.sane, a.ty, a.ht, a.wt, a.dp⟩
theorem Sm.int {i : Int} (hi : i.natAbs < 10 ^ 12) : Sm h (w + 1) d (.int i) := by
  refine ⟨?_, ?_, Nat.zero_le _, by show 1 ≤ w + 1; omega, Nat.zero_le _⟩
  · show wordB i = true
    unfold wordB
    rw [decide_eq_true_eq]
    omega
  · show intTiny i = true
    unfold intTiny
    rw [decide_eq_true_eq]
    exact hi
theorem Sm.non : Sm h (w + 1) d .non := ⟨rfl, rfl, Nat.zero_le _, by show 1 ≤ w + 1; omega, Nat.zero_le _⟩
theorem Sm.bl {b : Bool} : Sm h (w + 1) d (.bl b) := ⟨rfl, rfl, Nat.zero_le _, by show 1 ≤ w + 1; omega, Nat.zero_le _⟩
theorem Sm.str {z : Str} (hz : strTiny z = true) : Sm h (w + 1) d (.str z) := ⟨rfl, hz, Nat.zero_le _, by show 1 ≤ w + 1; omega, Nat.zero_le _⟩
theorem Sm.pair {a b : D} (x : Sm h w d a) (y : Sm h w' d b) : Sm (h + 1) (w + w' + 1) (d + 1) (.tup [a, b]) := by
  have := Sm.tup (.cons x (.cons y (.nil (w := 0))))
  exact this
/-- by reckoning -/
def smB (h w d : Nat) (x : D) : Bool := saneD x && tyB x && decide (htD x ≤ h) && decide (wtD x ≤ w) && decide (dpD x ≤ d)
theorem Sm.of (e : smB h w d x = true) : Sm h w d x := by
  simp only [smB, Bool.and_eq_true, decide_eq_true_eq] at e
  obtain ⟨⟨⟨⟨a1, a2⟩, a3⟩, a4⟩, a5⟩ := e
  exact ⟨a1, a2, a3, a4, a5⟩
end

end K01

set_option Elab.async false
set_option linter.all false
set_option maxRecDepth 100000
set_option maxHeartbeats 0
namespace K01
open PySem PySem.Spec L2 L3
open PyProof.Rows hiding St
section
variable {P : Program} {w : World} {K : PySem.W.Frag} {mg : Str → Option Value} {base : Heap}
/-! ### what is no recipe is refused at once -/
def S_ref (K : PySem.W.Frag) (n : Nat) : SP3 := fun ds G _ Ex => ds.length = n ∧ ∃ x r, ds = x :: r ∧ saneD x = true ∧ isRec x = false ∧ ∀ env, Ex (Bad K "BadRecipe") none env G
theorem rf_bins_of (T : Tx K mg) : Good P w K mg base "bins_of" ["recipe"] 15 (S_ref K 1) := by
  have g_check_recipe := ok_check (P := P) (w := w) (base := base) T
  refine good_of (d_bins_of T) sc_bins_of fun f cd A outer s H E hp tk hgd hr => ⟨_, (s_cons (s_expr (c_call g_check_recipe (hr.mono (by omega)) hgd tk (a_cons (c_var 0) a_nil)))
      s_never), fun ds G R Ex hlen hS => ?_⟩
  clear hp tk hgd hr hlen
  obtain ⟨hl, x, r, rfl, h1, h2, h3⟩ := hS
  match r, hl with
  | [], _ =>
    rw [show start3 ["recipe"] [x] = [some (x)] from rfl]
    simp only [wExpr, wRaise, gSb, wSeq, wNext, wRet, wRetN, wExpr, wIfS, wSet, wAsg, wPar, wAug, w1, w2, wA, aNil, aCons, wVar, wVarT, wC, tOfW, w3c, wAnd, wOr, wNot, tAnd3, tOr3, tNot3, wIf, wTup, wLst, wLstO, wCall, wSl, pNone, pSome, wipe3, List.map_cons, List.map_nil, fI2, fI2C, fI1, fAbs, addI, mulI, intI, eqS, neS, isN_, notN_, L3.isNon, gN, gsN, gsC, gT, asT, at3, List.set_cons_zero, List.set_cons_succ, Option.some.injEq, exists_eq_left', D.bl.injEq, D.int.injEq, D.tup.injEq, List.length_cons, List.length_nil, Nat.reduceAdd, true_and, if_true, if_false, Bool.false_eq_true, reduceIte, ite_true, ite_false, len_t0, len_t1, len_t2, len_t3, len_l0, len_l1, eqI, neI, Int.reduceBEq, Int.reduceLT, Int.reduceLE, Int.reduceNeg, decide_true, decide_false, Bool.not_true, Bool.not_false, ix0, ix1, ix2, and_true, and_self, S_check]
    exact ⟨h1, (fun z => by rw [h2] at z; cases z), fun _ env => h3 _⟩
theorem rf_depth (T : Tx K mg) : Good P w K mg base "depth" ["recipe"] 15 (S_ref K 1) := by
  have g_check_recipe := ok_check (P := P) (w := w) (base := base) T
  refine good_of (d_depth T) sc_depth fun f cd A outer s H E hp tk hgd hr => ⟨_, (s_cons (s_expr (c_call g_check_recipe (hr.mono (by omega)) hgd tk (a_cons (c_var 0) a_nil)))
      s_never), fun ds G R Ex hlen hS => ?_⟩
  clear hp tk hgd hr hlen
  obtain ⟨hl, x, r, rfl, h1, h2, h3⟩ := hS
  match r, hl with
  | [], _ =>
    rw [show start3 ["recipe"] [x] = [some (x)] from rfl]
    simp only [wExpr, wRaise, gSb, wSeq, wNext, wRet, wRetN, wExpr, wIfS, wSet, wAsg, wPar, wAug, w1, w2, wA, aNil, aCons, wVar, wVarT, wC, tOfW, w3c, wAnd, wOr, wNot, tAnd3, tOr3, tNot3, wIf, wTup, wLst, wLstO, wCall, wSl, pNone, pSome, wipe3, List.map_cons, List.map_nil, fI2, fI2C, fI1, fAbs, addI, mulI, intI, eqS, neS, isN_, notN_, L3.isNon, gN, gsN, gsC, gT, asT, at3, List.set_cons_zero, List.set_cons_succ, Option.some.injEq, exists_eq_left', D.bl.injEq, D.int.injEq, D.tup.injEq, List.length_cons, List.length_nil, Nat.reduceAdd, true_and, if_true, if_false, Bool.false_eq_true, reduceIte, ite_true, ite_false, len_t0, len_t1, len_t2, len_t3, len_l0, len_l1, eqI, neI, Int.reduceBEq, Int.reduceLT, Int.reduceLE, Int.reduceNeg, decide_true, decide_false, Bool.not_true, Bool.not_false, ix0, ix1, ix2, and_true, and_self, S_check]
    exact ⟨h1, (fun z => by rw [h2] at z; cases z), fun _ env => h3 _⟩
theorem rf_tightened (T : Tx K mg) : Good P w K mg base "tightened" ["recipe"] 15 (S_ref K 1) := by
  have g_check_recipe := ok_check (P := P) (w := w) (base := base) T
  refine good_of (d_tightened T) sc_tightened fun f cd A outer s H E hp tk hgd hr => ⟨_, (s_cons (s_expr (c_call g_check_recipe (hr.mono (by omega)) hgd tk (a_cons (c_var 0) a_nil)))
      s_never), fun ds G R Ex hlen hS => ?_⟩
  clear hp tk hgd hr hlen
  obtain ⟨hl, x, r, rfl, h1, h2, h3⟩ := hS
  match r, hl with
  | [], _ =>
    rw [show start3 ["recipe", "found"] [x] = [some (x), none] from rfl]
    simp only [wExpr, wRaise, gSb, wSeq, wNext, wRet, wRetN, wExpr, wIfS, wSet, wAsg, wPar, wAug, w1, w2, wA, aNil, aCons, wVar, wVarT, wC, tOfW, w3c, wAnd, wOr, wNot, tAnd3, tOr3, tNot3, wIf, wTup, wLst, wLstO, wCall, wSl, pNone, pSome, wipe3, List.map_cons, List.map_nil, fI2, fI2C, fI1, fAbs, addI, mulI, intI, eqS, neS, isN_, notN_, L3.isNon, gN, gsN, gsC, gT, asT, at3, List.set_cons_zero, List.set_cons_succ, Option.some.injEq, exists_eq_left', D.bl.injEq, D.int.injEq, D.tup.injEq, List.length_cons, List.length_nil, Nat.reduceAdd, true_and, if_true, if_false, Bool.false_eq_true, reduceIte, ite_true, ite_false, len_t0, len_t1, len_t2, len_t3, len_l0, len_l1, eqI, neI, Int.reduceBEq, Int.reduceLT, Int.reduceLE, Int.reduceNeg, decide_true, decide_false, Bool.not_true, Bool.not_false, ix0, ix1, ix2, and_true, and_self, S_check]
    exact ⟨h1, (fun z => by rw [h2] at z; cases z), fun _ env => h3 _⟩
theorem rf_simplified (T : Tx K mg) : Good P w K mg base "simplified" ["recipe"] 15 (S_ref K 1) := by
  have g_check_recipe := ok_check (P := P) (w := w) (base := base) T
  refine good_of (d_simplified T) sc_simplified fun f cd A outer s H E hp tk hgd hr => ⟨_, (s_cons (s_expr (c_call g_check_recipe (hr.mono (by omega)) hgd tk (a_cons (c_var 0) a_nil)))
      s_never), fun ds G R Ex hlen hS => ?_⟩
  clear hp tk hgd hr hlen
  obtain ⟨hl, x, r, rfl, h1, h2, h3⟩ := hS
  match r, hl with
  | [], _ =>
    rw [show start3 ["recipe", "found"] [x] = [some (x), none] from rfl]
    simp only [wExpr, wRaise, gSb, wSeq, wNext, wRet, wRetN, wExpr, wIfS, wSet, wAsg, wPar, wAug, w1, w2, wA, aNil, aCons, wVar, wVarT, wC, tOfW, w3c, wAnd, wOr, wNot, tAnd3, tOr3, tNot3, wIf, wTup, wLst, wLstO, wCall, wSl, pNone, pSome, wipe3, List.map_cons, List.map_nil, fI2, fI2C, fI1, fAbs, addI, mulI, intI, eqS, neS, isN_, notN_, L3.isNon, gN, gsN, gsC, gT, asT, at3, List.set_cons_zero, List.set_cons_succ, Option.some.injEq, exists_eq_left', D.bl.injEq, D.int.injEq, D.tup.injEq, List.length_cons, List.length_nil, Nat.reduceAdd, true_and, if_true, if_false, Bool.false_eq_true, reduceIte, ite_true, ite_false, len_t0, len_t1, len_t2, len_t3, len_l0, len_l1, eqI, neI, Int.reduceBEq, Int.reduceLT, Int.reduceLE, Int.reduceNeg, decide_true, decide_false, Bool.not_true, Bool.not_false, ix0, ix1, ix2, and_true, and_self, S_check]
    exact ⟨h1, (fun z => by rw [h2] at z; cases z), fun _ env => h3 _⟩
theorem rf_recipe_text (T : Tx K mg) : Good P w K mg base "recipe_text" ["recipe"] 15 (S_ref K 1) := by
  have g_check_recipe := ok_check (P := P) (w := w) (base := base) T
  refine good_of (d_recipe_text T) sc_recipe_text fun f cd A outer s H E hp tk hgd hr => ⟨_, (s_cons (s_expr (c_call g_check_recipe (hr.mono (by omega)) hgd tk (a_cons (c_var 0) a_nil)))
      s_never), fun ds G R Ex hlen hS => ?_⟩
  clear hp tk hgd hr hlen
  obtain ⟨hl, x, r, rfl, h1, h2, h3⟩ := hS
  match r, hl with
  | [], _ =>
    rw [show start3 ["recipe"] [x] = [some (x)] from rfl]
    simp only [wExpr, wRaise, gSb, wSeq, wNext, wRet, wRetN, wExpr, wIfS, wSet, wAsg, wPar, wAug, w1, w2, wA, aNil, aCons, wVar, wVarT, wC, tOfW, w3c, wAnd, wOr, wNot, tAnd3, tOr3, tNot3, wIf, wTup, wLst, wLstO, wCall, wSl, pNone, pSome, wipe3, List.map_cons, List.map_nil, fI2, fI2C, fI1, fAbs, addI, mulI, intI, eqS, neS, isN_, notN_, L3.isNon, gN, gsN, gsC, gT, asT, at3, List.set_cons_zero, List.set_cons_succ, Option.some.injEq, exists_eq_left', D.bl.injEq, D.int.injEq, D.tup.injEq, List.length_cons, List.length_nil, Nat.reduceAdd, true_and, if_true, if_false, Bool.false_eq_true, reduceIte, ite_true, ite_false, len_t0, len_t1, len_t2, len_t3, len_l0, len_l1, eqI, neI, Int.reduceBEq, Int.reduceLT, Int.reduceLE, Int.reduceNeg, decide_true, decide_false, Bool.not_true, Bool.not_false, ix0, ix1, ix2, and_true, and_self, S_check]
    exact ⟨h1, (fun z => by rw [h2] at z; cases z), fun _ env => h3 _⟩
theorem rf_is_makeup (T : Tx K mg) : Good P w K mg base "is_makeup" ["recipe", "many", "thing"] 15 (S_ref K 3) := by
  have g_check_recipe := ok_check (P := P) (w := w) (base := base) T
  refine good_of (d_is_makeup T) sc_is_makeup fun f cd A outer s H E hp tk hgd hr => ⟨_, (s_cons (s_expr (c_call g_check_recipe (hr.mono (by omega)) hgd tk (a_cons (c_var 0) a_nil)))
      s_never), fun ds G R Ex hlen hS => ?_⟩
  clear hp tk hgd hr hlen
  obtain ⟨hl, x, r, rfl, h1, h2, h3⟩ := hS
  match r, hl with
  | [a1, a2], _ =>
    rw [show start3 ["recipe", "many", "thing"] [x, a1, a2] = [some (x), some (a1), some (a2)] from rfl]
    simp only [wExpr, wRaise, gSb, wSeq, wNext, wRet, wRetN, wExpr, wIfS, wSet, wAsg, wPar, wAug, w1, w2, wA, aNil, aCons, wVar, wVarT, wC, tOfW, w3c, wAnd, wOr, wNot, tAnd3, tOr3, tNot3, wIf, wTup, wLst, wLstO, wCall, wSl, pNone, pSome, wipe3, List.map_cons, List.map_nil, fI2, fI2C, fI1, fAbs, addI, mulI, intI, eqS, neS, isN_, notN_, L3.isNon, gN, gsN, gsC, gT, asT, at3, List.set_cons_zero, List.set_cons_succ, Option.some.injEq, exists_eq_left', D.bl.injEq, D.int.injEq, D.tup.injEq, List.length_cons, List.length_nil, Nat.reduceAdd, true_and, if_true, if_false, Bool.false_eq_true, reduceIte, ite_true, ite_false, len_t0, len_t1, len_t2, len_t3, len_l0, len_l1, eqI, neI, Int.reduceBEq, Int.reduceLT, Int.reduceLE, Int.reduceNeg, decide_true, decide_false, Bool.not_true, Bool.not_false, ix0, ix1, ix2, and_true, and_self, S_check]
    exact ⟨h1, (fun z => by rw [h2] at z; cases z), fun _ env => h3 _⟩
theorem rf_check_prices (T : Tx K mg) : Good P w K mg base "check_prices" ["recipe", "prices"] 15 (S_ref K 2) := by
  have g_check_recipe := ok_check (P := P) (w := w) (base := base) T
  refine good_of (d_check_prices T) sc_check_prices fun f cd A outer s H E hp tk hgd hr => ⟨_, (s_cons (s_expr (c_call g_check_recipe (hr.mono (by omega)) hgd tk (a_cons (c_var 0) a_nil)))
      s_never), fun ds G R Ex hlen hS => ?_⟩
  clear hp tk hgd hr hlen
  obtain ⟨hl, x, r, rfl, h1, h2, h3⟩ := hS
  match r, hl with
  | [a1], _ =>
    rw [show start3 ["recipe", "prices"] [x, a1] = [some (x), some (a1)] from rfl]
    simp only [wExpr, wRaise, gSb, wSeq, wNext, wRet, wRetN, wExpr, wIfS, wSet, wAsg, wPar, wAug, w1, w2, wA, aNil, aCons, wVar, wVarT, wC, tOfW, w3c, wAnd, wOr, wNot, tAnd3, tOr3, tNot3, wIf, wTup, wLst, wLstO, wCall, wSl, pNone, pSome, wipe3, List.map_cons, List.map_nil, fI2, fI2C, fI1, fAbs, addI, mulI, intI, eqS, neS, isN_, notN_, L3.isNon, gN, gsN, gsC, gT, asT, at3, List.set_cons_zero, List.set_cons_succ, Option.some.injEq, exists_eq_left', D.bl.injEq, D.int.injEq, D.tup.injEq, List.length_cons, List.length_nil, Nat.reduceAdd, true_and, if_true, if_false, Bool.false_eq_true, reduceIte, ite_true, ite_false, len_t0, len_t1, len_t2, len_t3, len_l0, len_l1, eqI, neI, Int.reduceBEq, Int.reduceLT, Int.reduceLE, Int.reduceNeg, decide_true, decide_false, Bool.not_true, Bool.not_false, ix0, ix1, ix2, and_true, and_self, S_check]
    exact ⟨h1, (fun z => by rw [h2] at z; cases z), fun _ env => h3 _⟩
theorem rf_is_paper (T : Tx K mg) : Good P w K mg base "is_paper" ["recipe", "thing"] 15 (S_ref K 2) := by
  have g_check_recipe := ok_check (P := P) (w := w) (base := base) T
  refine good_of (d_is_paper T) sc_is_paper fun f cd A outer s H E hp tk hgd hr => ⟨_, (s_cons (s_expr (c_call g_check_recipe (hr.mono (by omega)) hgd tk (a_cons (c_var 0) a_nil)))
      s_never), fun ds G R Ex hlen hS => ?_⟩
  clear hp tk hgd hr hlen
  obtain ⟨hl, x, r, rfl, h1, h2, h3⟩ := hS
  match r, hl with
  | [a1], _ =>
    rw [show start3 ["recipe", "thing"] [x, a1] = [some (x), some (a1)] from rfl]
    simp only [wExpr, wRaise, gSb, wSeq, wNext, wRet, wRetN, wExpr, wIfS, wSet, wAsg, wPar, wAug, w1, w2, wA, aNil, aCons, wVar, wVarT, wC, tOfW, w3c, wAnd, wOr, wNot, tAnd3, tOr3, tNot3, wIf, wTup, wLst, wLstO, wCall, wSl, pNone, pSome, wipe3, List.map_cons, List.map_nil, fI2, fI2C, fI1, fAbs, addI, mulI, intI, eqS, neS, isN_, notN_, L3.isNon, gN, gsN, gsC, gT, asT, at3, List.set_cons_zero, List.set_cons_succ, Option.some.injEq, exists_eq_left', D.bl.injEq, D.int.injEq, D.tup.injEq, List.length_cons, List.length_nil, Nat.reduceAdd, true_and, if_true, if_false, Bool.false_eq_true, reduceIte, ite_true, ite_false, len_t0, len_t1, len_t2, len_t3, len_l0, len_l1, eqI, neI, Int.reduceBEq, Int.reduceLT, Int.reduceLE, Int.reduceNeg, decide_true, decide_false, Bool.not_true, Bool.not_false, ix0, ix1, ix2, and_true, and_self, S_check]
    exact ⟨h1, (fun z => by rw [h2] at z; cases z), fun _ env => h3 _⟩
theorem rf_cheapest (T : Tx K mg) : Good P w K mg base "cheapest" ["recipe", "prices"] 16 (S_ref K 2) := by
  have g_check_prices := rf_check_prices (P := P) (w := w) (base := base) T
  refine good_of (d_cheapest T) sc_cheapest fun f cd A outer s H E hp tk hgd hr => ⟨_, (s_cons (s_expr (c_call g_check_prices (hr.mono (by omega)) hgd tk (a_cons (c_var 0) (a_cons (c_var 1) a_nil))))
      s_never), fun ds G R Ex hlen hS => ?_⟩
  clear hp tk hgd hr hlen
  obtain ⟨hl, x, r, rfl, h1, h2, h3⟩ := hS
  match r, hl with
  | [a1], _ =>
    rw [show start3 ["recipe", "prices"] [x, a1] = [some (x), some (a1)] from rfl]
    simp only [wExpr, wRaise, gSb, wSeq, wNext, wRet, wRetN, wExpr, wIfS, wSet, wAsg, wPar, wAug, w1, w2, wA, aNil, aCons, wVar, wVarT, wC, tOfW, w3c, wAnd, wOr, wNot, tAnd3, tOr3, tNot3, wIf, wTup, wLst, wLstO, wCall, wSl, pNone, pSome, wipe3, List.map_cons, List.map_nil, fI2, fI2C, fI1, fAbs, addI, mulI, intI, eqS, neS, isN_, notN_, L3.isNon, gN, gsN, gsC, gT, asT, at3, List.set_cons_zero, List.set_cons_succ, Option.some.injEq, exists_eq_left', D.bl.injEq, D.int.injEq, D.tup.injEq, List.length_cons, List.length_nil, Nat.reduceAdd, true_and, if_true, if_false, Bool.false_eq_true, reduceIte, ite_true, ite_false, len_t0, len_t1, len_t2, len_t3, len_l0, len_l1, eqI, neI, Int.reduceBEq, Int.reduceLT, Int.reduceLE, Int.reduceNeg, decide_true, decide_false, Bool.not_true, Bool.not_false, ix0, ix1, ix2, and_true, and_self, S_ref]
    exact ⟨x, [a1], rfl, h1, h2, fun env => h3 _⟩
theorem rf_corners (T : Tx K mg) : GoodD P w K mg base "corners" ["recipe", "many", "most"] [.int 1000] 15 (S_ref K 3) := by
  have g_check_recipe := ok_check (P := P) (w := w) (base := base) T
  refine goodD_of (d_corners T) sc_corners fun f cd A outer s H E hp tk hgd hr => ⟨_, (s_cons (s_expr (c_call g_check_recipe (hr.mono (by omega)) hgd tk (a_cons (c_var 0) a_nil)))
      s_never), fun ds G R Ex hlen hS => ?_⟩
  clear hp tk hgd hr hlen
  obtain ⟨hl, x, r, rfl, h1, h2, h3⟩ := hS
  match r, hl with
  | [a1, a2], _ =>
    rw [show start3 ["recipe", "many", "most", "found"] [x, a1, a2] = [some (x), some (a1), some (a2), none] from rfl]
    simp only [wExpr, wRaise, gSb, wSeq, wNext, wRet, wRetN, wExpr, wIfS, wSet, wAsg, wPar, wAug, w1, w2, wA, aNil, aCons, wVar, wVarT, wC, tOfW, w3c, wAnd, wOr, wNot, tAnd3, tOr3, tNot3, wIf, wTup, wLst, wLstO, wCall, wSl, pNone, pSome, wipe3, List.map_cons, List.map_nil, fI2, fI2C, fI1, fAbs, addI, mulI, intI, eqS, neS, isN_, notN_, L3.isNon, gN, gsN, gsC, gT, asT, at3, List.set_cons_zero, List.set_cons_succ, Option.some.injEq, exists_eq_left', D.bl.injEq, D.int.injEq, D.tup.injEq, List.length_cons, List.length_nil, Nat.reduceAdd, true_and, if_true, if_false, Bool.false_eq_true, reduceIte, ite_true, ite_false, len_t0, len_t1, len_t2, len_t3, len_l0, len_l1, eqI, neI, Int.reduceBEq, Int.reduceLT, Int.reduceLE, Int.reduceNeg, decide_true, decide_false, Bool.not_true, Bool.not_false, ix0, ix1, ix2, and_true, and_self, S_check]
    exact ⟨h1, (fun z => by rw [h2] at z; cases z), fun _ env => h3 _⟩
/-- the second of two is none -/
def S_ref2 (K : PySem.W.Frag) : SP3 := fun ds G _ Ex => ∃ y x a, ds = [y, x, a] ∧ saneD y = true ∧ isRec y = true ∧ saneD x = true ∧ isRec x = false ∧ ∀ env, Ex (Bad K "BadRecipe") none env G
theorem rf_check_both (T : Tx K mg) : Good P w K mg base "check_both" ["one", "other", "many"] 15 (S_ref2 K) := by
  have g_check_recipe := ok_check (P := P) (w := w) (base := base) T
  refine good_of (d_check_both T) sc_check_both fun f cd A outer s H E hp tk hgd hr => ⟨_, (s_cons (s_expr (c_call g_check_recipe (hr.mono (by omega)) hgd tk (a_cons (c_var 0) a_nil)))
      (s_cons (s_expr (c_call g_check_recipe (hr.mono (by omega)) hgd tk (a_cons (c_var 1) a_nil)))
      s_never)), fun ds G R Ex hlen hS => ?_⟩
  clear hp tk hgd hr hlen
  obtain ⟨y, x, a, rfl, h0, h0', h1, h2, h3⟩ := hS
  rw [show start3 ["one", "other", "many"] [y, x, a] = [some (y), some (x), some (a)] from rfl]
  simp only [wExpr, wRaise, gSb, wSeq, wNext, wRet, wRetN, wExpr, wIfS, wSet, wAsg, wPar, wAug, w1, w2, wA, aNil, aCons, wVar, wVarT, wC, tOfW, w3c, wAnd, wOr, wNot, tAnd3, tOr3, tNot3, wIf, wTup, wLst, wLstO, wCall, wSl, pNone, pSome, wipe3, List.map_cons, List.map_nil, fI2, fI2C, fI1, fAbs, addI, mulI, intI, eqS, neS, isN_, notN_, L3.isNon, gN, gsN, gsC, gT, asT, at3, List.set_cons_zero, List.set_cons_succ, Option.some.injEq, exists_eq_left', D.bl.injEq, D.int.injEq, D.tup.injEq, List.length_cons, List.length_nil, Nat.reduceAdd, true_and, if_true, if_false, Bool.false_eq_true, reduceIte, ite_true, ite_false, len_t0, len_t1, len_t2, len_t3, len_l0, len_l1, eqI, neI, Int.reduceBEq, Int.reduceLT, Int.reduceLE, Int.reduceNeg, decide_true, decide_false, Bool.not_true, Bool.not_false, ix0, ix1, ix2, and_true, and_self, S_check]
  exact ⟨h0, (fun _ => ⟨h1, (fun z => by rw [h2] at z; cases z), fun _ env => h3 _⟩), (fun z => by rw [h0'] at z; cases z)⟩
theorem rf_same_makeups (T : Tx K mg) : Good P w K mg base "same_makeups" ["one", "other", "many"] 16 (S_ref2 K) := by
  have g_check_both := rf_check_both (P := P) (w := w) (base := base) T
  refine good_of (d_same_makeups T) sc_same_makeups fun f cd A outer s H E hp tk hgd hr => ⟨_, (s_cons (s_expr (c_call g_check_both (hr.mono (by omega)) hgd tk (a_cons (c_var 0) (a_cons (c_var 1) (a_cons (c_var 2) a_nil)))))
      s_never), fun ds G R Ex hlen hS => ?_⟩
  clear hp tk hgd hr hlen
  obtain ⟨y, x, a, rfl, h0, h0', h1, h2, h3⟩ := hS
  rw [show start3 ["one", "other", "many"] [y, x, a] = [some (y), some (x), some (a)] from rfl]
  simp only [wExpr, wRaise, gSb, wSeq, wNext, wRet, wRetN, wExpr, wIfS, wSet, wAsg, wPar, wAug, w1, w2, wA, aNil, aCons, wVar, wVarT, wC, tOfW, w3c, wAnd, wOr, wNot, tAnd3, tOr3, tNot3, wIf, wTup, wLst, wLstO, wCall, wSl, pNone, pSome, wipe3, List.map_cons, List.map_nil, fI2, fI2C, fI1, fAbs, addI, mulI, intI, eqS, neS, isN_, notN_, L3.isNon, gN, gsN, gsC, gT, asT, at3, List.set_cons_zero, List.set_cons_succ, Option.some.injEq, exists_eq_left', D.bl.injEq, D.int.injEq, D.tup.injEq, List.length_cons, List.length_nil, Nat.reduceAdd, true_and, if_true, if_false, Bool.false_eq_true, reduceIte, ite_true, ite_false, len_t0, len_t1, len_t2, len_t3, len_l0, len_l1, eqI, neI, Int.reduceBEq, Int.reduceLT, Int.reduceLE, Int.reduceNeg, decide_true, decide_false, Bool.not_true, Bool.not_false, ix0, ix1, ix2, and_true, and_self, S_ref2]
  exact ⟨y, x, a, rfl, h0, h0', h1, h2, fun env => h3 _⟩
end

end K01

set_option Elab.async false
set_option linter.all false
set_option maxRecDepth 100000
set_option maxHeartbeats 0
namespace K01
open PySem PySem.Spec L2 L3
open PyProof.Rows hiding St
/-! ### ways into a recipe -/
def natsD (w : List Nat) : D := .tup (w.map fun n : Nat => .int (n : Int))
/-- along w, through parts, from x to y -/
def Pth : List Nat → D → D → Prop
  | [], x, y => x = y
  | n :: w, x, y => ∃ xs a b t, x = .tup xs ∧ xs[n]? = some (.tup [a, b, t]) ∧ Pth w t y
def withAt (o : D) : List Nat → D → D
  | [], _ => o
  | n :: w, .tup xs => .tup (xs.take n ++ [.tup [lowD (xs.getD n .non), highD (xs.getD n .non), withAt o w (thirdOf (xs.getD n .non))]] ++ xs.drop (n + 1))
  | _ :: _, x => x
theorem Sm.self {x : D} (h1 : saneD x = true) (h2 : tyB x = true) : Sm (htD x) (wtD x) (dpD x) x := ⟨h1, h2, Nat.le_refl _, Nat.le_refl _, Nat.le_refl _⟩
theorem with_sm {y o : D} {h' w' d' : Nat} (so : Sm h' w' d' o) : ∀ (w : List Nat) (x : D), Pth w x y → saneD x = true → tyB x = true → Sm (htD x + h') (wtD x + w') (dpD x + d') (withAt o w x)
  | [], x, _, _, _ => so.mono (by omega) (by omega) (by omega)
  | n :: w, x, hp, h1, h2 => by
    obtain ⟨xs, a, b, t, rfl, hn, hp⟩ := hp
    have hlt : n < xs.length := (List.getElem?_eq_some_iff.mp hn).1
    have hg : xs.getD n .non = .tup [a, b, t] := by rw [List.getD_eq_getElem?_getD, hn]; rfl
    have hsplit : xs = xs.take n ++ (.tup [a, b, t] :: xs.drop (n + 1)) := by
      have e : xs[n] = .tup [a, b, t] := (List.getElem?_eq_some_iff.mp hn).2
      rw [← e, List.getElem_cons_drop, List.take_append_drop]
    have sx : SmL (htL xs) (wtL xs) (dpL xs) xs := ⟨h1, h2, Nat.le_refl _, Nat.le_refl _, Nat.le_refl _⟩
    have st := sx.take n
    have sd := sx.drop (n + 1)
    have sp := sx.mem (List.mem_of_getElem? hn)
    have hw : wtL xs = wtL (xs.take n) + (wtD (.tup [a, b, t]) + wtL (xs.drop (n + 1))) := by
      conv => lhs; rw [hsplit]
      rw [wtL_append]
      rfl
    have s1 := sp.sane
    have s2 := sp.ty
    have s3 := sp.ht
    have s5 := sp.dp
    simp only [saneD, saneL, Bool.and_true, Bool.and_eq_true] at s1
    simp only [tyB, tyBL, Bool.and_true, Bool.and_eq_true] at s2
    simp only [htD, htL] at s3
    simp only [dpD, dpL] at s5
    have ih := with_sm so w t hp s1.2.2 s2.2.2
    simp only [withAt, hg, lowD, highD, thirdOf]
    have new : Sm (htL xs + h') (1 + wtD a + wtD b + (wtD t + w')) (dpL xs + d') (.tup [a, b, withAt o w t]) := by
      have q := Sm.tup (h := htL xs + h' - 1) (d := dpL xs + d' - 1) (.cons ((Sm.self s1.1 s2.1).mono (by omega) (Nat.le_refl _) (by omega)) (.cons ((Sm.self s1.2.1 s2.2.1).mono (by omega) (Nat.le_refl _) (by omega)) (.cons (ih.mono (by omega) (Nat.le_refl _) (by omega)) (.nil (w := 0)))))
      exact q.mono (by omega) (by omega) (by omega)
    have st' : SmL (htL xs + h') (wtL (xs.take n)) (dpL xs + d') (xs.take n) := ⟨st.sane, st.ty, by have := st.ht; omega, Nat.le_refl _, by have := st.dp; omega⟩
    have sd' : SmL (htL xs + h') (wtL (xs.drop (n + 1))) (dpL xs + d') (xs.drop (n + 1)) := ⟨sd.sane, sd.ty, by have := sd.ht; omega, Nat.le_refl _, by have := sd.dp; omega⟩
    have fin := Sm.tup ((st'.append (.cons new (.nil (w := 0)))).append sd')
    have w3 : wtD (.tup [a, b, t]) = 1 + (wtD a + (wtD b + (wtD t + 0))) := rfl
    refine fin.mono ?_ ?_ ?_
    · simp only [htD]; omega
    · simp only [wtD]
      rw [w3] at hw
      omega
    · simp only [dpD]; omega
section
variable {P : Program} {w : World} {K : PySem.W.Frag} {mg : Str → Option Value} {base : Heap}
def PlOk (x : D) (d : Nat) (w0 : List Nat) (v : List Nat) : Prop := ∃ u ys, v = w0 ++ u ∧ Pth u x (.tup ys) ∧ u.length ≤ d ∧ 0 < ys.length
def S_pl (n : Nat) : SP3 := fun ds G R _ => match ds with
  | [x, y] => ∃ (w0 : List Nat) (d : Nat) (l : List Int), saneD x = true ∧ y = natsD w0 ∧ lk x = some (d, l) ∧ d ≤ n ∧ w0.length + d ≤ 100 ∧ wtD x ≤ 100000 ∧
    ∀ ws : List (List Nat), ws.length ≤ wtD x → (∀ v ∈ ws, PlOk x d w0 v) → R (.lst (ws.map natsD)) G
  | _ => False
def S_plP : Nat → SP3
  | 0 => fun _ _ _ _ => False
  | n + 1 => S_pl n
theorem pl_step (T : Tx K mg) (n : Nat) (g__law_places : Good P w K mg base "_law_places" ["recipe", "way"] (1 + n) (S_plP n)) : Good P w K mg base "_law_places" ["recipe", "way"] (1 + n + 1) (S_pl n) := by
  refine good_of (d__law_places T) sc__law_places fun f cd A outer s H E hp tk hgd hr => ⟨_, (s_cons (s_if (t_val (c_callB call_isi3 lift_isi (n_isinstance T) (a_cons (c_var 0) (a_cons (c_bltn (n := "int") (n_int T)) a_nil)))) (s_one (s_ret (c_lst a_nil))) s_nil)
      (s_cons (s_set 2 sc__law_places.nd rfl (.inl rfl) rfl (c_lst (a_cons (c_var 1) a_nil)))
      (s_cons (s_for hp rfl (i_enX (n_enumerate T) (c_var 0)) (g_tup (n := 2) rfl (gs_cons (g_name 3 sc__law_places.nd rfl (.inl rfl)) (gs_cons (g_name 4 sc__law_places.nd rfl (.inl rfl)) gs_nil))) (s_one (s_set 2 sc__law_places.nd rfl (.inl rfl) rfl (c_op op_add3 lift_add (c_var 2) (c_call g__law_places (hr.mono (by omega)) hgd tk (a_cons (c_ix (c_var 4) c_int) (a_cons (c_op op_add3 lift_add (c_var 1) (c_tup (a_cons (c_var 3) a_nil))) a_nil)))))))
      (s_one (s_ret (c_var 2)))))), fun ds G R Ex hlen hS => ?_⟩
  clear hp tk hgd hr hlen
  match ds, hS with
  | [x, y], ⟨w0, d, l, h1, e1, h2, h3, h4, h5, hR⟩ =>
    subst e1
    rw [show start3 ["recipe", "way", "found", "place", "part"] [x, natsD w0] = [some (x), some (natsD w0), none, none, none] from rfl]
    have hr := sane_rd x h1
    simp only [wExpr, wRaise, gSb, wSeq, wNext, wRet, wRetN, wExpr, wIfS, wSet, wAsg, wPar, wAug, w1, w2, wA, aNil, aCons, wVar, wVarT, wC, tOfW, w3c, wAnd, wOr, wNot, tAnd3, tOr3, tNot3, wIf, wTup, wLst, wLstO, wCall, wSl, pNone, pSome, wipe3, List.map_cons, List.map_nil, fI2, fI2C, fI1, fAbs, addI, mulI, intI, eqS, neS, isN_, notN_, L3.isNon, gN, gsN, gsC, gT, asT, at3, List.set_cons_zero, List.set_cons_succ, Option.some.injEq, exists_eq_left', D.bl.injEq, D.int.injEq, D.tup.injEq, List.length_cons, List.length_nil, Nat.reduceAdd, true_and, if_true, if_false, Bool.false_eq_true, reduceIte, ite_true, ite_false, len_t0, len_t1, len_t2, len_t3, len_l0, len_l1, eqI, neI, Int.reduceBEq, Int.reduceLT, Int.reduceLE, Int.reduceNeg, decide_true, decide_false, Bool.not_true, Bool.not_false, ix0, ix1, ix2, and_true, and_self, isi_int hr]
    cases x with
    | int i =>
      simp only [isIntD, Bool.true_or, if_true]
      exact ⟨size_small (by omega), hR [] (Nat.zero_le _) (fun v hv => by cases hv)⟩
    | tup xs =>
      obtain ⟨e, rfl, k1, k2, k3, k4⟩ := lk_tup h2
      have hf := fit_of k2
      have hw : wtD (.tup xs) = 1 + wtL xs := rfl
      simp only [isIntD, isBlD, Bool.or_self, Bool.false_eq_true, if_false, wFor, iEnX, wExpr, wRaise, gSb, wSeq, wNext, wRet, wRetN, wExpr, wIfS, wSet, wAsg, wPar, wAug, w1, w2, wA, aNil, aCons, wVar, wVarT, wC, tOfW, w3c, wAnd, wOr, wNot, tAnd3, tOr3, tNot3, wIf, wTup, wLst, wLstO, wCall, wSl, pNone, pSome, wipe3, List.map_cons, List.map_nil, fI2, fI2C, fI1, fAbs, addI, mulI, intI, eqS, neS, isN_, notN_, L3.isNon, gN, gsN, gsC, gT, asT, at3, List.set_cons_zero, List.set_cons_succ, Option.some.injEq, exists_eq_left', D.bl.injEq, D.int.injEq, D.tup.injEq, List.length_cons, List.length_nil, Nat.reduceAdd, true_and, if_true, if_false, Bool.false_eq_true, reduceIte, ite_true, ite_false, len_t0, len_t1, len_t2, len_t3, len_l0, len_l1, eqI, neI, Int.reduceBEq, Int.reduceLT, Int.reduceLE, Int.reduceNeg, decide_true, decide_false, Bool.not_true, Bool.not_false, ix0, ix1, ix2, and_true, and_self]
      refine ⟨size_small (by omega), xs, rfl, ?_⟩
      refine lp_ix (enumD xs) (fun i env G' => G' = G ∧ ∃ (ws : List (List Nat)) (u3 u4 : Option D), env = [some (.tup xs), some (natsD w0), some (.lst (ws.map natsD)), u3, u4] ∧ ws.length ≤ 1 + wtL (xs.take i) ∧ ∀ v ∈ ws, PlOk (.tup xs) (e + 1) w0 v)
        (fun _ _ _ _ => trivial) ?_ ?_ _ _ ⟨rfl, [w0], none, none, rfl, by simp, ?_⟩
      · rintro i dd hd env G' N ⟨rfl, ws, u3, u4, rfl, hl, hv⟩ hN
        obtain ⟨p, hp, rfl⟩ := enum_get hd
        have hpm := List.mem_of_getElem? hp
        obtain ⟨a, b, t, rfl, _⟩ := part_cases (k3 p hpm)
        obtain ⟨d', m, q1, q2, _⟩ := lkL_mem k3 k1 _ hpm
        have hst := sane_tup (sane_tup h1 _ hpm) t (by simp)
        obtain ⟨n', rfl⟩ : ∃ n', n = n' + 1 := ⟨n - 1, by omega⟩
        have hi : i < xs.length := (List.getElem?_eq_some_iff.mp hp).1
        have hwt : wtL (xs.take (i + 1)) = wtL (xs.take i) + wtD (.tup [a, b, t]) := by
          rw [List.take_succ_eq_append_getElem hi, wtL_append, (List.getElem?_eq_some_iff.mp hp).2]
          simp [wtL]
        have hwl : wtL (xs.take (i + 1)) ≤ wtL xs := by
          conv => rhs; rw [← List.take_append_drop (i + 1) xs]
          rw [wtL_append]
          omega
        have w3 : wtD (.tup [a, b, t]) = 1 + (wtD a + (wtD b + (wtD t + 0))) := rfl
        have hns : ((w0.map fun n : Nat => D.int (n : Int)) ++ [D.int (i : Int)]) = (w0 ++ [i]).map fun n : Nat => D.int (n : Int) := by simp
        simp only [wExpr, wRaise, gSb, wSeq, wNext, wRet, wRetN, wExpr, wIfS, wSet, wAsg, wPar, wAug, w1, w2, wA, aNil, aCons, wVar, wVarT, wC, tOfW, w3c, wAnd, wOr, wNot, tAnd3, tOr3, tNot3, wIf, wTup, wLst, wLstO, wCall, wSl, pNone, pSome, wipe3, List.map_cons, List.map_nil, fI2, fI2C, fI1, fAbs, addI, mulI, intI, eqS, neS, isN_, notN_, L3.isNon, gN, gsN, gsC, gT, asT, at3, List.set_cons_zero, List.set_cons_succ, Option.some.injEq, exists_eq_left', D.bl.injEq, D.int.injEq, D.tup.injEq, List.length_cons, List.length_nil, Nat.reduceAdd, true_and, if_true, if_false, Bool.false_eq_true, reduceIte, ite_true, ite_false, len_t0, len_t1, len_t2, len_t3, len_l0, len_l1, eqI, neI, Int.reduceBEq, Int.reduceLT, Int.reduceLE, Int.reduceNeg, decide_true, decide_false, Bool.not_true, Bool.not_false, ix0, ix1, ix2, and_true, and_self, gT, gsC, gsN, asT, S_plP, S_pl, natsD, add_t, hns]
        have hl1 : (w0.map fun n : Nat => D.int (n : Int)).length + 1 ≤ sizeLine := size_small (by rw [List.length_map]; omega)
        have s1 : (1 : Nat) ≤ sizeLine := size_small (by omega)
        refine ⟨s1, hl1, w0 ++ [i], d', m, hst, rfl, q1, by omega, by rw [List.length_append, List.length_singleton]; omega, by omega, fun ws' hl' hv' => ?_⟩
        refine add_lst (size_small (by rw [List.length_map, List.length_map]; omega)) ?_
        rw [← List.map_append]
        refine hN _ _ ⟨rfl, ws ++ ws', _, _, rfl, by rw [List.length_append]; omega, fun v hm => ?_⟩
        rcases List.mem_append.mp hm with z | z
        · exact hv v z
        · obtain ⟨u, ys, e1, e2, e3, e4⟩ := hv' v z
          exact ⟨i :: u, ys, by rw [e1]; simp, ⟨xs, a, b, t, rfl, hp, e2⟩, by rw [List.length_cons]; omega, e4⟩
      · rintro env G' ⟨rfl, ws, u3, u4, rfl, hl, hv⟩
        simp only [wExpr, wRaise, gSb, wSeq, wNext, wRet, wRetN, wExpr, wIfS, wSet, wAsg, wPar, wAug, w1, w2, wA, aNil, aCons, wVar, wVarT, wC, tOfW, w3c, wAnd, wOr, wNot, tAnd3, tOr3, tNot3, wIf, wTup, wLst, wLstO, wCall, wSl, pNone, pSome, wipe3, List.map_cons, List.map_nil, fI2, fI2C, fI1, fAbs, addI, mulI, intI, eqS, neS, isN_, notN_, L3.isNon, gN, gsN, gsC, gT, asT, at3, List.set_cons_zero, List.set_cons_succ, Option.some.injEq, exists_eq_left', D.bl.injEq, D.int.injEq, D.tup.injEq, List.length_cons, List.length_nil, Nat.reduceAdd, true_and, if_true, if_false, Bool.false_eq_true, reduceIte, ite_true, ite_false, len_t0, len_t1, len_t2, len_t3, len_l0, len_l1, eqI, neI, Int.reduceBEq, Int.reduceLT, Int.reduceLE, Int.reduceNeg, decide_true, decide_false, Bool.not_true, Bool.not_false, ix0, ix1, ix2, and_true, and_self]
        refine hR ws ?_ hv
        have : (enumD xs).length = xs.length := enum_len
        rw [this, List.take_length] at hl
        omega
      · intro v hv
        rw [List.mem_singleton] at hv
        subst hv
        exact ⟨[], xs, by simp, rfl, Nat.zero_le _, by omega⟩
    | _ => simp only [lk] at h2; cases h2
theorem ok_pl (T : Tx K mg) : ∀ n, Good P w K mg base "_law_places" ["recipe", "way"] (1 + n + 1) (S_pl n)
  | 0 => pl_step T 0 (good_no 1 (d__law_places T))
  | n + 1 => pl_step T (n + 1) (ok_pl T n)
def S_at : SP3 := fun ds G R _ => match ds with
  | [x, y] => ∃ (u : List Nat) (z : D), y = natsD u ∧ Pth u x z ∧ R z G
  | _ => False
theorem ok_at (T : Tx K mg) : Good P w K mg base "_law_at" ["recipe", "way"] 1 S_at := by
  refine good_of (d__law_at T) sc__law_at fun f cd A outer s H E hp tk hgd hr => ⟨_, (s_cons (s_set 2 sc__law_at.nd rfl (.inl rfl) rfl (c_var 0))
      (s_cons (s_for hp rfl (i_tpl (c_var 1)) (g_name 3 sc__law_at.nd rfl (.inl rfl)) (s_one (s_set 2 sc__law_at.nd rfl (.inl rfl) rfl (c_ix (c_ix (c_var 2) (c_var 3)) c_int))))
      (s_one (s_ret (c_var 2))))), fun ds G R Ex hlen hS => ?_⟩
  clear hp tk hgd hr hlen
  match ds, hS with
  | [x, y], ⟨u, z, e1, hp, hR⟩ =>
    subst e1
    rw [show start3 ["recipe", "way", "found", "place"] [x, natsD u] = [some (x), some (natsD u), none, none] from rfl]
    simp only [wExpr, wRaise, gSb, wSeq, wNext, wRet, wRetN, wExpr, wIfS, wSet, wAsg, wPar, wAug, w1, w2, wA, aNil, aCons, wVar, wVarT, wC, tOfW, w3c, wAnd, wOr, wNot, tAnd3, tOr3, tNot3, wIf, wTup, wLst, wLstO, wCall, wSl, pNone, pSome, wipe3, List.map_cons, List.map_nil, fI2, fI2C, fI1, fAbs, addI, mulI, intI, eqS, neS, isN_, notN_, L3.isNon, gN, gsN, gsC, gT, asT, at3, List.set_cons_zero, List.set_cons_succ, Option.some.injEq, exists_eq_left', D.bl.injEq, D.int.injEq, D.tup.injEq, List.length_cons, List.length_nil, Nat.reduceAdd, true_and, if_true, if_false, Bool.false_eq_true, reduceIte, ite_true, ite_false, len_t0, len_t1, len_t2, len_t3, len_l0, len_l1, eqI, neI, Int.reduceBEq, Int.reduceLT, Int.reduceLE, Int.reduceNeg, decide_true, decide_false, Bool.not_true, Bool.not_false, ix0, ix1, ix2, and_true, and_self, wFor, iTpl]
    refine ⟨_, rfl, ?_⟩
    have main : ∀ (v : List Nat) (x' : D) (u3 : Option D), Pth v x' z → lp (fun _ => True) (gN 3) (wSet 2 (w2 fIx (w2 fIx (wVar 2) (wVar 3)) (wC (.int 2)))) { nx := fun env' G' => (∃ d, at3 env' 2 = some d ∧ R d G'), rt := R, ex := Ex } (v.map fun n : Nat => D.int (n : Int)) [some x, some (natsD u), some x', u3] G := by
      intro v
      induction v with
      | nil =>
        intro x' u3 hv
        have hv' : x' = z := hv
        subst hv'
        exact ⟨trivial, x', rfl, hR⟩
      | cons n v ih =>
        intro x' u3 hv
        obtain ⟨xs, a, b, t, rfl, hn, hv⟩ := hv
        refine ⟨trivial, ?_⟩
        simp only [wExpr, wRaise, gSb, wSeq, wNext, wRet, wRetN, wExpr, wIfS, wSet, wAsg, wPar, wAug, w1, w2, wA, aNil, aCons, wVar, wVarT, wC, tOfW, w3c, wAnd, wOr, wNot, tAnd3, tOr3, tNot3, wIf, wTup, wLst, wLstO, wCall, wSl, pNone, pSome, wipe3, List.map_cons, List.map_nil, fI2, fI2C, fI1, fAbs, addI, mulI, intI, eqS, neS, isN_, notN_, L3.isNon, gN, gsN, gsC, gT, asT, at3, List.set_cons_zero, List.set_cons_succ, Option.some.injEq, exists_eq_left', D.bl.injEq, D.int.injEq, D.tup.injEq, List.length_cons, List.length_nil, Nat.reduceAdd, true_and, if_true, if_false, Bool.false_eq_true, reduceIte, ite_true, ite_false, len_t0, len_t1, len_t2, len_t3, len_l0, len_l1, eqI, neI, Int.reduceBEq, Int.reduceLT, Int.reduceLE, Int.reduceNeg, decide_true, decide_false, Bool.not_true, Bool.not_false, ix0, ix1, ix2, and_true, and_self, ix_t hn]
        exact ih t _ hv
    exact main u x none hp
def S_wi (n : Nat) : SP3 := fun ds G R _ => match ds with
  | [x, y, o] => ∃ (u : List Nat) (z : D), y = natsD u ∧ Pth u x z ∧ u.length ≤ n ∧ wtD x ≤ 100000 ∧ R (withAt o u x) G
  | _ => False
def S_wiP : Nat → SP3
  | 0 => fun _ _ _ _ => False
  | n + 1 => S_wi n
theorem wt_part {xs : List D} {a b t : D} (h : D.tup [a, b, t] ∈ xs) : wtD t + 1 ≤ wtL xs := by
  induction xs with
  | nil => cases h
  | cons y ys ih =>
    simp only [wtL]
    rcases List.mem_cons.mp h with z | z
    · subst z
      have : wtD (.tup [a, b, t]) = 1 + (wtD a + (wtD b + (wtD t + 0))) := rfl
      omega
    · have := ih z
      omega
theorem wi_step (T : Tx K mg) (n : Nat) (g__law_with : Good P w K mg base "_law_with" ["recipe", "way", "other"] (1 + n) (S_wiP n)) : Good P w K mg base "_law_with" ["recipe", "way", "other"] (1 + n + 1) (S_wi n) := by
  refine good_of (d__law_with T) sc__law_with fun f cd A outer s H E hp tk hgd hr => ⟨_, (s_cons (s_if (t_cmp (op_eq3 hr.units) lift_eq (c_callB call_len lift_len (n_len T) (a_cons (c_var 1) a_nil)) c_int) (s_one (s_ret (c_var 2))) s_nil)
      (s_cons (s_par 3 4 rfl sc__law_with.nd rfl rfl (by decide) rfl rfl (a_cons (c_ix (c_var 1) c_int) (a_cons (c_ix (c_var 0) (c_ix (c_var 1) c_int)) a_nil)) rfl)
      (s_one (s_ret (c_op op_add3 lift_add (c_op op_add3 lift_add (c_slice (c_var 0) p_none (p_some (c_var 3))) (c_tup (a_cons (c_tup (a_cons (c_ix (c_var 4) c_int) (a_cons (c_ix (c_var 4) c_int) (a_cons (c_call g__law_with (hr.mono (by omega)) hgd tk (a_cons (c_ix (c_var 4) c_int) (a_cons (c_slice (c_var 1) (p_some c_int) p_none) (a_cons (c_var 2) a_nil)))) a_nil)))) a_nil))) (c_slice (c_var 0) (p_some (c_op op_add3 lift_add (c_var 3) c_int)) p_none)))))), fun ds G R Ex hlen hS => ?_⟩
  clear hp tk hgd hr hlen
  match ds, hS with
  | [x, y, o], ⟨u, z, e1, hp, hl, hw, hR⟩ =>
    subst e1
    rw [show start3 ["recipe", "way", "other", "place", "part"] [x, natsD u, o] = [some (x), some (natsD u), some (o), none, none] from rfl]
    cases u with
    | nil =>
      simp only [wExpr, wRaise, gSb, wSeq, wNext, wRet, wRetN, wExpr, wIfS, wSet, wAsg, wPar, wAug, w1, w2, wA, aNil, aCons, wVar, wVarT, wC, tOfW, w3c, wAnd, wOr, wNot, tAnd3, tOr3, tNot3, wIf, wTup, wLst, wLstO, wCall, wSl, pNone, pSome, wipe3, List.map_cons, List.map_nil, fI2, fI2C, fI1, fAbs, addI, mulI, intI, eqS, neS, isN_, notN_, L3.isNon, gN, gsN, gsC, gT, asT, at3, List.set_cons_zero, List.set_cons_succ, Option.some.injEq, exists_eq_left', D.bl.injEq, D.int.injEq, D.tup.injEq, List.length_cons, List.length_nil, Nat.reduceAdd, true_and, if_true, if_false, Bool.false_eq_true, reduceIte, ite_true, ite_false, len_t0, len_t1, len_t2, len_t3, len_l0, len_l1, eqI, neI, Int.reduceBEq, Int.reduceLT, Int.reduceLE, Int.reduceNeg, decide_true, decide_false, Bool.not_true, Bool.not_false, ix0, ix1, ix2, and_true, and_self, natsD]
      exact hR
    | cons k u =>
      obtain ⟨xs, a, b, t, rfl, hn, hp⟩ := hp
      have hg : xs.getD k .non = .tup [a, b, t] := by rw [List.getD_eq_getElem?_getD, hn]; rfl
      have hm := List.mem_of_getElem? hn
      have hwt := wt_part hm
      have hwx : wtD (.tup xs) = 1 + wtL xs := rfl
      have hxl := wt_len (xs := xs)
      obtain ⟨n', rfl⟩ : ∃ n', n = n' + 1 := ⟨n - 1, by rw [List.length_cons] at hl; omega⟩
      simp only [withAt, hg, lowD, highD, thirdOf] at hR
      have e0 : (((u.length + 1 : Nat) : Int) == 0) = false := by
        rw [beq_eq_false_iff_ne]
        omega
      simp only [wExpr, wRaise, gSb, wSeq, wNext, wRet, wRetN, wExpr, wIfS, wSet, wAsg, wPar, wAug, w1, w2, wA, aNil, aCons, wVar, wVarT, wC, tOfW, w3c, wAnd, wOr, wNot, tAnd3, tOr3, tNot3, wIf, wTup, wLst, wLstO, wCall, wSl, pNone, pSome, wipe3, List.map_cons, List.map_nil, fI2, fI2C, fI1, fAbs, addI, mulI, intI, eqS, neS, isN_, notN_, L3.isNon, gN, gsN, gsC, gT, asT, at3, List.set_cons_zero, List.set_cons_succ, Option.some.injEq, exists_eq_left', D.bl.injEq, D.int.injEq, D.tup.injEq, List.length_cons, List.length_nil, Nat.reduceAdd, true_and, if_true, if_false, Bool.false_eq_true, reduceIte, ite_true, ite_false, len_t0, len_t1, len_t2, len_t3, len_l0, len_l1, eqI, neI, Int.reduceBEq, Int.reduceLT, Int.reduceLE, Int.reduceNeg, decide_true, decide_false, Bool.not_true, Bool.not_false, ix0, ix1, ix2, and_true, and_self, natsD, len_tup, List.length_map, e0]
      have i0 : ∀ (l : List D) (d : D) (R : K3), fIx (.tup (d :: l)) (.int 0) G R = R d G := fun _ _ _ => ix0
      simp only [ix_t hn, sl_t]
      have c1 : L3.cutD (D.int (k : Int) :: u.map fun n : Nat => D.int (n : Int)) (some 1) none = u.map fun n : Nat => D.int (n : Int) := cut_from (j := 1)
      have c2 : L3.cutD xs none (some (k : Int)) = xs.take k := cut_upto
      have c3 : L3.cutD xs (some ((k : Int) + 1)) none = xs.drop (k + 1) := cut_from (j := k + 1)
      simp only [wExpr, wRaise, gSb, wSeq, wNext, wRet, wRetN, wExpr, wIfS, wSet, wAsg, wPar, wAug, w1, w2, wA, aNil, aCons, wVar, wVarT, wC, tOfW, w3c, wAnd, wOr, wNot, tAnd3, tOr3, tNot3, wIf, wTup, wLst, wLstO, wCall, wSl, pNone, pSome, wipe3, List.map_cons, List.map_nil, fI2, fI2C, fI1, fAbs, addI, mulI, intI, eqS, neS, isN_, notN_, L3.isNon, gN, gsN, gsC, gT, asT, at3, List.set_cons_zero, List.set_cons_succ, Option.some.injEq, exists_eq_left', D.bl.injEq, D.int.injEq, D.tup.injEq, List.length_cons, List.length_nil, Nat.reduceAdd, true_and, if_true, if_false, Bool.false_eq_true, reduceIte, ite_true, ite_false, len_t0, len_t1, len_t2, len_t3, len_l0, len_l1, eqI, neI, Int.reduceBEq, Int.reduceLT, Int.reduceLE, Int.reduceNeg, decide_true, decide_false, Bool.not_true, Bool.not_false, ix0, ix1, ix2, and_true, and_self, S_wiP, S_wi, c1, c2, c3, add_t, natsD]
      rw [List.length_cons] at hl
      refine ⟨u, z, rfl, hp, by omega, by omega, size_small (by omega), size_small (by omega), size_small (by rw [List.length_take]; omega), size_small (by rw [List.length_append, List.length_take, List.length_drop, List.length_singleton]; omega), hR⟩
theorem ok_wi (T : Tx K mg) : ∀ n, Good P w K mg base "_law_with" ["recipe", "way", "other"] (1 + n + 1) (S_wi n)
  | 0 => wi_step T 0 (good_no 1 (d__law_with T))
  | n + 1 => wi_step T (n + 1) (ok_wi T n)
end

end K01

set_option Elab.async false
set_option linter.all false
set_option maxRecDepth 100000
set_option maxHeartbeats 0
namespace K01
open PySem PySem.Spec L2 L3
open PyProof.Rows hiding St
/-! ### things bent -/
section
variable {h w d h' w' d' : Nat} {a b c x : D}
theorem Sm.up (s : Sm h' w' d' x) (e : (decide (h' ≤ h) && decide (w' ≤ w) && decide (d' ≤ d)) = true) : Sm h w d x := by
  simp only [Bool.and_eq_true, decide_eq_true_eq] at e
  exact s.mono e.1.1 e.1.2 e.2
theorem Sm.pair1 (s : Sm h 1 d a) (t : Sm h 1 d b) : Sm (h + 1) 3 (d + 1) (.tup [a, b]) := Sm.tup (.cons s (.cons t (.nil (w := 0))))
theorem Sm.list1 (s : Sm h 1 d a) (t : Sm h 1 d b) : Sm (h + 1) 3 (d + 1) (.lst [a, b]) := Sm.lst (h := h) (.cons s (.cons t (.nil (w := 0))))
theorem Sm.one (s : Sm h w d a) : Sm (h + 1) (w + 1) (d + 1) (.tup [a]) := Sm.tup (.cons s (.nil (w := 0)))
theorem Sm.tri (s : Sm h 1 d a) (t : Sm h 1 d b) (u : Sm h 1 d c) : Sm (h + 1) 4 (d + 1) (.tup [a, b, c]) := Sm.tup (.cons s (.cons t (.cons u (.nil (w := 0)))))
theorem Sm.int1 {i : Int} (hi : i.natAbs < 10 ^ 12) : Sm h 1 d (.int i) := Sm.int hi
theorem Sm.bl1 {b : Bool} : Sm h 1 d (.bl b) := Sm.bl
theorem Sm.str1 {z : Str} (hz : strTiny z = true) : Sm h 1 d (.str z) := Sm.str hz
theorem Sm.frac {p : Fr} (h1 : p.1.natAbs < 10 ^ 12) (h2 : p.2.natAbs < 10 ^ 12) : Sm 1 3 1 (frO p) := Sm.pair1 (h := 0) (d := 0) (.int1 h1) (.int1 h2)
end
theorem str_small : ∀ n : Nat, n ≤ 1000 → strTiny (Str.ofString (toString (n : Int))) = true := by
  have h : ((List.range 1001).all fun n => strTiny (Str.ofString (toString (n : Int)))) = true := by decide +kernel
  intro n hn
  exact List.all_eq_true.mp h n (List.mem_range.mpr (by omega))
theorem str_tiny {i : Int} (h0 : 0 ≤ i) (h1 : i ≤ 1000) : strTiny (Str.ofString (toString i)) = true := by
  have := str_small i.toNat (by omega)
  rw [Int.toNat_of_nonneg h0] at this
  exact this
theorem frac_sm {a : D} (ha : isBndD a = true) : Sm 1 3 1 a := by
  obtain ⟨n, d, rfl, k1, k2, k3, k4, _⟩ := bnd_cases ha
  exact Sm.pair1 (h := 0) (d := 0) (.int1 (by omega)) (.int1 (by omega))
section
variable {P : Program} {w : World} {K : PySem.W.Frag} {mg : Str → Option Value} {base : Heap}
def S_bb : SP3 := fun ds G R _ => match ds with
  | [x, y] => ∃ p, x = .ref p ∧ HandOk G p ∧ isBndD y = true ∧ ∀ d G', Sm 2 5 2 d → HandOk G' p → Apart p G G' → R d G'
  | _ => False
theorem ok_bb (T : Tx K mg) : Good P w K mg base "_law_bound_bent" ["hand", "bound"] 3 S_bb := by
  have g__law_any := ok_any (P := P) (w := w) (base := base) T
  have g__law_plus := ok_plus (P := P) (w := w) (base := base) T
  refine good_of (d__law_bound_bent T) sc__law_bound_bent fun f cd A outer s H E hp tk hgd hr => ⟨_, (s_cons (s_set 2 sc__law_bound_bent.nd rfl (.inl rfl) rfl (c_call g__law_any (hr.mono (by omega)) hgd tk (a_cons (c_var 0) (a_cons (c_tup (a_cons c_int (a_cons c_int (a_cons c_int (a_cons c_int a_nil))))) a_nil))))
      (s_cons (s_asg (c_var 1) (g_tup (n := 2) rfl (gs_cons (g_name 3 sc__law_bound_bent.nd rfl (.inl rfl)) (gs_cons (g_name 4 sc__law_bound_bent.nd rfl (.inl rfl)) gs_nil))))
      (s_cons (s_set 5 sc__law_bound_bent.nd rfl (.inl rfl) rfl (c_lst (a_cons (c_call g__law_plus (hr.mono (by omega)) hgd tk (a_cons (c_var 1) (a_cons (c_tup (a_cons c_int (a_cons (c_var 2) a_nil))) a_nil))) (a_cons (c_call g__law_plus (hr.mono (by omega)) hgd tk (a_cons (c_var 1) (a_cons (c_tup (a_cons (c_un un_neg lift_I1 c_int) (a_cons (c_var 2) a_nil))) a_nil))) (a_cons (c_tup (a_cons (c_op op_mul3 lift_mul c_int (c_var 3)) (a_cons (c_op op_mul3 lift_mul c_int (c_var 4)) a_nil))) (a_cons (c_tup (a_cons (c_op op_sub lift_I2i c_int (c_var 3)) (a_cons (c_op op_sub lift_I2i c_int (c_var 4)) a_nil))) a_nil))))))
      (s_cons (s_set 5 sc__law_bound_bent.nd rfl (.inl rfl) rfl (c_op op_add3 lift_add (c_var 5) (c_lst (a_cons (c_tup (a_cons c_int (a_cons c_int a_nil))) (a_cons (c_tup (a_cons c_int (a_cons c_int a_nil))) (a_cons (c_tup (a_cons c_int (a_cons c_int a_nil))) (a_cons (c_tup (a_cons c_int (a_cons c_int a_nil))) (a_cons (c_tup (a_cons (c_un un_neg lift_I1 c_int) (a_cons c_int a_nil))) (a_cons (c_tup (a_cons c_int (a_cons c_int a_nil))) (a_cons (c_tup (a_cons c_int (a_cons c_int a_nil))) (a_cons (c_tup (a_cons (c_cmp (op_eq3 hr.units) lift_eq (c_var 3) c_int) (a_cons (c_var 4) a_nil))) (a_cons (c_tup (a_cons (c_var 3) (a_cons (c_cmp (op_eq3 hr.units) lift_eq (c_var 4) c_int) a_nil))) a_nil))))))))))))
      (s_one (s_ret (c_call g__law_any (hr.mono (by omega)) hgd tk (a_cons (c_var 0) (a_cons (c_op op_add3 lift_add (c_var 5) (c_lst (a_cons (c_tup (a_cons c_int (a_cons c_int a_nil))) (a_cons (c_lst (a_cons (c_var 3) (a_cons (c_var 4) a_nil))) (a_cons (c_var 3) (a_cons c_non (a_cons (c_tup (a_cons (c_var 3) a_nil)) (a_cons (c_tup (a_cons (c_var 3) (a_cons (c_var 4) (a_cons c_int a_nil)))) (a_cons (c_tup (a_cons (c_callT call_strA lift_strA (n_str T) (a_cons (c_var 3) a_nil)) (a_cons (c_var 4) a_nil))) a_nil))))))))) a_nil))))))))), fun ds G R Ex hlen hS => ?_⟩
  clear hp tk hgd hr hlen
  match ds, hS with
  | [x, y], ⟨p, e1, hH, hb, hR⟩ =>
    subst e1
    rw [show start3 ["hand", "bound", "step", "top", "low", "some"] [.ref p, y] = [some (.ref p), some (y), none, none, none, none] from rfl]
    have sz : ∀ n : Nat, n ≤ 1000 → n ≤ sizeLine := fun n hn => size_small (by omega)
    have s1 := sz 1 (by omega)
    have s2 := sz 2 (by omega)
    have s3 := sz 3 (by omega)
    have s4 := sz 4 (by omega)
    have s7 := sz 7 (by omega)
    have s9 := sz 9 (by omega)
    obtain ⟨n, dn, rfl, k1, k2, k3, k4, _⟩ := bnd_cases hb
    simp only [wExpr, wRaise, gSb, wSeq, wNext, wRet, wRetN, wExpr, wIfS, wSet, wAsg, wPar, wAug, w1, w2, wA, aNil, aCons, wVar, wVarT, wC, tOfW, w3c, wAnd, wOr, wNot, tAnd3, tOr3, tNot3, wIf, wTup, wLst, wLstO, wCall, wSl, pNone, pSome, wipe3, List.map_cons, List.map_nil, fI2, fI2C, fI1, fAbs, addI, mulI, intI, eqS, neS, isN_, notN_, L3.isNon, gN, gsN, gsC, gT, asT, at3, List.set_cons_zero, List.set_cons_succ, Option.some.injEq, exists_eq_left', D.bl.injEq, D.int.injEq, D.tup.injEq, List.length_cons, List.length_nil, Nat.reduceAdd, true_and, if_true, if_false, Bool.false_eq_true, reduceIte, ite_true, ite_false, len_t0, len_t1, len_t2, len_t3, len_l0, len_l1, eqI, neI, Int.reduceBEq, Int.reduceLT, Int.reduceLE, Int.reduceNeg, decide_true, decide_false, Bool.not_true, Bool.not_false, ix0, ix1, ix2, and_true, and_self, S_any, s1, s2, s3, s4, s7, s9]
    refine ⟨p, _, rfl, (fun z => by cases z), hH, rfl, by simp, by simp, fun st G1 hst hH1 hA1 => ?_⟩
    obtain ⟨s, rfl, hs0, hs1⟩ : ∃ s : Int, st = .int s ∧ 1 ≤ s ∧ s ≤ 1000 := by
      simp only [List.mem_cons, List.not_mem_nil, or_false] at hst
      rcases hst with rfl | rfl | rfl | rfl
      · exact ⟨1, rfl, by decide, by decide⟩
      · exact ⟨2, rfl, by decide, by decide⟩
      · exact ⟨10, rfl, by decide, by decide⟩
      · exact ⟨1000, rfl, by decide, by decide⟩
    have z1 : Sz 1 (n, dn) := ⟨by show (0 : Int) < dn; omega, by show dn.natAbs ≤ 10000 ^ 1; omega, by show n.natAbs ≤ 10000 ^ 1; omega⟩
    have pt1 : PtOk (1, s) := ⟨by show (0 : Int) < s; omega, hs1, by show (1 : Int).natAbs ≤ 1000; decide⟩
    have pt2 : PtOk (-1, s) := ⟨by show (0 : Int) < s; omega, hs1, by show (-1 : Int).natAbs ≤ 1000; decide⟩
    simp only [wExpr, wRaise, gSb, wSeq, wNext, wRet, wRetN, wExpr, wIfS, wSet, wAsg, wPar, wAug, w1, w2, wA, aNil, aCons, wVar, wVarT, wC, tOfW, w3c, wAnd, wOr, wNot, tAnd3, tOr3, tNot3, wIf, wTup, wLst, wLstO, wCall, wSl, pNone, pSome, wipe3, List.map_cons, List.map_nil, fI2, fI2C, fI1, fAbs, addI, mulI, intI, eqS, neS, isN_, notN_, L3.isNon, gN, gsN, gsC, gT, asT, at3, List.set_cons_zero, List.set_cons_succ, Option.some.injEq, exists_eq_left', D.bl.injEq, D.int.injEq, D.tup.injEq, List.length_cons, List.length_nil, Nat.reduceAdd, true_and, if_true, if_false, Bool.false_eq_true, reduceIte, ite_true, ite_false, len_t0, len_t1, len_t2, len_t3, len_l0, len_l1, eqI, neI, Int.reduceBEq, Int.reduceLT, Int.reduceLE, Int.reduceNeg, decide_true, decide_false, Bool.not_true, Bool.not_false, ix0, ix1, ix2, and_true, and_self, S_plus, fMul, s1, s2, s3, s4, s7, s9]
    refine ⟨(n, dn), (1, s), 1, rfl, rfl, by omega, z1, pt1, (n, dn), (-1, s), 1, rfl, rfl, by omega, z1, pt2, MulC.l (by decide) (by decide), MulC.l (by decide) (by decide), ?_⟩
    have q1 := plusP_sz z1 pt1
    have q2 := plusP_sz z1 pt2
    generalize plusP (n, dn) (1, s) = f1 at *
    generalize plusP (n, dn) (-1, s) = f2 at *
    have b1 := q1.2
    have b2 := q2.2
    refine add_lst (sz _ (by simp)) ?_
    simp only [fStrA]
    refine ⟨Nat.lt_of_le_of_lt (Nat.log2_le_self _) (by omega), ?_⟩
    refine add_lst (sz _ (by simp)) ?_
    refine ⟨p, _, rfl, (fun z => by cases z), hH1, rfl, by simp, by simp, fun d G2 hd hH2 hA2 => hR d G2 ?_ hH2 (hA1.trans hA2)⟩
    have ts := str_tiny k2 (by omega : n ≤ 1000)
    simp only [List.mem_append, List.mem_cons, List.not_mem_nil, or_false] at hd
    rcases hd with ((rfl | rfl | rfl | rfl) | (rfl | rfl | rfl | rfl | rfl | rfl | rfl | rfl | rfl)) | (rfl | rfl | rfl | rfl | rfl | rfl | rfl)
    all_goals first
      | exact (Sm.frac (by omega) (by omega)).up rfl
      | exact (Sm.pair1 (h := 0) (d := 0) (.int1 (by omega)) (.int1 (by omega))).up rfl
      | exact (Sm.pair1 (h := 0) (d := 0) .bl1 (.int1 (by omega))).up rfl
      | exact (Sm.pair1 (h := 0) (d := 0) (.int1 (by omega)) .bl1).up rfl
      | exact (Sm.list1 (h := 0) (d := 0) (.int1 (by omega)) (.int1 (by omega))).up rfl
      | exact (Sm.int1 (h := 0) (d := 0) (by omega)).up rfl
      | exact (Sm.non (h := 0) (w := 0) (d := 0)).up rfl
      | exact (Sm.one (h := 0) (d := 0) (.int1 (by omega))).up rfl
      | exact (Sm.tri (h := 0) (d := 0) (.int1 (by omega)) (.int1 (by omega)) (.int1 (by omega))).up rfl
      | exact (Sm.pair1 (h := 0) (d := 0) (.str1 ts) (.int1 (by omega))).up rfl
end

end K01

set_option Elab.async false
set_option linter.all false
set_option maxRecDepth 100000
set_option maxHeartbeats 0
namespace K01
open PySem PySem.Spec L2 L3
open PyProof.Rows hiding St
/-! ### a part bent, a recipe bent -/
section
variable {h w d h' w' d' w1 w2 w3 : Nat} {a b c x y : D}
theorem Sm.three (s : Sm h w1 d a) (t : Sm h w2 d b) (u : Sm h w3 d c) : Sm (h + 1) (w1 + (w2 + w3) + 1) (d + 1) (.tup [a, b, c]) := by
  exact Sm.tup (.cons s (.cons t (.cons u (.nil (w := 0)))))
theorem pth_lk : ∀ (u : List Nat) {x : D} {d : Nat} {l : List Int}, Pth u x y → lk x = some (d, l) → ∃ d' l', lk y = some (d', l')
  | [], x, d, l, hp, h => ⟨d, l, by rw [← show x = y from hp]; exact h⟩
  | n :: u, x, d, l, hp, h => by
    obtain ⟨xs, a, b, t, rfl, hn, hp⟩ := hp
    obtain ⟨e, rfl, k1, k2, k3, k4⟩ := lk_tup h
    obtain ⟨d', m, q1, _⟩ := lkL_mem k3 k1 _ (List.mem_of_getElem? hn)
    exact pth_lk u hp q1
theorem Sm.items' {xs : List D} (s : Sm h w d (.tup xs)) : SmL h w d xs := by
  obtain ⟨a1, a2, a3, a4, a5⟩ := s
  simp only [htD] at a3
  simp only [wtD] at a4
  simp only [dpD] at a5
  exact ⟨a1, a2, by omega, by omega, by omega⟩
theorem pth_sm : ∀ (u : List Nat) {x : D}, Pth u x y → Sm h w d x → Sm h w d y
  | [], x, hp, s => by rw [← show x = y from hp]; exact s
  | n :: u, x, hp, s => by
    obtain ⟨xs, a, b, t, rfl, hn, hp⟩ := hp
    exact pth_sm u hp ((s.items'.mem (List.mem_of_getElem? hn)).items'.mem (by simp))
end
section
variable {P : Program} {w : World} {K : PySem.W.Frag} {mg : Str → Option Value} {base : Heap}
def S_pb : SP3 := fun ds G R _ => match ds with
  | [x, y] => ∃ p a b t h w d, x = .ref p ∧ HandOk G p ∧ y = .tup [a, b, t] ∧ isBndD a = true ∧ isBndD b = true ∧ Sm h w d t ∧ ∀ r G', Sm (h + 3) (w + 15) (d + 3) r → HandOk G' p → Apart p G G' → R r G'
  | _ => False
theorem ok_pb (T : Tx K mg) : Good P w K mg base "_law_part_bent" ["hand", "part"] 4 S_pb := by
  have g__law_any := ok_any (P := P) (w := w) (base := base) T
  have g__law_draw := ok_draw (P := P) (w := w) (base := base) T
  have g__law_bound_bent := ok_bb (P := P) (w := w) (base := base) T
  refine good_of (d__law_part_bent T) sc__law_part_bent fun f cd A outer s H E hp tk hgd hr => ⟨_, (s_cons (s_asg (c_var 1) (g_tup (n := 3) rfl (gs_cons (g_name 2 sc__law_part_bent.nd rfl (.inl rfl)) (gs_cons (g_name 3 sc__law_part_bent.nd rfl (.inl rfl)) (gs_cons (g_name 4 sc__law_part_bent.nd rfl (.inl rfl)) gs_nil)))))
      (s_cons (s_set 5 sc__law_part_bent.nd rfl (.inl rfl) rfl (c_call g__law_draw (hr.mono (by omega)) hgd tk (a_cons (c_var 0) (a_cons c_int a_nil))))
      (s_cons (s_if (t_cmp op_lt lift_I2b (c_var 5) c_int) (s_one (s_ret (c_tup (a_cons (c_call g__law_bound_bent (hr.mono (by omega)) hgd tk (a_cons (c_var 0) (a_cons (c_var 2) a_nil))) (a_cons (c_var 3) (a_cons (c_var 4) a_nil)))))) s_nil)
      (s_cons (s_if (t_cmp op_lt lift_I2b (c_var 5) c_int) (s_one (s_ret (c_tup (a_cons (c_var 2) (a_cons (c_call g__law_bound_bent (hr.mono (by omega)) hgd tk (a_cons (c_var 0) (a_cons (c_var 3) a_nil))) (a_cons (c_var 4) a_nil)))))) s_nil)
      (s_cons (s_if (t_cmp (op_eq3 hr.units) lift_eq (c_var 5) c_int) (s_one (s_ret (c_tup (a_cons (c_var 3) (a_cons (c_var 2) (a_cons (c_var 4) a_nil)))))) s_nil)
      (s_cons (s_if (t_cmp (op_eq3 hr.units) lift_eq (c_var 5) c_int) (s_one (s_ret (c_tup (a_cons (c_var 2) (a_cons (c_var 3) (a_cons (c_call g__law_any (hr.mono (by omega)) hgd tk (a_cons (c_var 0) (a_cons (c_tup (a_cons c_int (a_cons (c_un un_neg lift_I1 c_int) (a_cons c_bl (a_cons c_bl (a_cons c_non (a_cons c_str (a_cons (c_tup a_nil) (a_cons c_int (a_cons c_int (a_cons (c_lst (a_cons c_int a_nil)) (a_cons c_dnew (a_cons (c_tup (a_cons (c_var 4) a_nil)) a_nil))))))))))))) a_nil))) a_nil)))))) s_nil)
      (s_one (s_ret (c_call g__law_any (hr.mono (by omega)) hgd tk (a_cons (c_var 0) (a_cons (c_tup (a_cons (c_callT call_list_of lift_list (n_list T) (a_cons (c_var 1) a_nil)) (a_cons (c_slice (c_var 1) p_none (p_some c_int)) (a_cons (c_op op_add3 lift_add (c_var 1) (c_tup (a_cons c_int a_nil))) (a_cons (c_var 4) (a_cons c_non (a_cons (c_tup a_nil) (a_cons (c_tup (a_cons (c_var 4) (a_cons (c_var 2) (a_cons (c_var 3) a_nil)))) a_nil)))))))) a_nil))))))))))), fun ds G R Ex hlen hS => ?_⟩
  clear hp tk hgd hr hlen
  match ds, hS with
  | [x, y], ⟨p, a, b, t, h, w, d, e1, hH, e2, ha, hb, st, hR⟩ =>
    subst e1 e2
    rw [show start3 ["hand", "part", "least", "greatest", "under", "kind"] [.ref p, .tup [a, b, t]] = [some (.ref p), some (.tup [a, b, t]), none, none, none, none] from rfl]
    have sz : ∀ n : Nat, n ≤ 1000 → n ≤ sizeLine := fun n hn => size_small (by omega)
    have s0 := sz 0 (by omega)
    have s1 := sz 1 (by omega)
    have s2 := sz 2 (by omega)
    have s3 := sz 3 (by omega)
    have s4 := sz 4 (by omega)
    have s7 := sz 7 (by omega)
    have s12 := sz 12 (by omega)
    have fa := frac_sm ha
    have fb := frac_sm hb
    simp only [wExpr, wRaise, gSb, wSeq, wNext, wRet, wRetN, wExpr, wIfS, wSet, wAsg, wPar, wAug, w1, w2, wA, aNil, aCons, wVar, wVarT, wC, tOfW, w3c, wAnd, wOr, wNot, tAnd3, tOr3, tNot3, wIf, wTup, wLst, wLstO, wCall, wSl, pNone, pSome, wipe3, List.map_cons, List.map_nil, fI2, fI2C, fI1, fAbs, addI, mulI, intI, eqS, neS, isN_, notN_, L3.isNon, gN, gsN, gsC, gT, asT, at3, List.set_cons_zero, List.set_cons_succ, Option.some.injEq, exists_eq_left', D.bl.injEq, D.int.injEq, D.tup.injEq, List.length_cons, List.length_nil, Nat.reduceAdd, true_and, if_true, if_false, Bool.false_eq_true, reduceIte, ite_true, ite_false, len_t0, len_t1, len_t2, len_t3, len_l0, len_l1, eqI, neI, Int.reduceBEq, Int.reduceLT, Int.reduceLE, Int.reduceNeg, decide_true, decide_false, Bool.not_true, Bool.not_false, ix0, ix1, ix2, and_true, and_self, gT, gsC, gsN, asT, S_draw]
    refine ⟨p, 9, rfl, rfl, hH, by decide, by decide, fun r G1 r0 r9 hH1 hA1 => ?_⟩
    have fin3 : ∀ {u v z : D} {h1 w1 d1 : Nat} {G2 : GH}, Sm 2 5 2 u → Sm 2 5 2 v → Sm (h + 1) (w + 1) (d + 1) z → HandOk G2 p → Apart p G G2 → R (.tup [u, v, z]) G2 := fun su sv sq hH2 hA2 =>
      hR _ _ ((Sm.three (h := h + 2) (d := d + 2) (su.mono (by omega) (Nat.le_refl _) (by omega)) (sv.mono (by omega) (Nat.le_refl _) (by omega)) (sq.mono (by omega) (Nat.le_refl _) (by omega))).mono (Nat.le_refl _) (by omega) (Nat.le_refl _)) hH2 hA2
    have st1 : Sm (h + 1) (w + 1) (d + 1) t := st.mono (by omega) (by omega) (by omega)
    have fa2 : Sm 2 5 2 a := fa.up rfl
    have fb2 : Sm 2 5 2 b := fb.up rfl
    by_cases c1 : r < 3
    · simp only [decide_eq_true c1, wExpr, wRaise, gSb, wSeq, wNext, wRet, wRetN, wExpr, wIfS, wSet, wAsg, wPar, wAug, w1, w2, wA, aNil, aCons, wVar, wVarT, wC, tOfW, w3c, wAnd, wOr, wNot, tAnd3, tOr3, tNot3, wIf, wTup, wLst, wLstO, wCall, wSl, pNone, pSome, wipe3, List.map_cons, List.map_nil, fI2, fI2C, fI1, fAbs, addI, mulI, intI, eqS, neS, isN_, notN_, L3.isNon, gN, gsN, gsC, gT, asT, at3, List.set_cons_zero, List.set_cons_succ, Option.some.injEq, exists_eq_left', D.bl.injEq, D.int.injEq, D.tup.injEq, List.length_cons, List.length_nil, Nat.reduceAdd, true_and, if_true, if_false, Bool.false_eq_true, reduceIte, ite_true, ite_false, len_t0, len_t1, len_t2, len_t3, len_l0, len_l1, eqI, neI, Int.reduceBEq, Int.reduceLT, Int.reduceLE, Int.reduceNeg, decide_true, decide_false, Bool.not_true, Bool.not_false, ix0, ix1, ix2, and_true, and_self, S_bb, s3]
      exact ⟨p, rfl, hH1, ha, fun q G2 hq hH2 hA2 => fin3 (h1 := 0) (w1 := 0) (d1 := 0) hq fb2 st1 hH2 (hA1.trans hA2)⟩
    simp only [decide_eq_false c1, wExpr, wRaise, gSb, wSeq, wNext, wRet, wRetN, wExpr, wIfS, wSet, wAsg, wPar, wAug, w1, w2, wA, aNil, aCons, wVar, wVarT, wC, tOfW, w3c, wAnd, wOr, wNot, tAnd3, tOr3, tNot3, wIf, wTup, wLst, wLstO, wCall, wSl, pNone, pSome, wipe3, List.map_cons, List.map_nil, fI2, fI2C, fI1, fAbs, addI, mulI, intI, eqS, neS, isN_, notN_, L3.isNon, gN, gsN, gsC, gT, asT, at3, List.set_cons_zero, List.set_cons_succ, Option.some.injEq, exists_eq_left', D.bl.injEq, D.int.injEq, D.tup.injEq, List.length_cons, List.length_nil, Nat.reduceAdd, true_and, if_true, if_false, Bool.false_eq_true, reduceIte, ite_true, ite_false, len_t0, len_t1, len_t2, len_t3, len_l0, len_l1, eqI, neI, Int.reduceBEq, Int.reduceLT, Int.reduceLE, Int.reduceNeg, decide_true, decide_false, Bool.not_true, Bool.not_false, ix0, ix1, ix2, and_true, and_self]
    by_cases c2 : r < 6
    · simp only [decide_eq_true c2, wExpr, wRaise, gSb, wSeq, wNext, wRet, wRetN, wExpr, wIfS, wSet, wAsg, wPar, wAug, w1, w2, wA, aNil, aCons, wVar, wVarT, wC, tOfW, w3c, wAnd, wOr, wNot, tAnd3, tOr3, tNot3, wIf, wTup, wLst, wLstO, wCall, wSl, pNone, pSome, wipe3, List.map_cons, List.map_nil, fI2, fI2C, fI1, fAbs, addI, mulI, intI, eqS, neS, isN_, notN_, L3.isNon, gN, gsN, gsC, gT, asT, at3, List.set_cons_zero, List.set_cons_succ, Option.some.injEq, exists_eq_left', D.bl.injEq, D.int.injEq, D.tup.injEq, List.length_cons, List.length_nil, Nat.reduceAdd, true_and, if_true, if_false, Bool.false_eq_true, reduceIte, ite_true, ite_false, len_t0, len_t1, len_t2, len_t3, len_l0, len_l1, eqI, neI, Int.reduceBEq, Int.reduceLT, Int.reduceLE, Int.reduceNeg, decide_true, decide_false, Bool.not_true, Bool.not_false, ix0, ix1, ix2, and_true, and_self, S_bb, s3]
      exact ⟨p, rfl, hH1, hb, fun q G2 hq hH2 hA2 => fin3 (h1 := 0) (w1 := 0) (d1 := 0) fa2 hq st1 hH2 (hA1.trans hA2)⟩
    simp only [decide_eq_false c2, wExpr, wRaise, gSb, wSeq, wNext, wRet, wRetN, wExpr, wIfS, wSet, wAsg, wPar, wAug, w1, w2, wA, aNil, aCons, wVar, wVarT, wC, tOfW, w3c, wAnd, wOr, wNot, tAnd3, tOr3, tNot3, wIf, wTup, wLst, wLstO, wCall, wSl, pNone, pSome, wipe3, List.map_cons, List.map_nil, fI2, fI2C, fI1, fAbs, addI, mulI, intI, eqS, neS, isN_, notN_, L3.isNon, gN, gsN, gsC, gT, asT, at3, List.set_cons_zero, List.set_cons_succ, Option.some.injEq, exists_eq_left', D.bl.injEq, D.int.injEq, D.tup.injEq, List.length_cons, List.length_nil, Nat.reduceAdd, true_and, if_true, if_false, Bool.false_eq_true, reduceIte, ite_true, ite_false, len_t0, len_t1, len_t2, len_t3, len_l0, len_l1, eqI, neI, Int.reduceBEq, Int.reduceLT, Int.reduceLE, Int.reduceNeg, decide_true, decide_false, Bool.not_true, Bool.not_false, ix0, ix1, ix2, and_true, and_self]
    by_cases c3 : r = 6
    · subst c3
      simp only [wExpr, wRaise, gSb, wSeq, wNext, wRet, wRetN, wExpr, wIfS, wSet, wAsg, wPar, wAug, w1, w2, wA, aNil, aCons, wVar, wVarT, wC, tOfW, w3c, wAnd, wOr, wNot, tAnd3, tOr3, tNot3, wIf, wTup, wLst, wLstO, wCall, wSl, pNone, pSome, wipe3, List.map_cons, List.map_nil, fI2, fI2C, fI1, fAbs, addI, mulI, intI, eqS, neS, isN_, notN_, L3.isNon, gN, gsN, gsC, gT, asT, at3, List.set_cons_zero, List.set_cons_succ, Option.some.injEq, exists_eq_left', D.bl.injEq, D.int.injEq, D.tup.injEq, List.length_cons, List.length_nil, Nat.reduceAdd, true_and, if_true, if_false, Bool.false_eq_true, reduceIte, ite_true, ite_false, len_t0, len_t1, len_t2, len_t3, len_l0, len_l1, eqI, neI, Int.reduceBEq, Int.reduceLT, Int.reduceLE, Int.reduceNeg, decide_true, decide_false, Bool.not_true, Bool.not_false, ix0, ix1, ix2, and_true, and_self, s3]
      exact fin3 (h1 := 0) (w1 := 0) (d1 := 0) fb2 fa2 st1 hH1 hA1
    have c3' : (r == 6) = false := beq_eq_false_iff_ne.mpr c3
    simp only [c3', wExpr, wRaise, gSb, wSeq, wNext, wRet, wRetN, wExpr, wIfS, wSet, wAsg, wPar, wAug, w1, w2, wA, aNil, aCons, wVar, wVarT, wC, tOfW, w3c, wAnd, wOr, wNot, tAnd3, tOr3, tNot3, wIf, wTup, wLst, wLstO, wCall, wSl, pNone, pSome, wipe3, List.map_cons, List.map_nil, fI2, fI2C, fI1, fAbs, addI, mulI, intI, eqS, neS, isN_, notN_, L3.isNon, gN, gsN, gsC, gT, asT, at3, List.set_cons_zero, List.set_cons_succ, Option.some.injEq, exists_eq_left', D.bl.injEq, D.int.injEq, D.tup.injEq, List.length_cons, List.length_nil, Nat.reduceAdd, true_and, if_true, if_false, Bool.false_eq_true, reduceIte, ite_true, ite_false, len_t0, len_t1, len_t2, len_t3, len_l0, len_l1, eqI, neI, Int.reduceBEq, Int.reduceLT, Int.reduceLE, Int.reduceNeg, decide_true, decide_false, Bool.not_true, Bool.not_false, ix0, ix1, ix2, and_true, and_self]
    by_cases c4 : r = 7
    · subst c4
      simp only [wExpr, wRaise, gSb, wSeq, wNext, wRet, wRetN, wExpr, wIfS, wSet, wAsg, wPar, wAug, w1, w2, wA, aNil, aCons, wVar, wVarT, wC, tOfW, w3c, wAnd, wOr, wNot, tAnd3, tOr3, tNot3, wIf, wTup, wLst, wLstO, wCall, wSl, pNone, pSome, wipe3, List.map_cons, List.map_nil, fI2, fI2C, fI1, fAbs, addI, mulI, intI, eqS, neS, isN_, notN_, L3.isNon, gN, gsN, gsC, gT, asT, at3, List.set_cons_zero, List.set_cons_succ, Option.some.injEq, exists_eq_left', D.bl.injEq, D.int.injEq, D.tup.injEq, List.length_cons, List.length_nil, Nat.reduceAdd, true_and, if_true, if_false, Bool.false_eq_true, reduceIte, ite_true, ite_false, len_t0, len_t1, len_t2, len_t3, len_l0, len_l1, eqI, neI, Int.reduceBEq, Int.reduceLT, Int.reduceLE, Int.reduceNeg, decide_true, decide_false, Bool.not_true, Bool.not_false, ix0, ix1, ix2, and_true, and_self, S_any, wDNew, s0, s1, s3, s12]
      refine ⟨p, _, rfl, (fun z => by cases z), hH1, rfl, by simp, by simp, fun q G2 hd hH2 hA2 => ?_⟩
      refine fin3 (h1 := 0) (w1 := 0) (d1 := 0) fa2 fb2 ?_ hH2 (hA1.trans hA2)
      simp only [List.mem_cons, List.not_mem_nil, or_false] at hd
      have sm1 : ∀ {z : D}, smB 0 2 1 z = true → 1 ≤ w → Sm (h + 1) (w + 1) (d + 1) z := fun e hw => (Sm.of e).mono (by omega) (by omega) (by omega)
      have hw : 1 ≤ w := Nat.le_trans (wt_pos t) st.wt
      rcases hd with rfl | rfl | rfl | rfl | rfl | rfl | rfl | rfl | rfl | rfl | rfl | rfl
      · exact sm1 (by decide +kernel) hw
      · exact sm1 (by decide +kernel) hw
      · exact sm1 (by decide +kernel) hw
      · exact sm1 (by decide +kernel) hw
      · exact sm1 (by decide +kernel) hw
      · exact sm1 (by decide +kernel) hw
      · exact Sm.tup (.nil (w := w))
      · exact sm1 (by decide +kernel) hw
      · exact sm1 (by decide +kernel) hw
      · exact sm1 (by decide +kernel) hw
      · exact sm1 (by decide +kernel) hw
      · exact st.one
    have c4' : (r == 7) = false := beq_eq_false_iff_ne.mpr c4
    simp only [c4', wExpr, wRaise, gSb, wSeq, wNext, wRet, wRetN, wExpr, wIfS, wSet, wAsg, wPar, wAug, w1, w2, wA, aNil, aCons, wVar, wVarT, wC, tOfW, w3c, wAnd, wOr, wNot, tAnd3, tOr3, tNot3, wIf, wTup, wLst, wLstO, wCall, wSl, pNone, pSome, wipe3, List.map_cons, List.map_nil, fI2, fI2C, fI1, fAbs, addI, mulI, intI, eqS, neS, isN_, notN_, L3.isNon, gN, gsN, gsC, gT, asT, at3, List.set_cons_zero, List.set_cons_succ, Option.some.injEq, exists_eq_left', D.bl.injEq, D.int.injEq, D.tup.injEq, List.length_cons, List.length_nil, Nat.reduceAdd, true_and, if_true, if_false, Bool.false_eq_true, reduceIte, ite_true, ite_false, len_t0, len_t1, len_t2, len_t3, len_l0, len_l1, eqI, neI, Int.reduceBEq, Int.reduceLT, Int.reduceLE, Int.reduceNeg, decide_true, decide_false, Bool.not_true, Bool.not_false, ix0, ix1, ix2, and_true, and_self, S_any, fList, sl_t, add_t, s0, s1, s3, s4, s7]
    have c5 : L3.cutD [a, b, t] none (some 2) = [a, b] := cut_upto (j := 2)
    rw [c5]
    refine ⟨_, _, rfl, rfl, p, _, rfl, (fun z => by cases z), hH1, rfl, by simp, by simp, fun q G2 hd hH2 hA2 => hR q G2 ?_ hH2 (hA1.trans hA2)⟩
    have ga : Sm (h + 2) 3 (d + 2) a := fa.mono (by omega) (Nat.le_refl _) (by omega)
    have gb : Sm (h + 2) 3 (d + 2) b := fb.mono (by omega) (Nat.le_refl _) (by omega)
    have gt : Sm (h + 2) w (d + 2) t := st.mono (by omega) (Nat.le_refl _) (by omega)
    have g3 : SmL (h + 2) (3 + (3 + (w + 0))) (d + 2) [a, b, t] := .cons ga (.cons gb (.cons gt .nil))
    simp only [List.mem_cons, List.not_mem_nil, or_false] at hd
    rcases hd with rfl | rfl | rfl | rfl | rfl | rfl | rfl
    · exact (Sm.lst (h' := h + 3) g3).mono (by omega) (by omega) (by omega)
    · exact (Sm.pair ga gb).mono (by omega) (by omega) (by omega)
    · exact (Sm.tup (g3.append (.cons (w2 := 0) (Sm.int1 (by decide)) .nil))).mono (by omega) (by omega) (by omega)
    · exact gt.mono (by omega) (by omega) (by omega)
    · exact Sm.non.mono (w' := w + 15) (w := 14) (Nat.le_refl _) (by omega) (Nat.le_refl _)
    · exact (Sm.tup (.nil (h := 0) (w := 0) (d := 0))).mono (by omega) (by omega) (by omega)
    · exact (Sm.three gt ga gb).mono (by omega) (by omega) (by omega)
end

end K01

set_option Elab.async false
set_option linter.all false
set_option maxRecDepth 100000
set_option maxHeartbeats 0
namespace K01
open PySem PySem.Spec L2 L3
open PyProof.Rows hiding St
section
variable {h w d h' w' d' w1 w2 w3 : Nat} {a b c x y : D} {xs ys : List D}
theorem SmL.sub (s : SmL h w d ys) (hs : xs.Sublist ys) : SmL h w d xs := by
  have m : (saneL ys = true → saneL xs = true) ∧ (tyBL ys = true → tyBL xs = true) ∧ htL xs ≤ htL ys ∧ wtL xs ≤ wtL ys ∧ dpL xs ≤ dpL ys := by
    clear s
    induction hs with
    | slnil => exact ⟨id, id, Nat.le_refl _, Nat.le_refl _, Nat.le_refl _⟩
    | cons a _ ih =>
      obtain ⟨i1, i2, i3, i4, i5⟩ := ih
      simp only [saneL, tyBL, htL, wtL, dpL, Bool.and_eq_true]
      exact ⟨fun z => i1 z.2, fun z => i2 z.2, by omega, by omega, by omega⟩
    | cons_cons a _ ih =>
      obtain ⟨i1, i2, i3, i4, i5⟩ := ih
      simp only [saneL, tyBL, htL, wtL, dpL, Bool.and_eq_true]
      exact ⟨fun z => ⟨z.1, i1 z.2⟩, fun z => ⟨z.1, i2 z.2⟩, by omega, by omega, by omega⟩
  exact ⟨m.1 s.sane, m.2.1 s.ty, Nat.le_trans m.2.2.1 s.ht, Nat.le_trans m.2.2.2.1 s.wt, Nat.le_trans m.2.2.2.2 s.dp⟩
theorem SmL.ins (s : SmL h w d (xs ++ ys)) (r : Sm h w1 d x) : SmL h (w + w1) d (xs ++ [x] ++ ys) := by
  obtain ⟨a1, a2, a3, a4, a5⟩ := s
  rw [saneL_append, Bool.and_eq_true] at a1
  rw [tyBL_append, Bool.and_eq_true] at a2
  rw [htL_append] at a3
  rw [wtL_append] at a4
  rw [dpL_append] at a5
  obtain ⟨r1, r2, r3, r4, r5⟩ := r
  refine ⟨?_, ?_, ?_, ?_, ?_⟩
  · simp only [saneL_append, saneL, a1.1, a1.2, r1, Bool.and_self]
  · simp only [tyBL_append, tyBL, a2.1, a2.2, r2, Bool.and_self]
  · simp only [htL_append, htL]; omega
  · simp only [wtL_append, wtL]; omega
  · simp only [dpL_append, dpL]; omega
theorem SmL.cut (s : SmL h w d xs) (n : Nat) : SmL h w d (xs.take n ++ xs.drop (n + 1)) := by
  rw [← List.eraseIdx_eq_take_drop_succ]
  exact s.sub (List.eraseIdx_sublist _ _)
end
section
variable {P : Program} {w : World} {K : PySem.W.Frag} {mg : Str → Option Value} {base : Heap}
def S_bent : SP3 := fun ds G R _ => match ds with
  | [x, y] => ∃ p d l, x = .ref p ∧ HandOk G p ∧ lk y = some (d, l) ∧ d ≤ 7 ∧ Sm 13 392 13 y ∧ ∀ r G', Fit2 r → HandOk G' p → Apart p G G' → R r G'
  | _ => False
theorem ok_bent (T : Tx K mg) : Good P w K mg base "_law_bent" ["hand", "recipe"] 20 S_bent := by
  have g__law_any := ok_any (P := P) (w := w) (base := base) T
  have g__law_draw := ok_draw (P := P) (w := w) (base := base) T
  have g__law_odd := ok_odd (P := P) (w := w) (base := base) T
  have g__law_places := ok_pl (P := P) (w := w) (base := base) T 8
  have g__law_at := ok_at (P := P) (w := w) (base := base) T
  have g__law_with := ok_wi (P := P) (w := w) (base := base) T 8
  have g__law_part_bent := ok_pb (P := P) (w := w) (base := base) T
  refine good_of (d__law_bent T) sc__law_bent fun f cd A outer s H E hp tk hgd hr => ⟨_, (s_cons (s_set 2 sc__law_bent.nd rfl (.inl rfl) rfl (c_call g__law_places (hr.mono (by omega)) hgd tk (a_cons (c_var 1) (a_cons (c_tup a_nil) a_nil))))
      (s_cons (s_if (t_w (o_or (t_cmp (op_eq3 hr.units) lift_eq (c_callB call_len lift_len (n_len T) (a_cons (c_var 2) a_nil)) c_int) (o_or1 (t_cmp (op_eq3 hr.units) lift_eq (c_call g__law_draw (hr.mono (by omega)) hgd tk (a_cons (c_var 0) (a_cons c_int a_nil))) c_int)))) (s_one (s_ret (c_call g__law_odd (hr.mono (by omega)) hgd tk (a_cons (c_var 0) a_nil)))) s_nil)
      (s_cons (s_set 3 sc__law_bent.nd rfl (.inl rfl) rfl (c_call g__law_any (hr.mono (by omega)) hgd tk (a_cons (c_var 0) (a_cons (c_var 2) a_nil))))
      (s_cons (s_par 4 5 rfl sc__law_bent.nd rfl rfl (by decide) rfl rfl (a_cons (c_call g__law_at (hr.mono (by omega)) hgd tk (a_cons (c_var 1) (a_cons (c_var 3) a_nil))) (a_cons (c_call g__law_draw (hr.mono (by omega)) hgd tk (a_cons (c_var 0) (a_cons c_int a_nil))) a_nil)) rfl)
      (s_cons (s_set 6 sc__law_bent.nd rfl (.inl rfl) rfl (c_call g__law_draw (hr.mono (by omega)) hgd tk (a_cons (c_var 0) (a_cons (c_callB call_len lift_len (n_len T) (a_cons (c_var 4) a_nil)) a_nil))))
      (s_cons (s_if (t_cmp op_lt lift_I2b (c_var 5) c_int) (s_one (s_ret (c_call g__law_with (hr.mono (by omega)) hgd tk (a_cons (c_var 1) (a_cons (c_var 3) (a_cons (c_op op_add3 lift_add (c_op op_add3 lift_add (c_slice (c_var 4) p_none (p_some (c_var 6))) (c_tup (a_cons (c_call g__law_part_bent (hr.mono (by omega)) hgd tk (a_cons (c_var 0) (a_cons (c_ix (c_var 4) (c_var 6)) a_nil))) a_nil))) (c_slice (c_var 4) (p_some (c_op op_add3 lift_add (c_var 6) c_int)) p_none)) a_nil)))))) s_nil)
      (s_cons (s_if (t_cmp (op_eq3 hr.units) lift_eq (c_var 5) c_int) (s_one (s_ret (c_call g__law_with (hr.mono (by omega)) hgd tk (a_cons (c_var 1) (a_cons (c_var 3) (a_cons (c_op op_add3 lift_add (c_slice (c_var 4) p_none (p_some (c_var 6))) (c_slice (c_var 4) (p_some (c_op op_add3 lift_add (c_var 6) c_int)) p_none)) a_nil)))))) s_nil)
      (s_cons (s_if (t_cmp (op_eq3 hr.units) lift_eq (c_var 5) c_int) (s_one (s_ret (c_call g__law_with (hr.mono (by omega)) hgd tk (a_cons (c_var 1) (a_cons (c_var 3) (a_cons (c_op op_add3 lift_add (c_var 4) (c_tup (a_cons (c_tup (a_cons (c_tup (a_cons c_int (a_cons c_int a_nil))) (a_cons (c_call g__law_any (hr.mono (by omega)) hgd tk (a_cons (c_var 0) (a_cons (c_tup (a_cons (c_tup (a_cons c_int (a_cons c_int a_nil))) (a_cons (c_tup (a_cons c_int (a_cons c_int a_nil))) a_nil))) a_nil))) (a_cons (c_call g__law_draw (hr.mono (by omega)) hgd tk (a_cons (c_var 0) (a_cons c_int a_nil))) a_nil)))) a_nil))) a_nil)))))) s_nil)
      (s_cons (s_if (t_cmp (op_eq3 hr.units) lift_eq (c_var 5) c_int) (s_one (s_ret (c_call g__law_with (hr.mono (by omega)) hgd tk (a_cons (c_var 1) (a_cons (c_var 3) (a_cons (c_call g__law_any (hr.mono (by omega)) hgd tk (a_cons (c_var 0) (a_cons (c_tup (a_cons (c_callT call_list_of lift_list (n_list T) (a_cons (c_var 4) a_nil)) (a_cons (c_op op_add3 lift_add (c_var 4) (c_tup (a_cons c_non a_nil))) (a_cons (c_tup a_nil) (a_cons (c_revT (c_var 4)) (a_cons (c_op op_add3 lift_add (c_var 4) (c_slice (c_var 4) p_none (p_some c_int))) a_nil)))))) a_nil))) a_nil)))))) s_nil)
      (s_cons (s_set 7 sc__law_bent.nd rfl (.inl rfl) rfl (c_var 1))
      (s_cons (s_for hp rfl (i_rg1 (n_range T) (c_op op_add3 lift_add c_int (c_call g__law_draw (hr.mono (by omega)) hgd tk (a_cons (c_var 0) (a_cons c_int a_nil))))) (g_name 8 sc__law_bent.nd rfl (.inl rfl)) (s_one (s_set 7 sc__law_bent.nd rfl (.inl rfl) rfl (c_tup (a_cons (c_tup (a_cons (c_call g__law_any (hr.mono (by omega)) hgd tk (a_cons (c_var 0) (a_cons (c_tup (a_cons (c_tup (a_cons c_int (a_cons c_int a_nil))) (a_cons (c_tup (a_cons c_int (a_cons c_int a_nil))) a_nil))) a_nil))) (a_cons (c_tup (a_cons c_int (a_cons c_int a_nil))) (a_cons (c_var 7) a_nil)))) a_nil)))))
      (s_one (s_ret (c_var 7)))))))))))))), fun ds G R Ex hlen hS => ?_⟩
  clear hp tk hgd hr hlen
  match ds, hS with
  | [x, y], ⟨p, d, l, e1, hH, hk, hd, sy, hR⟩ =>
    subst e1
    rw [show start3 ["hand", "recipe", "ways", "way", "mix", "kind", "place", "wrapped", "turn"] [.ref p, y] = [some (.ref p), some (y), none, none, none, none, none, none, none] from rfl]
    have sz : ∀ n : Nat, n ≤ 10000 → n ≤ sizeLine := fun n hn => size_small (by omega)
    have s0 := sz 0 (by omega)
    have s1 := sz 1 (by omega)
    have s2 := sz 2 (by omega)
    have s3 := sz 3 (by omega)
    have s4 := sz 4 (by omega)
    have s5 := sz 5 (by omega)
    have wy := sy.wt
    simp only [wExpr, wRaise, gSb, wSeq, wNext, wRet, wRetN, wExpr, wIfS, wSet, wAsg, wPar, wAug, w1, w2, wA, aNil, aCons, wVar, wVarT, wC, tOfW, w3c, wAnd, wOr, wNot, tAnd3, tOr3, tNot3, wIf, wTup, wLst, wLstO, wCall, wSl, pNone, pSome, wipe3, List.map_cons, List.map_nil, fI2, fI2C, fI1, fAbs, addI, mulI, intI, eqS, neS, isN_, notN_, L3.isNon, gN, gsN, gsC, gT, asT, at3, List.set_cons_zero, List.set_cons_succ, Option.some.injEq, exists_eq_left', D.bl.injEq, D.int.injEq, D.tup.injEq, List.length_cons, List.length_nil, Nat.reduceAdd, true_and, if_true, if_false, Bool.false_eq_true, reduceIte, ite_true, ite_false, len_t0, len_t1, len_t2, len_t3, len_l0, len_l1, eqI, neI, Int.reduceBEq, Int.reduceLT, Int.reduceLE, Int.reduceNeg, decide_true, decide_false, Bool.not_true, Bool.not_false, ix0, ix1, ix2, and_true, and_self, S_pl, s0]
    refine ⟨[], d, l, sy.sane, rfl, hk, by omega, by simp; omega, by omega, fun ws hws hv => ?_⟩
    simp only [wExpr, wRaise, gSb, wSeq, wNext, wRet, wRetN, wExpr, wIfS, wSet, wAsg, wPar, wAug, w1, w2, wA, aNil, aCons, wVar, wVarT, wC, tOfW, w3c, wAnd, wOr, wNot, tAnd3, tOr3, tNot3, wIf, wTup, wLst, wLstO, wCall, wSl, pNone, pSome, wipe3, List.map_cons, List.map_nil, fI2, fI2C, fI1, fAbs, addI, mulI, intI, eqS, neS, isN_, notN_, L3.isNon, gN, gsN, gsC, gT, asT, at3, List.set_cons_zero, List.set_cons_succ, Option.some.injEq, exists_eq_left', D.bl.injEq, D.int.injEq, D.tup.injEq, List.length_cons, List.length_nil, Nat.reduceAdd, true_and, if_true, if_false, Bool.false_eq_true, reduceIte, ite_true, ite_false, len_t0, len_t1, len_t2, len_t3, len_l0, len_l1, eqI, neI, Int.reduceBEq, Int.reduceLT, Int.reduceLE, Int.reduceNeg, decide_true, decide_false, Bool.not_true, Bool.not_false, ix0, ix1, ix2, and_true, and_self, len_lst, List.length_map, S_draw, S_odd, S_any]
    by_cases c0 : ws.length = 0
    · have c0' : ((ws.length : Int) == 0) = true := by rw [c0]; rfl
      simp only [c0', wExpr, wRaise, gSb, wSeq, wNext, wRet, wRetN, wExpr, wIfS, wSet, wAsg, wPar, wAug, w1, w2, wA, aNil, aCons, wVar, wVarT, wC, tOfW, w3c, wAnd, wOr, wNot, tAnd3, tOr3, tNot3, wIf, wTup, wLst, wLstO, wCall, wSl, pNone, pSome, wipe3, List.map_cons, List.map_nil, fI2, fI2C, fI1, fAbs, addI, mulI, intI, eqS, neS, isN_, notN_, L3.isNon, gN, gsN, gsC, gT, asT, at3, List.set_cons_zero, List.set_cons_succ, Option.some.injEq, exists_eq_left', D.bl.injEq, D.int.injEq, D.tup.injEq, List.length_cons, List.length_nil, Nat.reduceAdd, true_and, if_true, if_false, Bool.false_eq_true, reduceIte, ite_true, ite_false, len_t0, len_t1, len_t2, len_t3, len_l0, len_l1, eqI, neI, Int.reduceBEq, Int.reduceLT, Int.reduceLE, Int.reduceNeg, decide_true, decide_false, Bool.not_true, Bool.not_false, ix0, ix1, ix2, and_true, and_self, S_odd]
      exact ⟨p, rfl, hH, fun q G1 fq hH1 hA1 => hR q G1 fq hH1 hA1⟩
    have c0' : ((ws.length : Int) == 0) = false := by rw [beq_eq_false_iff_ne]; omega
    simp only [c0', wExpr, wRaise, gSb, wSeq, wNext, wRet, wRetN, wExpr, wIfS, wSet, wAsg, wPar, wAug, w1, w2, wA, aNil, aCons, wVar, wVarT, wC, tOfW, w3c, wAnd, wOr, wNot, tAnd3, tOr3, tNot3, wIf, wTup, wLst, wLstO, wCall, wSl, pNone, pSome, wipe3, List.map_cons, List.map_nil, fI2, fI2C, fI1, fAbs, addI, mulI, intI, eqS, neS, isN_, notN_, L3.isNon, gN, gsN, gsC, gT, asT, at3, List.set_cons_zero, List.set_cons_succ, Option.some.injEq, exists_eq_left', D.bl.injEq, D.int.injEq, D.tup.injEq, List.length_cons, List.length_nil, Nat.reduceAdd, true_and, if_true, if_false, Bool.false_eq_true, reduceIte, ite_true, ite_false, len_t0, len_t1, len_t2, len_t3, len_l0, len_l1, eqI, neI, Int.reduceBEq, Int.reduceLT, Int.reduceLE, Int.reduceNeg, decide_true, decide_false, Bool.not_true, Bool.not_false, ix0, ix1, ix2, and_true, and_self, S_odd]
    refine ⟨p, 12, rfl, rfl, hH, by decide, by decide, fun r G1 r0 r12 hH1 hA1 => ?_⟩
    by_cases c1 : r = 0
    · subst c1
      simp only [wExpr, wRaise, gSb, wSeq, wNext, wRet, wRetN, wExpr, wIfS, wSet, wAsg, wPar, wAug, w1, w2, wA, aNil, aCons, wVar, wVarT, wC, tOfW, w3c, wAnd, wOr, wNot, tAnd3, tOr3, tNot3, wIf, wTup, wLst, wLstO, wCall, wSl, pNone, pSome, wipe3, List.map_cons, List.map_nil, fI2, fI2C, fI1, fAbs, addI, mulI, intI, eqS, neS, isN_, notN_, L3.isNon, gN, gsN, gsC, gT, asT, at3, List.set_cons_zero, List.set_cons_succ, Option.some.injEq, exists_eq_left', D.bl.injEq, D.int.injEq, D.tup.injEq, List.length_cons, List.length_nil, Nat.reduceAdd, true_and, if_true, if_false, Bool.false_eq_true, reduceIte, ite_true, ite_false, len_t0, len_t1, len_t2, len_t3, len_l0, len_l1, eqI, neI, Int.reduceBEq, Int.reduceLT, Int.reduceLE, Int.reduceNeg, decide_true, decide_false, Bool.not_true, Bool.not_false, ix0, ix1, ix2, and_true, and_self, S_odd]
      exact ⟨p, rfl, hH1, fun q G2 fq hH2 hA2 => hR q G2 fq hH2 (hA1.trans hA2)⟩
    have c1' : (r == 0) = false := beq_eq_false_iff_ne.mpr c1
    simp only [c1', wExpr, wRaise, gSb, wSeq, wNext, wRet, wRetN, wExpr, wIfS, wSet, wAsg, wPar, wAug, w1, w2, wA, aNil, aCons, wVar, wVarT, wC, tOfW, w3c, wAnd, wOr, wNot, tAnd3, tOr3, tNot3, wIf, wTup, wLst, wLstO, wCall, wSl, pNone, pSome, wipe3, List.map_cons, List.map_nil, fI2, fI2C, fI1, fAbs, addI, mulI, intI, eqS, neS, isN_, notN_, L3.isNon, gN, gsN, gsC, gT, asT, at3, List.set_cons_zero, List.set_cons_succ, Option.some.injEq, exists_eq_left', D.bl.injEq, D.int.injEq, D.tup.injEq, List.length_cons, List.length_nil, Nat.reduceAdd, true_and, if_true, if_false, Bool.false_eq_true, reduceIte, ite_true, ite_false, len_t0, len_t1, len_t2, len_t3, len_l0, len_l1, eqI, neI, Int.reduceBEq, Int.reduceLT, Int.reduceLE, Int.reduceNeg, decide_true, decide_false, Bool.not_true, Bool.not_false, ix0, ix1, ix2, and_true, and_self, S_any]
    refine ⟨p, _, rfl, (fun z => by cases z), hH1, rfl, by rw [List.length_map]; omega, by rw [List.length_map]; omega, fun q G2 hq hH2 hA2 => ?_⟩
    obtain ⟨v, hvm, rfl⟩ := List.mem_map.mp hq
    obtain ⟨u, ys, ev, hp, hul, hyl⟩ := hv v hvm
    rw [List.nil_append] at ev
    subst ev
    obtain ⟨d', l', hk'⟩ := pth_lk v hp hk
    obtain ⟨e', rfl, k1, k2, k3, k4⟩ := lk_tup hk'
    have hf := fit_of k2
    have sm := pth_sm v hp sy
    have sL := sm.items'
    simp only [S_at]
    refine ⟨v, .tup ys, rfl, hp, ?_⟩
    simp only [wExpr, wRaise, gSb, wSeq, wNext, wRet, wRetN, wExpr, wIfS, wSet, wAsg, wPar, wAug, w1, w2, wA, aNil, aCons, wVar, wVarT, wC, tOfW, w3c, wAnd, wOr, wNot, tAnd3, tOr3, tNot3, wIf, wTup, wLst, wLstO, wCall, wSl, pNone, pSome, wipe3, List.map_cons, List.map_nil, fI2, fI2C, fI1, fAbs, addI, mulI, intI, eqS, neS, isN_, notN_, L3.isNon, gN, gsN, gsC, gT, asT, at3, List.set_cons_zero, List.set_cons_succ, Option.some.injEq, exists_eq_left', D.bl.injEq, D.int.injEq, D.tup.injEq, List.length_cons, List.length_nil, Nat.reduceAdd, true_and, if_true, if_false, Bool.false_eq_true, reduceIte, ite_true, ite_false, len_t0, len_t1, len_t2, len_t3, len_l0, len_l1, eqI, neI, Int.reduceBEq, Int.reduceLT, Int.reduceLE, Int.reduceNeg, decide_true, decide_false, Bool.not_true, Bool.not_false, ix0, ix1, ix2, and_true, and_self, S_draw, len_tup]
    refine ⟨p, 10, rfl, rfl, hH2, by decide, by decide, fun kd G3 kd0 kd10 hH3 hA3 => ?_⟩
    refine ⟨p, ys.length, rfl, rfl, hH3, by omega, by omega, fun pl G4 pl0 pl1 hH4 hA4 => ?_⟩
    have hA := ((hA1.trans hA2).trans hA3).trans hA4
    obtain ⟨n, rfl⟩ : ∃ n : Nat, pl = (n : Int) := ⟨pl.toNat, by omega⟩
    have hn : n < ys.length := by omega
    have done : ∀ {o : D} {h w d : Nat} {G' : GH}, Sm h w d o → h ≤ 20 → w ≤ 1000 → d ≤ 20 → HandOk G' p → Apart p G G' → R (withAt o v y) G' := fun so h1 h2 h3 hH' hA' => by
      have q := with_sm so v y hp sy.sane sy.ty
      have := sy.ht
      have := sy.dp
      exact hR _ _ (q.fit2 (by omega) (by omega) (by omega)) hH' hA'
    have c2 : L3.cutD ys none (some (n : Int)) = ys.take n := cut_upto
    have c3 : L3.cutD ys (some ((n : Int) + 1)) none = ys.drop (n + 1) := cut_from (j := n + 1)
    have hget : ys[n]? = some ys[n] := List.getElem?_eq_getElem hn
    have hvl : v.length ≤ 8 := by omega
    by_cases b6 : kd < 6
    · obtain ⟨a, b, t, ep, ba, bb, _⟩ := part_cases (k3 _ (List.getElem_mem hn))
      have st : Sm 13 392 13 t := ((sL.mem (List.getElem_mem hn)) |> fun s => by rw [ep] at s; exact s.items'.mem (by simp))
      rw [ep] at hget
      simp only [decide_eq_true b6, wExpr, wRaise, gSb, wSeq, wNext, wRet, wRetN, wExpr, wIfS, wSet, wAsg, wPar, wAug, w1, w2, wA, aNil, aCons, wVar, wVarT, wC, tOfW, w3c, wAnd, wOr, wNot, tAnd3, tOr3, tNot3, wIf, wTup, wLst, wLstO, wCall, wSl, pNone, pSome, wipe3, List.map_cons, List.map_nil, fI2, fI2C, fI1, fAbs, addI, mulI, intI, eqS, neS, isN_, notN_, L3.isNon, gN, gsN, gsC, gT, asT, at3, List.set_cons_zero, List.set_cons_succ, Option.some.injEq, exists_eq_left', D.bl.injEq, D.int.injEq, D.tup.injEq, List.length_cons, List.length_nil, Nat.reduceAdd, true_and, if_true, if_false, Bool.false_eq_true, reduceIte, ite_true, ite_false, len_t0, len_t1, len_t2, len_t3, len_l0, len_l1, eqI, neI, Int.reduceBEq, Int.reduceLT, Int.reduceLE, Int.reduceNeg, decide_true, decide_false, Bool.not_true, Bool.not_false, ix0, ix1, ix2, and_true, and_self, sl_t, c2, c3, ix_t hget, S_pb, add_t, s1]
      refine ⟨p, a, b, t, 13, 392, 13, rfl, hH4, rfl, ba, bb, st, fun r G5 sr hH5 hA5 => ?_⟩
      refine ⟨sz _ (by rw [List.length_take]; omega), sz _ (by rw [List.length_append, List.length_take, List.length_drop, List.length_singleton]; omega), ?_⟩
      simp only [S_wi]
      refine ⟨v, _, rfl, hp, hvl, by omega, ?_⟩
      have so := Sm.tup (((sL.cut n).mono (h' := 16) (w' := 392) (d' := 16) (by omega) (Nat.le_refl _) (by omega)).ins (sr.mono (h' := 16) (w' := 407) (d' := 16) (by omega) (by omega) (by omega)))
      exact done so (by omega) (by omega) (by omega) hH5 (hA.trans hA5)
    simp only [decide_eq_false b6, wExpr, wRaise, gSb, wSeq, wNext, wRet, wRetN, wExpr, wIfS, wSet, wAsg, wPar, wAug, w1, w2, wA, aNil, aCons, wVar, wVarT, wC, tOfW, w3c, wAnd, wOr, wNot, tAnd3, tOr3, tNot3, wIf, wTup, wLst, wLstO, wCall, wSl, pNone, pSome, wipe3, List.map_cons, List.map_nil, fI2, fI2C, fI1, fAbs, addI, mulI, intI, eqS, neS, isN_, notN_, L3.isNon, gN, gsN, gsC, gT, asT, at3, List.set_cons_zero, List.set_cons_succ, Option.some.injEq, exists_eq_left', D.bl.injEq, D.int.injEq, D.tup.injEq, List.length_cons, List.length_nil, Nat.reduceAdd, true_and, if_true, if_false, Bool.false_eq_true, reduceIte, ite_true, ite_false, len_t0, len_t1, len_t2, len_t3, len_l0, len_l1, eqI, neI, Int.reduceBEq, Int.reduceLT, Int.reduceLE, Int.reduceNeg, decide_true, decide_false, Bool.not_true, Bool.not_false, ix0, ix1, ix2, and_true, and_self]
    by_cases b7 : kd = 6
    · subst b7
      simp only [wExpr, wRaise, gSb, wSeq, wNext, wRet, wRetN, wExpr, wIfS, wSet, wAsg, wPar, wAug, w1, w2, wA, aNil, aCons, wVar, wVarT, wC, tOfW, w3c, wAnd, wOr, wNot, tAnd3, tOr3, tNot3, wIf, wTup, wLst, wLstO, wCall, wSl, pNone, pSome, wipe3, List.map_cons, List.map_nil, fI2, fI2C, fI1, fAbs, addI, mulI, intI, eqS, neS, isN_, notN_, L3.isNon, gN, gsN, gsC, gT, asT, at3, List.set_cons_zero, List.set_cons_succ, Option.some.injEq, exists_eq_left', D.bl.injEq, D.int.injEq, D.tup.injEq, List.length_cons, List.length_nil, Nat.reduceAdd, true_and, if_true, if_false, Bool.false_eq_true, reduceIte, ite_true, ite_false, len_t0, len_t1, len_t2, len_t3, len_l0, len_l1, eqI, neI, Int.reduceBEq, Int.reduceLT, Int.reduceLE, Int.reduceNeg, decide_true, decide_false, Bool.not_true, Bool.not_false, ix0, ix1, ix2, and_true, and_self, sl_t, c2, c3, add_t, S_wi]
      refine ⟨sz _ (by rw [List.length_take, List.length_drop]; omega), v, _, rfl, hp, hvl, by omega, ?_⟩
      exact done (Sm.tup (sL.cut n)) (by omega) (by omega) (by omega) hH4 hA
    have b7' : (kd == 6) = false := beq_eq_false_iff_ne.mpr b7
    simp only [b7', wExpr, wRaise, gSb, wSeq, wNext, wRet, wRetN, wExpr, wIfS, wSet, wAsg, wPar, wAug, w1, w2, wA, aNil, aCons, wVar, wVarT, wC, tOfW, w3c, wAnd, wOr, wNot, tAnd3, tOr3, tNot3, wIf, wTup, wLst, wLstO, wCall, wSl, pNone, pSome, wipe3, List.map_cons, List.map_nil, fI2, fI2C, fI1, fAbs, addI, mulI, intI, eqS, neS, isN_, notN_, L3.isNon, gN, gsN, gsC, gT, asT, at3, List.set_cons_zero, List.set_cons_succ, Option.some.injEq, exists_eq_left', D.bl.injEq, D.int.injEq, D.tup.injEq, List.length_cons, List.length_nil, Nat.reduceAdd, true_and, if_true, if_false, Bool.false_eq_true, reduceIte, ite_true, ite_false, len_t0, len_t1, len_t2, len_t3, len_l0, len_l1, eqI, neI, Int.reduceBEq, Int.reduceLT, Int.reduceLE, Int.reduceNeg, decide_true, decide_false, Bool.not_true, Bool.not_false, ix0, ix1, ix2, and_true, and_self]
    by_cases b8 : kd = 7
    · subst b8
      simp only [wExpr, wRaise, gSb, wSeq, wNext, wRet, wRetN, wExpr, wIfS, wSet, wAsg, wPar, wAug, w1, w2, wA, aNil, aCons, wVar, wVarT, wC, tOfW, w3c, wAnd, wOr, wNot, tAnd3, tOr3, tNot3, wIf, wTup, wLst, wLstO, wCall, wSl, pNone, pSome, wipe3, List.map_cons, List.map_nil, fI2, fI2C, fI1, fAbs, addI, mulI, intI, eqS, neS, isN_, notN_, L3.isNon, gN, gsN, gsC, gT, asT, at3, List.set_cons_zero, List.set_cons_succ, Option.some.injEq, exists_eq_left', D.bl.injEq, D.int.injEq, D.tup.injEq, List.length_cons, List.length_nil, Nat.reduceAdd, true_and, if_true, if_false, Bool.false_eq_true, reduceIte, ite_true, ite_false, len_t0, len_t1, len_t2, len_t3, len_l0, len_l1, eqI, neI, Int.reduceBEq, Int.reduceLT, Int.reduceLE, Int.reduceNeg, decide_true, decide_false, Bool.not_true, Bool.not_false, ix0, ix1, ix2, and_true, and_self, add_t, S_wi, S_any, S_draw, s1, s2, s3]
      refine ⟨p, _, rfl, (fun z => by cases z), hH4, rfl, by simp, by simp, fun q G5 hq hH5 hA5 => ?_⟩
      refine ⟨p, 9, rfl, rfl, hH5, by decide, by decide, fun r G6 r0 r9 hH6 hA6 => ?_⟩
      refine ⟨sz _ (by omega), v, _, rfl, hp, hvl, by omega, ?_⟩
      have sq : Sm 1 3 1 q := by
        simp only [List.mem_cons, List.not_mem_nil, or_false] at hq
        rcases hq with rfl | rfl <;> exact Sm.of (by decide +kernel)
      have s01 : Sm 1 3 1 (.tup [.int 0, .int 1]) := Sm.of (by decide +kernel)
      have so := Sm.tup ((sL.mono (h' := 13) (w' := 392) (d' := 13) (by omega) (by omega) (by omega)).append (.cons ((Sm.three s01 sq (Sm.int1 (i := r) (by omega))).mono (h' := 13) (w' := 20) (d' := 13) (by omega) (by omega) (by omega)) (.nil (w := 0))))
      exact done so (by omega) (by omega) (by omega) hH6 ((hA.trans hA5).trans hA6)
    have b8' : (kd == 7) = false := beq_eq_false_iff_ne.mpr b8
    simp only [b8', wExpr, wRaise, gSb, wSeq, wNext, wRet, wRetN, wExpr, wIfS, wSet, wAsg, wPar, wAug, w1, w2, wA, aNil, aCons, wVar, wVarT, wC, tOfW, w3c, wAnd, wOr, wNot, tAnd3, tOr3, tNot3, wIf, wTup, wLst, wLstO, wCall, wSl, pNone, pSome, wipe3, List.map_cons, List.map_nil, fI2, fI2C, fI1, fAbs, addI, mulI, intI, eqS, neS, isN_, notN_, L3.isNon, gN, gsN, gsC, gT, asT, at3, List.set_cons_zero, List.set_cons_succ, Option.some.injEq, exists_eq_left', D.bl.injEq, D.int.injEq, D.tup.injEq, List.length_cons, List.length_nil, Nat.reduceAdd, true_and, if_true, if_false, Bool.false_eq_true, reduceIte, ite_true, ite_false, len_t0, len_t1, len_t2, len_t3, len_l0, len_l1, eqI, neI, Int.reduceBEq, Int.reduceLT, Int.reduceLE, Int.reduceNeg, decide_true, decide_false, Bool.not_true, Bool.not_false, ix0, ix1, ix2, and_true, and_self]
    by_cases b9 : kd = 8
    · subst b9
      have c4 : L3.cutD ys none (some 1) = ys.take 1 := cut_upto (j := 1)
      simp only [wExpr, wRaise, gSb, wSeq, wNext, wRet, wRetN, wExpr, wIfS, wSet, wAsg, wPar, wAug, w1, w2, wA, aNil, aCons, wVar, wVarT, wC, tOfW, w3c, wAnd, wOr, wNot, tAnd3, tOr3, tNot3, wIf, wTup, wLst, wLstO, wCall, wSl, pNone, pSome, wipe3, List.map_cons, List.map_nil, fI2, fI2C, fI1, fAbs, addI, mulI, intI, eqS, neS, isN_, notN_, L3.isNon, gN, gsN, gsC, gT, asT, at3, List.set_cons_zero, List.set_cons_succ, Option.some.injEq, exists_eq_left', D.bl.injEq, D.int.injEq, D.tup.injEq, List.length_cons, List.length_nil, Nat.reduceAdd, true_and, if_true, if_false, Bool.false_eq_true, reduceIte, ite_true, ite_false, len_t0, len_t1, len_t2, len_t3, len_l0, len_l1, eqI, neI, Int.reduceBEq, Int.reduceLT, Int.reduceLE, Int.reduceNeg, decide_true, decide_false, Bool.not_true, Bool.not_false, ix0, ix1, ix2, and_true, and_self, add_t, S_wi, S_any, s0, s1, s5, sl_t, c4, fList, wRevT]
      refine ⟨_, _, rfl, rfl, sz _ (by omega), sz _ (by rw [List.length_take]; omega), p, _, rfl, (fun z => by cases z), hH4, rfl, by simp, by simp, fun q G5 hq hH5 hA5 => ?_⟩
      refine ⟨v, _, rfl, hp, hvl, by omega, ?_⟩
      have so : Sm 15 800 15 q := by
        simp only [List.mem_cons, List.not_mem_nil, or_false] at hq
        rcases hq with rfl | rfl | rfl | rfl | rfl
        · exact (Sm.lst (h' := 15) sL).mono (by omega) (by omega) (by omega)
        · exact (Sm.tup (sL.append (.cons (w2 := 0) (Sm.non (w := 0)) .nil))).mono (by omega) (by omega) (by omega)
        · exact (Sm.tup (.nil (h := 0) (w := 0) (d := 0))).mono (by omega) (by omega) (by omega)
        · exact (Sm.tup sL.reverse).mono (by omega) (by omega) (by omega)
        · exact (Sm.tup (sL.append (sL.take 1))).mono (by omega) (by omega) (by omega)
      exact done so (by omega) (by omega) (by omega) hH5 (hA.trans hA5)
    have b9' : (kd == 8) = false := beq_eq_false_iff_ne.mpr b9
    simp only [b9', wExpr, wRaise, gSb, wSeq, wNext, wRet, wRetN, wExpr, wIfS, wSet, wAsg, wPar, wAug, w1, w2, wA, aNil, aCons, wVar, wVarT, wC, tOfW, w3c, wAnd, wOr, wNot, tAnd3, tOr3, tNot3, wIf, wTup, wLst, wLstO, wCall, wSl, pNone, pSome, wipe3, List.map_cons, List.map_nil, fI2, fI2C, fI1, fAbs, addI, mulI, intI, eqS, neS, isN_, notN_, L3.isNon, gN, gsN, gsC, gT, asT, at3, List.set_cons_zero, List.set_cons_succ, Option.some.injEq, exists_eq_left', D.bl.injEq, D.int.injEq, D.tup.injEq, List.length_cons, List.length_nil, Nat.reduceAdd, true_and, if_true, if_false, Bool.false_eq_true, reduceIte, ite_true, ite_false, len_t0, len_t1, len_t2, len_t3, len_l0, len_l1, eqI, neI, Int.reduceBEq, Int.reduceLT, Int.reduceLE, Int.reduceNeg, decide_true, decide_false, Bool.not_true, Bool.not_false, ix0, ix1, ix2, and_true, and_self, wFor, iRg1, S_draw]
    refine ⟨p, 7, rfl, rfl, hH4, by decide, by decide, fun r G5 r0 r7 hH5 hA5 => ⟨by omega, by omega, ?_⟩⟩
    refine lp_ix _ (fun i env' G' => HandOk G' p ∧ Apart p G G' ∧ ∃ z u8, Sm (13 + 2 * i) (392 + 10 * i) (13 + 2 * i) z ∧ env' = [some (.ref p), some y, some (.lst (ws.map natsD)), some (natsD v), some (.tup ys), some (.int kd), some (.int n), some z, u8]) (fun _ _ _ _ => trivial) ?_ ?_ _ _ ⟨hH5, hA.trans hA5, y, none, sy, rfl⟩
    · rintro i dd hd' env' G6 N ⟨hH6, hA6, z, u8, sz', rfl⟩ hN
      simp only [wExpr, wRaise, gSb, wSeq, wNext, wRet, wRetN, wExpr, wIfS, wSet, wAsg, wPar, wAug, w1, w2, wA, aNil, aCons, wVar, wVarT, wC, tOfW, w3c, wAnd, wOr, wNot, tAnd3, tOr3, tNot3, wIf, wTup, wLst, wLstO, wCall, wSl, pNone, pSome, wipe3, List.map_cons, List.map_nil, fI2, fI2C, fI1, fAbs, addI, mulI, intI, eqS, neS, isN_, notN_, L3.isNon, gN, gsN, gsC, gT, asT, at3, List.set_cons_zero, List.set_cons_succ, Option.some.injEq, exists_eq_left', D.bl.injEq, D.int.injEq, D.tup.injEq, List.length_cons, List.length_nil, Nat.reduceAdd, true_and, if_true, if_false, Bool.false_eq_true, reduceIte, ite_true, ite_false, len_t0, len_t1, len_t2, len_t3, len_l0, len_l1, eqI, neI, Int.reduceBEq, Int.reduceLT, Int.reduceLE, Int.reduceNeg, decide_true, decide_false, Bool.not_true, Bool.not_false, ix0, ix1, ix2, and_true, and_self, S_any, s1, s2, s3]
      refine ⟨p, _, rfl, (fun z => by cases z), hH6, rfl, by simp, by simp, fun q G7 hq hH7 hA7 => ?_⟩
      have sq : Sm 1 3 1 q := by
        simp only [List.mem_cons, List.not_mem_nil, or_false] at hq
        rcases hq with rfl | rfl <;> exact Sm.of (by decide +kernel)
      have s11 : Sm 1 3 1 (.tup [.int 1, .int 1]) := Sm.of (by decide +kernel)
      refine hN _ _ ⟨hH7, hA6.trans hA7, _, _, ?_, rfl⟩
      exact (Sm.one (Sm.three (sq.mono (h' := 13 + 2 * i) (w' := 3) (d' := 13 + 2 * i) (by omega) (by omega) (by omega)) (s11.mono (h' := 13 + 2 * i) (w' := 3) (d' := 13 + 2 * i) (by omega) (by omega) (by omega)) sz')).mono (by omega) (by omega) (by omega)
    · rintro env' G6 ⟨hH6, hA6, z, u8, sz', rfl⟩
      simp only [wExpr, wRaise, gSb, wSeq, wNext, wRet, wRetN, wExpr, wIfS, wSet, wAsg, wPar, wAug, w1, w2, wA, aNil, aCons, wVar, wVarT, wC, tOfW, w3c, wAnd, wOr, wNot, tAnd3, tOr3, tNot3, wIf, wTup, wLst, wLstO, wCall, wSl, pNone, pSome, wipe3, List.map_cons, List.map_nil, fI2, fI2C, fI1, fAbs, addI, mulI, intI, eqS, neS, isN_, notN_, L3.isNon, gN, gsN, gsC, gT, asT, at3, List.set_cons_zero, List.set_cons_succ, Option.some.injEq, exists_eq_left', D.bl.injEq, D.int.injEq, D.tup.injEq, List.length_cons, List.length_nil, Nat.reduceAdd, true_and, if_true, if_false, Bool.false_eq_true, reduceIte, ite_true, ite_false, len_t0, len_t1, len_t2, len_t3, len_l0, len_l1, eqI, neI, Int.reduceBEq, Int.reduceLT, Int.reduceLE, Int.reduceNeg, decide_true, decide_false, Bool.not_true, Bool.not_false, ix0, ix1, ix2, and_true, and_self]
      rw [List.length_map, List.length_range] at sz'
      exact hR _ _ (sz'.fit2 (by omega) (by omega) (by omega)) hH6 hA6
end

end K01

set_option Elab.async false
set_option linter.all false
set_option maxRecDepth 100000
set_option maxHeartbeats 0
namespace K01
open PySem PySem.Spec L2 L3
open PyProof.Rows hiding St
section
variable {P : Program} {w : World} {K : PySem.W.Frag} {mg : Str → Option Value} {base : Heap}
theorem repr_one {x : D} (f : Fit2 x) : ReprOk x := by
  have q := sh_of x f.ty
  have q1 := q.wt
  have q2 := q.dp
  have f1 := f.wt
  have f2 := f.dp
  refine ⟨tiny_rd _ f.ty, q.sh, by omega, PyData.shown_fits (B := 13) (by decide) (by decide) q.lf ?_⟩
  have : (toPr x).weight ≤ 1000000 := by omega
  exact Nat.le_trans this (by decide)
def S_flag : SP3 := fun ds G R _ => match ds with
  | [x, y] => ∃ a b, x = .bl a ∧ y = .bl b ∧ R (.bl (a == b)) G
  | _ => False
theorem ok_flag (T : Tx K mg) : Good P w K mg base "_law_is_flag" ["one", "due"] 1 S_flag := by
  refine good_of (d__law_is_flag T) sc__law_is_flag fun f cd A outer s H E hp tk hgd hr => ⟨_, (s_one (s_ret (c_and (c_callB call_isi3 lift_isi (n_isinstance T) (a_cons (c_var 0) (a_cons (c_bltn (n := "bool") (n_bool T)) a_nil))) (c_one (c_cmp (op_eq3 hr.units) lift_eq (c_var 0) (c_var 1)))))), fun ds G R Ex hlen hS => ?_⟩
  clear hp tk hgd hr hlen
  match ds, hS with
  | [x, y], ⟨a, b, e1, e2, hR⟩ =>
    subst e1 e2
    rw [show start3 ["one", "due"] [.bl a, .bl b] = [some (.bl a), some (.bl b)] from rfl]
    simp only [wExpr, wRaise, gSb, wSeq, wNext, wRet, wRetN, wExpr, wIfS, wSet, wAsg, wPar, wAug, w1, w2, wA, aNil, aCons, wVar, wVarT, wC, tOfW, w3c, wAnd, wOr, wNot, tAnd3, tOr3, tNot3, wIf, wTup, wLst, wLstO, wCall, wSl, pNone, pSome, wipe3, List.map_cons, List.map_nil, fI2, fI2C, fI1, fAbs, addI, mulI, intI, eqS, neS, isN_, notN_, L3.isNon, gN, gsN, gsC, gT, asT, at3, List.set_cons_zero, List.set_cons_succ, Option.some.injEq, exists_eq_left', D.bl.injEq, D.int.injEq, D.tup.injEq, List.length_cons, List.length_nil, Nat.reduceAdd, true_and, if_true, if_false, Bool.false_eq_true, reduceIte, ite_true, ite_false, len_t0, len_t1, len_t2, len_t3, len_l0, len_l1, eqI, neI, Int.reduceBEq, Int.reduceLT, Int.reduceLE, Int.reduceNeg, decide_true, decide_false, Bool.not_true, Bool.not_false, ix0, ix1, ix2, and_true, and_self, isi_bool (x := .bl a) rfl, isBlD, eqB]
    exact hR
/-! ### what is known -/
def knownB : D → Bool
  | .tup [t, .bl b] => smB 20 200 20 t && (isRec t == b)
  | _ => false
def S_known : SP3 := fun ds G R _ => ds = [] ∧ ∀ L G', L.all knownB = true → Over G G' → R (.lst L) G'
theorem ok_known (T : Tx K mg) : Good P w K mg base "_law_known" [] 1 S_known := by
  refine good_of (d__law_known T) sc__law_known fun f cd A outer s H E hp tk hgd hr => ⟨_, (s_cons (s_asg (c_tup (a_cons (c_tup (a_cons c_int (a_cons c_int a_nil))) (a_cons (c_tup (a_cons c_int (a_cons c_int a_nil))) (a_cons (c_tup (a_cons c_int (a_cons c_int a_nil))) a_nil)))) (g_tup (n := 3) rfl (gs_cons (g_name 0 sc__law_known.nd rfl (.inl rfl)) (gs_cons (g_name 1 sc__law_known.nd rfl (.inl rfl)) (gs_cons (g_name 2 sc__law_known.nd rfl (.inl rfl)) gs_nil)))))
      (s_cons (s_asg (c_tup (a_cons (c_tup (a_cons c_int (a_cons c_int a_nil))) (a_cons (c_tup (a_cons c_int (a_cons c_int a_nil))) (a_cons c_int a_nil)))) (g_tup (n := 3) rfl (gs_cons (g_name 3 sc__law_known.nd rfl (.inl rfl)) (gs_cons (g_name 4 sc__law_known.nd rfl (.inl rfl)) (gs_cons (g_name 5 sc__law_known.nd rfl (.inl rfl)) gs_nil)))))
      (s_cons (s_for hp rfl (i_rg1 (n_range T) c_int) (g_name 6 sc__law_known.nd rfl (.inl rfl)) (s_one (s_set 5 sc__law_known.nd rfl (.inl rfl) rfl (c_tup (a_cons (c_tup (a_cons (c_var 0) (a_cons (c_var 1) (a_cons (c_var 5) a_nil)))) a_nil)))))
      (s_cons (s_set 7 sc__law_known.nd rfl (.inl rfl) rfl (c_callT call_tuple_of lift_tuple (n_tuple T) (a_cons (c_lc [("place", 9)] rfl sc__law_known.nd (i_rg1 (n_range T) c_int) (blkOk_by (by kernel_rfl)) (by decide) (fun _ _ _ _ _ => (g_name 9 sc__law_known.nd rfl (.inl rfl))) (fun _ _ _ _ _ => ts_nil) (fun _ _ _ _ _ => (c_tup (a_cons (c_tup (a_cons c_int (a_cons c_int a_nil))) (a_cons (c_tup (a_cons c_int (a_cons c_int a_nil))) (a_cons (c_var 9) a_nil)))))) a_nil)))
      (s_cons (s_set 8 sc__law_known.nd rfl (.inl rfl) rfl (c_lstO (a_cons (c_tup (a_cons c_int (a_cons c_bl a_nil))) (a_cons (c_tup (a_cons c_int (a_cons c_bl a_nil))) (a_cons (c_tup (a_cons c_int (a_cons c_bl a_nil))) (a_cons (c_tup (a_cons (c_un un_neg lift_I1 c_int) (a_cons c_bl a_nil))) (a_cons (c_tup (a_cons c_bl (a_cons c_bl a_nil))) (a_cons (c_tup (a_cons (c_tup a_nil) (a_cons c_bl a_nil))) (a_cons (c_tup (a_cons c_non (a_cons c_bl a_nil))) (a_cons (c_tup (a_cons (c_var 5) (a_cons c_bl a_nil))) a_nil))))))))))
      (s_cons (s_expr (c_bm PySem.F.plainAttrs_list PySem.F.slot_list_extend PySem.F.type_list_extend mt_extend m_extend (c_var 8) (a_cons (c_lst (a_cons (c_tup (a_cons (c_tup (a_cons (c_tup (a_cons (c_var 0) (a_cons (c_var 1) (a_cons (c_var 5) a_nil)))) a_nil)) (a_cons c_bl a_nil))) (a_cons (c_tup (a_cons (c_var 7) (a_cons c_bl a_nil))) (a_cons (c_tup (a_cons (c_op op_add3 lift_add (c_var 7) (c_tup (a_cons (c_tup (a_cons (c_var 0) (a_cons (c_var 1) (a_cons c_int a_nil)))) a_nil))) (a_cons c_bl a_nil))) (a_cons (c_tup (a_cons (c_callT call_list_of lift_list (n_list T) (a_cons (c_var 7) a_nil)) (a_cons c_bl a_nil))) a_nil))))) a_nil)))
      (s_cons (s_expr (c_bm PySem.F.plainAttrs_list PySem.F.slot_list_extend PySem.F.type_list_extend mt_extend m_extend (c_var 8) (a_cons (c_lst (a_cons (c_tup (a_cons (c_tup (a_cons (c_tup (a_cons (c_var 2) (a_cons (c_var 1) (a_cons c_int a_nil)))) (a_cons (c_tup (a_cons (c_var 2) (a_cons (c_var 1) (a_cons c_int a_nil)))) a_nil))) (a_cons c_bl a_nil))) (a_cons (c_tup (a_cons (c_tup (a_cons (c_tup (a_cons (c_var 2) (a_cons (c_var 1) (a_cons c_int a_nil)))) (a_cons (c_tup (a_cons (c_var 3) (a_cons (c_var 1) (a_cons c_int a_nil)))) a_nil))) (a_cons c_bl a_nil))) a_nil))) a_nil)))
      (s_cons (s_expr (c_bm PySem.F.plainAttrs_list PySem.F.slot_list_extend PySem.F.type_list_extend mt_extend m_extend (c_var 8) (a_cons (c_lst (a_cons (c_tup (a_cons (c_tup (a_cons (c_tup (a_cons (c_var 0) (a_cons (c_var 2) (a_cons c_int a_nil)))) (a_cons (c_tup (a_cons (c_var 0) (a_cons (c_var 2) (a_cons c_int a_nil)))) a_nil))) (a_cons c_bl a_nil))) (a_cons (c_tup (a_cons (c_tup (a_cons (c_tup (a_cons (c_var 0) (a_cons (c_var 2) (a_cons c_int a_nil)))) (a_cons (c_tup (a_cons (c_var 0) (a_cons (c_var 4) (a_cons c_int a_nil)))) a_nil))) (a_cons c_bl a_nil))) a_nil))) a_nil)))
      (s_cons (s_expr (c_bm PySem.F.plainAttrs_list PySem.F.slot_list_extend PySem.F.type_list_extend mt_extend m_extend (c_var 8) (a_cons (c_lst (a_cons (c_tup (a_cons (c_tup (a_cons (c_tup (a_cons (c_var 3) (a_cons (c_var 4) (a_cons c_int a_nil)))) (a_cons (c_tup (a_cons (c_var 0) (a_cons (c_var 1) (a_cons c_int a_nil)))) a_nil))) (a_cons c_bl a_nil))) (a_cons (c_tup (a_cons (c_tup (a_cons (c_tup (a_cons (c_var 2) (a_cons (c_var 2) (a_cons c_int a_nil)))) (a_cons (c_tup (a_cons (c_var 0) (a_cons (c_var 1) (a_cons c_int a_nil)))) a_nil))) (a_cons c_bl a_nil))) a_nil))) a_nil)))
      (s_cons (s_expr (c_bm PySem.F.plainAttrs_list PySem.F.slot_list_extend PySem.F.type_list_extend mt_extend m_extend (c_var 8) (a_cons (c_lst (a_cons (c_tup (a_cons (c_tup (a_cons (c_tup (a_cons (c_var 0) (a_cons (c_var 1) (a_cons c_int a_nil)))) (a_cons (c_tup (a_cons (c_var 0) (a_cons (c_var 1) (a_cons c_int a_nil)))) a_nil))) (a_cons c_bl a_nil))) (a_cons (c_tup (a_cons (c_tup (a_cons (c_tup (a_cons (c_tup (a_cons (c_var 0) (a_cons (c_var 1) (a_cons c_int a_nil)))) a_nil)) (a_cons (c_var 1) (a_cons c_int a_nil)))) (a_cons c_bl a_nil))) a_nil))) a_nil)))
      (s_cons (s_expr (c_bm PySem.F.plainAttrs_list PySem.F.slot_list_append PySem.F.type_list_append mt_append m_append (c_var 8) (a_cons (c_tup (a_cons (c_tup (a_cons (c_tup (a_cons (c_var 0) (a_cons (c_var 1) (a_cons c_int a_nil)))) (a_cons (c_tup (a_cons (c_var 0) (a_cons (c_var 1) (a_cons (c_tup (a_cons (c_tup (a_cons (c_var 0) (a_cons (c_var 1) (a_cons c_int a_nil)))) (a_cons (c_tup (a_cons (c_var 0) (a_cons (c_var 1) (a_cons c_int a_nil)))) a_nil))) a_nil)))) a_nil))) (a_cons c_bl a_nil))) a_nil)))
      (s_cons (s_expr (c_bm PySem.F.plainAttrs_list PySem.F.slot_list_append PySem.F.type_list_append mt_append m_append (c_var 8) (a_cons (c_tup (a_cons (c_tup (a_cons (c_tup (a_cons (c_var 0) (a_cons (c_var 1) (a_cons c_int a_nil)))) (a_cons (c_tup (a_cons (c_var 0) (a_cons (c_var 1) (a_cons (c_tup (a_cons (c_tup (a_cons (c_var 2) (a_cons (c_var 1) (a_cons c_int a_nil)))) (a_cons (c_tup (a_cons (c_var 3) (a_cons (c_var 1) (a_cons c_int a_nil)))) a_nil))) a_nil)))) a_nil))) (a_cons c_bl a_nil))) a_nil)))
      (s_cons (s_expr (c_bm PySem.F.plainAttrs_list PySem.F.slot_list_append PySem.F.type_list_append mt_append m_append (c_var 8) (a_cons (c_tup (a_cons (c_tup (a_cons (c_tup (a_cons (c_var 0) (a_cons (c_var 1) (a_cons c_int a_nil)))) (a_cons (c_tup (a_cons (c_var 0) (a_cons (c_var 0) (a_cons (c_tup (a_cons (c_tup (a_cons (c_var 2) (a_cons (c_var 1) (a_cons c_int a_nil)))) (a_cons (c_tup (a_cons (c_var 2) (a_cons (c_var 1) (a_cons c_int a_nil)))) a_nil))) a_nil)))) a_nil))) (a_cons c_bl a_nil))) a_nil)))
      (s_cons (s_expr (c_bm PySem.F.plainAttrs_list PySem.F.slot_list_extend PySem.F.type_list_extend mt_extend m_extend (c_var 8) (a_cons (c_lst (a_cons (c_tup (a_cons (c_tup (a_cons (c_tup (a_cons (c_var 0) (a_cons (c_tup (a_cons c_int (a_cons c_int a_nil))) (a_cons c_int a_nil)))) (a_cons (c_tup (a_cons (c_tup (a_cons c_int (a_cons c_int a_nil))) (a_cons (c_var 1) (a_cons c_int a_nil)))) a_nil))) (a_cons c_bl a_nil))) (a_cons (c_tup (a_cons (c_tup (a_cons (c_tup (a_cons (c_var 0) (a_cons (c_tup (a_cons c_int (a_cons c_int a_nil))) (a_cons c_int a_nil)))) (a_cons (c_tup (a_cons (c_var 0) (a_cons (c_var 1) (a_cons c_int a_nil)))) a_nil))) (a_cons c_bl a_nil))) a_nil))) a_nil)))
      (s_one (s_ret (c_op op_add3 lift_add (c_varZ 8) (c_lst (a_cons (c_tup (a_cons (c_tup (a_cons (c_tup (a_cons (c_var 0) (a_cons (c_tup (a_cons c_int (a_cons c_int a_nil))) (a_cons c_int a_nil)))) a_nil)) (a_cons c_bl a_nil))) (a_cons (c_tup (a_cons (c_tup (a_cons (c_tup (a_cons (c_var 0) (a_cons (c_tup (a_cons c_int (a_cons c_bl a_nil))) (a_cons c_int a_nil)))) a_nil)) (a_cons c_bl a_nil))) (a_cons (c_tup (a_cons (c_tup (a_cons (c_tup (a_cons (c_var 0) (a_cons (c_tup (a_cons c_int (a_cons c_int a_nil))) (a_cons c_int a_nil)))) a_nil)) (a_cons c_bl a_nil))) a_nil))))))))))))))))))))), fun ds G R Ex hlen hS => ?_⟩
  clear hp tk hgd hr hlen
  obtain ⟨rfl, hR⟩ := hS
  rw [show start3 ["none", "one", "half", "more", "less", "deep", "turn", "eight", "found", "place"] [] = [none, none, none, none, none, none, none, none, none, none] from rfl]
  have sz : ∀ n : Nat, n ≤ 1000 → n ≤ sizeLine := fun n hn => size_small (by omega)
  have s0 := sz 0 (by omega)
  have s1 := sz 1 (by omega)
  have s2 := sz 2 (by omega)
  have s3 := sz 3 (by omega)
  have s4 := sz 4 (by omega)
  have s8 := sz 8 (by omega)
  have oneD : D := .tup [.int 1, .int 1]
  simp only [wExpr, wRaise, gSb, wSeq, wNext, wRet, wRetN, wExpr, wIfS, wSet, wAsg, wPar, wAug, w1, w2, wA, aNil, aCons, wVar, wVarT, wC, tOfW, w3c, wAnd, wOr, wNot, tAnd3, tOr3, tNot3, wIf, wTup, wLst, wLstO, wCall, wSl, pNone, pSome, wipe3, List.map_cons, List.map_nil, fI2, fI2C, fI1, fAbs, addI, mulI, intI, eqS, neS, isN_, notN_, L3.isNon, gN, gsN, gsC, gT, asT, at3, List.set_cons_zero, List.set_cons_succ, Option.some.injEq, exists_eq_left', D.bl.injEq, D.int.injEq, D.tup.injEq, List.length_cons, List.length_nil, Nat.reduceAdd, true_and, if_true, if_false, Bool.false_eq_true, reduceIte, ite_true, ite_false, len_t0, len_t1, len_t2, len_t3, len_l0, len_l1, eqI, neI, Int.reduceBEq, Int.reduceLT, Int.reduceLE, Int.reduceNeg, decide_true, decide_false, Bool.not_true, Bool.not_false, ix0, ix1, ix2, and_true, and_self, gT, gsC, gsN, asT, s2, s3, wFor, iRg1]
  refine ⟨by decide, by decide, ?_⟩
  rw [show ((List.range (Int.toNat 6)).map fun i : Nat => D.int (0 + (i : Int))) = [.int 0, .int 1, .int 2, .int 3, .int 4, .int 5] from rfl]
  simp only [lp, wExpr, wRaise, gSb, wSeq, wNext, wRet, wRetN, wExpr, wIfS, wSet, wAsg, wPar, wAug, w1, w2, wA, aNil, aCons, wVar, wVarT, wC, tOfW, w3c, wAnd, wOr, wNot, tAnd3, tOr3, tNot3, wIf, wTup, wLst, wLstO, wCall, wSl, pNone, pSome, wipe3, List.map_cons, List.map_nil, fI2, fI2C, fI1, fAbs, addI, mulI, intI, eqS, neS, isN_, notN_, L3.isNon, gN, gsN, gsC, gT, asT, at3, List.set_cons_zero, List.set_cons_succ, Option.some.injEq, exists_eq_left', D.bl.injEq, D.int.injEq, D.tup.injEq, List.length_cons, List.length_nil, Nat.reduceAdd, true_and, if_true, if_false, Bool.false_eq_true, reduceIte, ite_true, ite_false, len_t0, len_t1, len_t2, len_t3, len_l0, len_l1, eqI, neI, Int.reduceBEq, Int.reduceLT, Int.reduceLE, Int.reduceNeg, decide_true, decide_false, Bool.not_true, Bool.not_false, ix0, ix1, ix2, and_true, and_self, s1, s3, wLc, iRg1]
  refine ⟨by decide, by decide, ?_⟩
  refine lcm (R := fun d G1 => fTuple [d] G1 _) (fun d => .tup [.tup [.int 1, .int 8], .tup [.int 1, .int 8], d]) (fun _ _ => trivial) ?_ ?_ ?_
  · decide
  · intro d hd pp acc Q hpp hQ
    simp only [wExpr, wRaise, gSb, wSeq, wNext, wRet, wRetN, wExpr, wIfS, wSet, wAsg, wPar, wAug, w1, w2, wA, aNil, aCons, wVar, wVarT, wC, tOfW, w3c, wAnd, wOr, wNot, tAnd3, tOr3, tNot3, wIf, wTup, wLst, wLstO, wCall, wSl, pNone, pSome, wipe3, List.map_cons, List.map_nil, fI2, fI2C, fI1, fAbs, addI, mulI, intI, eqS, neS, isN_, notN_, L3.isNon, gN, gsN, gsC, gT, asT, at3, List.set_cons_zero, List.set_cons_succ, Option.some.injEq, exists_eq_left', D.bl.injEq, D.int.injEq, D.tup.injEq, List.length_cons, List.length_nil, Nat.reduceAdd, true_and, if_true, if_false, Bool.false_eq_true, reduceIte, ite_true, ite_false, len_t0, len_t1, len_t2, len_t3, len_l0, len_l1, eqI, neI, Int.reduceBEq, Int.reduceLT, Int.reduceLE, Int.reduceNeg, decide_true, decide_false, Bool.not_true, Bool.not_false, ix0, ix1, ix2, and_true, and_self, s2, s3]
    exact hQ
  · refine ⟨_, rfl, ?_⟩
    rw [show (((List.range (Int.toNat 8)).map fun i : Nat => D.int (0 + (i : Int))).map fun d => D.tup [.tup [.int 1, .int 8], .tup [.int 1, .int 8], d]) = [.tup [.tup [.int 1, .int 8], .tup [.int 1, .int 8], .int 0], .tup [.tup [.int 1, .int 8], .tup [.int 1, .int 8], .int 1], .tup [.tup [.int 1, .int 8], .tup [.int 1, .int 8], .int 2], .tup [.tup [.int 1, .int 8], .tup [.int 1, .int 8], .int 3], .tup [.tup [.int 1, .int 8], .tup [.int 1, .int 8], .int 4], .tup [.tup [.int 1, .int 8], .tup [.int 1, .int 8], .int 5], .tup [.tup [.int 1, .int 8], .tup [.int 1, .int 8], .int 6], .tup [.tup [.int 1, .int 8], .tup [.int 1, .int 8], .int 7]] from rfl]
    have cl : ∀ {q : Addr} {G' : GH} {ds : List D}, G' q = some (.lst ds) → L3.cL (.ref q) G' := fun g => by unfold L3.cL; rw [asL_ref g]; rfl
    simp only [wExpr, wRaise, gSb, wSeq, wNext, wRet, wRetN, wExpr, wIfS, wSet, wAsg, wPar, wAug, w1, w2, wA, aNil, aCons, wVar, wVarT, wC, tOfW, w3c, wAnd, wOr, wNot, tAnd3, tOr3, tNot3, wIf, wTup, wLst, wLstO, wCall, wSl, pNone, pSome, wipe3, List.map_cons, List.map_nil, fI2, fI2C, fI1, fAbs, addI, mulI, intI, eqS, neS, isN_, notN_, L3.isNon, gN, gsN, gsC, gT, asT, at3, List.set_cons_zero, List.set_cons_succ, Option.some.injEq, exists_eq_left', D.bl.injEq, D.int.injEq, D.tup.injEq, List.length_cons, List.length_nil, Nat.reduceAdd, true_and, if_true, if_false, Bool.false_eq_true, reduceIte, ite_true, ite_false, len_t0, len_t1, len_t2, len_t3, len_l0, len_l1, eqI, neI, Int.reduceBEq, Int.reduceLT, Int.reduceLE, Int.reduceNeg, decide_true, decide_false, Bool.not_true, Bool.not_false, ix0, ix1, ix2, and_true, and_self, s0, s1, s2, s3, s4, s8, wM, add_t, fList]
    intro p hp
    have s9 := sz 9 (by omega)
    have ap : ∀ {q : Addr} {ds : List D} {y : D} {G' : GH} {R' : K3}, G' q = some (.lst ds) → ds.length ≤ 100 → R' .non (gset G' q (.lst (ds ++ [y]))) → fAppend (.ref q) [y] G' R' := fun g h r => ⟨_, g, by rw [sizeLine_eq]; omega, r⟩
    refine ⟨cl gset_same, s9, _, _, rfl, rfl, ext_ref gset_same rfl (sz _ (by simp)) ?_⟩
    refine ⟨cl gset_same, ext_ref gset_same rfl (sz _ (by simp)) ?_⟩
    refine ⟨cl gset_same, ext_ref gset_same rfl (sz _ (by simp)) ?_⟩
    refine ⟨cl gset_same, ext_ref gset_same rfl (sz _ (by simp)) ?_⟩
    refine ⟨cl gset_same, ext_ref gset_same rfl (sz _ (by simp)) ?_⟩
    refine ⟨cl gset_same, ap gset_same (by simp) ?_⟩
    refine ⟨cl gset_same, ap gset_same (by simp) ?_⟩
    refine ⟨cl gset_same, ap gset_same (by simp) ?_⟩
    refine ⟨cl gset_same, ext_ref gset_same rfl (sz _ (by simp)) ?_⟩
    refine ⟨p, _, rfl, gset_same, add_lst (sz _ (by simp)) (hR _ _ (by decide +kernel) ?_)⟩
    exact Over.del (Over.new (Over.new (Over.new (Over.new (Over.new (Over.new (Over.new (Over.new (Over.new (Over.new Over.refl hp) hp) hp) hp) hp) hp) hp) hp) hp) hp) hp
end

end K01

set_option Elab.async false
set_option linter.all false
set_option maxRecDepth 100000
set_option maxHeartbeats 0
namespace K01
open PySem PySem.Spec L2 L3
open PyProof.Rows hiding St
section
variable {P : Program} {w : World} {K : PySem.W.Frag} {mg : Str → Option Value} {base : Heap}
def S_refused : SP3 := fun ds G R _ => match ds with
  | [x, y] => ∃ p, x = .ref p ∧ HandOk G p ∧ saneD y = true ∧ isRec y = false ∧ ∀ G', HandOk G' p → Apart p G G' → R (.bl true) G'
  | _ => False
theorem ok_refused (T : Tx K mg) : Good P w K mg base "_law_is_refused" ["hand", "thing"] 61 S_refused := by
  have g__law_any := ok_any (P := P) (w := w) (base := base) T
  have g__law_draw := ok_draw (P := P) (w := w) (base := base) T
  have g_bins_of := rf_bins_of (P := P) (w := w) (base := base) T
  have g_depth := rf_depth (P := P) (w := w) (base := base) T
  have g_tightened := rf_tightened (P := P) (w := w) (base := base) T
  have g_simplified := rf_simplified (P := P) (w := w) (base := base) T
  have g_recipe_text := rf_recipe_text (P := P) (w := w) (base := base) T
  have g_renamed := ok_ren (P := P) (w := w) (base := base) T
  have g_put := ok_put (P := P) (w := w) (base := base) T
  have g_is_makeup := rf_is_makeup (P := P) (w := w) (base := base) T
  have g_cheapest := rf_cheapest (P := P) (w := w) (base := base) T
  have g_corners := rf_corners (P := P) (w := w) (base := base) T
  have g_is_paper := rf_is_paper (P := P) (w := w) (base := base) T
  refine good_of (d__law_is_refused T) sc__law_is_refused fun f cd A outer s H E hp tk hgd hr => ⟨_, (s_cons (s_par3 2 3 4 rfl sc__law_is_refused.nd rfl rfl rfl (by decide) (by decide) (by decide) rfl rfl rfl (a_cons (c_call g__law_draw (hr.mono (by omega)) hgd tk (a_cons (c_var 0) (a_cons c_int a_nil))) (a_cons (c_op op_repT lift_repT (c_tup (a_cons (c_tup (a_cons c_int (a_cons c_int a_nil))) a_nil)) c_int) (a_cons c_bl a_nil))) rfl)
      (s_cons (s_par 5 6 rfl sc__law_is_refused.nd rfl rfl (by decide) rfl rfl (a_cons (c_call g__law_any (hr.mono (by omega)) hgd tk (a_cons (c_var 0) (a_cons (c_tup (a_cons c_int (a_cons c_int a_nil))) a_nil))) (a_cons (c_call g__law_any (hr.mono (by omega)) hgd tk (a_cons (c_var 0) (a_cons (c_tup (a_cons (c_defV g_bins_of.at_) (a_cons (c_defV g_depth.at_) (a_cons (c_defV g_tightened.at_) (a_cons (c_defV g_simplified.at_) (a_cons (c_defV g_recipe_text.at_) a_nil)))))) a_nil))) a_nil)) rfl)
      (s_cons (s_try 7 rfl rfl sc__law_is_refused.nd rfl rfl ⟨rfl, by decide, .inl (e_BinError T).gC⟩ tk
      (fun W1 pn xe tk hp => (s_one (s_if (t_cmp op_lt lift_I2b (c_var 2) c_int) (s_one (s_expr (show PE _ _ (up _ _ (wCallV P w K mg base 60 6 _)) from c_callV (k := 60) (i := 6) tk rfl (by first | exact Or.inl rfl | exact Or.inr (Or.inl rfl)) (hr.mono (by omega)) hgd (a_cons (c_var 1) a_nil)))) (s_one (s_if (t_cmp (op_eq3 hr.units) lift_eq (c_var 2) c_int) (s_one (s_expr (c_call g_renamed (hr.mono (by omega)) hgd tk (a_cons (c_var 1) (a_cons c_non a_nil))))) (s_one (s_if (t_cmp (op_eq3 hr.units) lift_eq (c_var 2) c_int) (s_one (s_expr (c_call g_put (hr.mono (by omega)) hgd tk (a_cons (c_var 1) (a_cons c_int (a_cons c_non a_nil)))))) (s_one (s_if (t_cmp (op_eq3 hr.units) lift_eq (c_var 2) c_int) (s_one (s_expr (c_call g_is_makeup (hr.mono (by omega)) hgd tk (a_cons (c_var 1) (a_cons (c_var 5) (a_cons (c_tup (a_cons (c_tup (a_cons c_int (a_cons c_int a_nil))) a_nil)) a_nil)))))) (s_one (s_if (t_cmp (op_eq3 hr.units) lift_eq (c_var 2) c_int) (s_one (s_expr (c_call g_cheapest (hr.mono (by omega)) hgd tk (a_cons (c_var 1) (a_cons (c_if (t_cmp (op_eq3 hr.units) lift_eq (c_var 5) c_int) (c_var 3) c_non) a_nil))))) (s_one (s_if (t_cmp (op_eq3 hr.units) lift_eq (c_var 5) c_int) (s_one (s_expr (c_callD g_corners (hr.mono (by omega)) hgd tk (a_cons (c_var 1) (a_cons c_int a_nil))))) (s_one (s_expr (c_call g_is_paper (hr.mono (by omega)) hgd tk (a_cons (c_var 1) (a_cons c_non a_nil))))))))))))))))))
      (fun a oe cls pn hl => (s_one (s_set 4 sc__law_is_refused.nd rfl (.inl rfl) rfl (c_callB (call_isH hl) (lift_isH (K := K)) (n_isinstance T) (a_cons (c_var 7) (a_cons (c_cls (e_BadRecipe T)) a_nil)))))))
      (s_one (s_ret (c_var 4)))))), fun ds G R Ex hlen hS => ?_⟩
  clear hp tk hgd hr hlen
  match ds, hS with
  | [x, y], ⟨p, e1, hH, hs, hn, hR⟩ =>
    subst e1
    rw [show start3 ["hand", "thing", "which", "prices", "found", "many", "ask", "error"] [.ref p, y] = [some (.ref p), some (y), none, none, none, none, none, none] from rfl]
    have sz : ∀ n : Nat, n ≤ 1000 → n ≤ sizeLine := fun n hn => size_small (by omega)
    have s0 := sz 0 (by omega)
    have s1 := sz 1 (by omega)
    have s2 := sz 2 (by omega)
    have s3 := sz 3 (by omega)
    have s5 := sz 5 (by omega)
    simp only [wExpr, wRaise, gSb, wSeq, wNext, wRet, wRetN, wExpr, wIfS, wSet, wAsg, wPar, wAug, w1, w2, wA, aNil, aCons, wVar, wVarT, wC, tOfW, w3c, wAnd, wOr, wNot, tAnd3, tOr3, tNot3, wIf, wTup, wLst, wLstO, wCall, wSl, pNone, pSome, wipe3, List.map_cons, List.map_nil, fI2, fI2C, fI1, fAbs, addI, mulI, intI, eqS, neS, isN_, notN_, L3.isNon, gN, gsN, gsC, gT, asT, at3, List.set_cons_zero, List.set_cons_succ, Option.some.injEq, exists_eq_left', D.bl.injEq, D.int.injEq, D.tup.injEq, List.length_cons, List.length_nil, Nat.reduceAdd, true_and, if_true, if_false, Bool.false_eq_true, reduceIte, ite_true, ite_false, len_t0, len_t1, len_t2, len_t3, len_l0, len_l1, eqI, neI, Int.reduceBEq, Int.reduceLT, Int.reduceLE, Int.reduceNeg, decide_true, decide_false, Bool.not_true, Bool.not_false, ix0, ix1, ix2, and_true, and_self, S_draw, wPar3, s1, s2, s3, s5, S_any]
    refine ⟨p, 11, rfl, rfl, hH, by decide, by decide, fun r G1 r0 r11 hH1 hA1 => ?_⟩
    refine ⟨_, 8, rfl, rfl, (fun z => by cases z), by decide, by decide, by simp, ?_⟩
    generalize (D.tup (List.replicate (Int.toNat 8) [D.tup [D.int 1, D.int 1]]).flatten) = pr
    try simp only [wExpr, wRaise, gSb, wSeq, wNext, wRet, wRetN, wExpr, wIfS, wSet, wAsg, wPar, wAug, w1, w2, wA, aNil, aCons, wVar, wVarT, wC, tOfW, w3c, wAnd, wOr, wNot, tAnd3, tOr3, tNot3, wIf, wTup, wLst, wLstO, wCall, wSl, pNone, pSome, wipe3, List.map_cons, List.map_nil, fI2, fI2C, fI1, fAbs, addI, mulI, intI, eqS, neS, isN_, notN_, L3.isNon, gN, gsN, gsC, gT, asT, at3, List.set_cons_zero, List.set_cons_succ, Option.some.injEq, exists_eq_left', D.bl.injEq, D.int.injEq, D.tup.injEq, List.length_cons, List.length_nil, Nat.reduceAdd, true_and, if_true, if_false, Bool.false_eq_true, reduceIte, ite_true, ite_false, len_t0, len_t1, len_t2, len_t3, len_l0, len_l1, eqI, neI, Int.reduceBEq, Int.reduceLT, Int.reduceLE, Int.reduceNeg, decide_true, decide_false, Bool.not_true, Bool.not_false, ix0, ix1, ix2, and_true, and_self, S_any, s2]
    refine ⟨p, _, rfl, (fun z => by cases z), hH1, rfl, by simp, by simp, fun many G2 hm hH2 hA2 => ?_⟩
    intro f1 F1 f2 F2 f3 F3 f4 F4 f5 F5
    refine ⟨p, _, rfl, (fun z => by cases z), hH2, rfl, by simp, by simp, fun ask G3 ha hH3 hA3 => ?_⟩
    have hA := (hA1.trans hA2).trans hA3
    obtain ⟨fa, rfl, FA⟩ : ∃ fa, ask = .ref fa ∧ GoodAt P w K mg base fa ["recipe"] [] 60 (S_ref K 1) := by
      simp only [List.mem_cons, List.not_mem_nil, or_false] at ha
      rcases ha with rfl | rfl | rfl | rfl | rfl
      · exact ⟨_, rfl, F1.mono (by omega)⟩
      · exact ⟨_, rfl, F2.mono (by omega)⟩
      · exact ⟨_, rfl, F3.mono (by omega)⟩
      · exact ⟨_, rfl, F4.mono (by omega)⟩
      · exact ⟨_, rfl, F5.mono (by omega)⟩
    obtain ⟨mi, rfl, hmi⟩ : ∃ mi : Int, many = .int mi ∧ (mi = 8 ∨ mi = 0) := by
      simp only [List.mem_cons, List.not_mem_nil, or_false] at hm
      rcases hm with rfl | rfl
      · exact ⟨8, rfl, .inl rfl⟩
      · exact ⟨0, rfl, .inr rfl⟩
    simp only [wTry]
    generalize hEX : (fun (cls : Value) (fs : Option (List Str × List D)) (env1 : Env3) (G1 : GH) => _) = EX
    have fin : EX (Bad K "BadRecipe") none [some (.ref p), some y, some (.int r), some pr, some (.bl false), some (.int mi), some (.ref fa), none] G3 := by
      rw [← hEX]
      refine ⟨true, m_BadRecipe_BinError T, fun _ => ⟨rfl, fun a ha => ?_⟩, fun z => (by cases z)⟩
      simp only [wExpr, wRaise, gSb, wSeq, wNext, wRet, wRetN, wExpr, wIfS, wSet, wAsg, wPar, wAug, w1, w2, wA, aNil, aCons, wVar, wVarT, wC, tOfW, w3c, wAnd, wOr, wNot, tAnd3, tOr3, tNot3, wIf, wTup, wLst, wLstO, wCall, wSl, pNone, pSome, wipe3, List.map_cons, List.map_nil, fI2, fI2C, fI1, fAbs, addI, mulI, intI, eqS, neS, isN_, notN_, L3.isNon, gN, gsN, gsC, gT, asT, at3, List.set_cons_zero, List.set_cons_succ, Option.some.injEq, exists_eq_left', D.bl.injEq, D.int.injEq, D.tup.injEq, List.length_cons, List.length_nil, Nat.reduceAdd, true_and, if_true, if_false, Bool.false_eq_true, reduceIte, ite_true, ite_false, len_t0, len_t1, len_t2, len_t3, len_l0, len_l1, eqI, neI, Int.reduceBEq, Int.reduceLT, Int.reduceLE, Int.reduceNeg, decide_true, decide_false, Bool.not_true, Bool.not_false, ix0, ix1, ix2, and_true, and_self, fIsH]
      exact ⟨_, _, _, rfl, (e_BadRecipe T).c, rfl, k_BadRecipe_BadRecipe T, hR G3 hH3 hA⟩
    have e6 : renO y .non = .bad "BadRecipe" := by unfold renO; rw [if_pos hn]
    have e7 : putO y (.int 0) .non = .bad "BadRecipe" := by unfold putO; rw [if_pos hn]
    by_cases c6 : r < 6
    · simp only [decide_eq_true c6, wExpr, wRaise, gSb, wSeq, wNext, wRet, wRetN, wExpr, wIfS, wSet, wAsg, wPar, wAug, w1, w2, wA, aNil, aCons, wVar, wVarT, wC, tOfW, w3c, wAnd, wOr, wNot, tAnd3, tOr3, tNot3, wIf, wTup, wLst, wLstO, wCall, wSl, pNone, pSome, wipe3, List.map_cons, List.map_nil, fI2, fI2C, fI1, fAbs, addI, mulI, intI, eqS, neS, isN_, notN_, L3.isNon, gN, gsN, gsC, gT, asT, at3, List.set_cons_zero, List.set_cons_succ, Option.some.injEq, exists_eq_left', D.bl.injEq, D.int.injEq, D.tup.injEq, List.length_cons, List.length_nil, Nat.reduceAdd, true_and, if_true, if_false, Bool.false_eq_true, reduceIte, ite_true, ite_false, len_t0, len_t1, len_t2, len_t3, len_l0, len_l1, eqI, neI, Int.reduceBEq, Int.reduceLT, Int.reduceLE, Int.reduceNeg, decide_true, decide_false, Bool.not_true, Bool.not_false, ix0, ix1, ix2, and_true, and_self, wCallV, wCallD]
      exact ⟨fa, _, _, _, rfl, FA, rfl, rfl, y, [], rfl, hs, hn, fun _ => fin⟩
    simp only [decide_eq_false c6, wExpr, wRaise, gSb, wSeq, wNext, wRet, wRetN, wExpr, wIfS, wSet, wAsg, wPar, wAug, w1, w2, wA, aNil, aCons, wVar, wVarT, wC, tOfW, w3c, wAnd, wOr, wNot, tAnd3, tOr3, tNot3, wIf, wTup, wLst, wLstO, wCall, wSl, pNone, pSome, wipe3, List.map_cons, List.map_nil, fI2, fI2C, fI1, fAbs, addI, mulI, intI, eqS, neS, isN_, notN_, L3.isNon, gN, gsN, gsC, gT, asT, at3, List.set_cons_zero, List.set_cons_succ, Option.some.injEq, exists_eq_left', D.bl.injEq, D.int.injEq, D.tup.injEq, List.length_cons, List.length_nil, Nat.reduceAdd, true_and, if_true, if_false, Bool.false_eq_true, reduceIte, ite_true, ite_false, len_t0, len_t1, len_t2, len_t3, len_l0, len_l1, eqI, neI, Int.reduceBEq, Int.reduceLT, Int.reduceLE, Int.reduceNeg, decide_true, decide_false, Bool.not_true, Bool.not_false, ix0, ix1, ix2, and_true, and_self]
    by_cases b6 : r = 6
    · subst b6
      simp only [wExpr, wRaise, gSb, wSeq, wNext, wRet, wRetN, wExpr, wIfS, wSet, wAsg, wPar, wAug, w1, w2, wA, aNil, aCons, wVar, wVarT, wC, tOfW, w3c, wAnd, wOr, wNot, tAnd3, tOr3, tNot3, wIf, wTup, wLst, wLstO, wCall, wSl, pNone, pSome, wipe3, List.map_cons, List.map_nil, fI2, fI2C, fI1, fAbs, addI, mulI, intI, eqS, neS, isN_, notN_, L3.isNon, gN, gsN, gsC, gT, asT, at3, List.set_cons_zero, List.set_cons_succ, Option.some.injEq, exists_eq_left', D.bl.injEq, D.int.injEq, D.tup.injEq, List.length_cons, List.length_nil, Nat.reduceAdd, true_and, if_true, if_false, Bool.false_eq_true, reduceIte, ite_true, ite_false, len_t0, len_t1, len_t2, len_t3, len_l0, len_l1, eqI, neI, Int.reduceBEq, Int.reduceLT, Int.reduceLE, Int.reduceNeg, decide_true, decide_false, Bool.not_true, Bool.not_false, ix0, ix1, ix2, and_true, and_self, S_ren, e6, outS]
      exact ⟨hs, rfl, (fun os z => by cases z), fun _ => fin⟩
    have b6' : (r == 6) = false := beq_eq_false_iff_ne.mpr b6
    simp only [b6', wExpr, wRaise, gSb, wSeq, wNext, wRet, wRetN, wExpr, wIfS, wSet, wAsg, wPar, wAug, w1, w2, wA, aNil, aCons, wVar, wVarT, wC, tOfW, w3c, wAnd, wOr, wNot, tAnd3, tOr3, tNot3, wIf, wTup, wLst, wLstO, wCall, wSl, pNone, pSome, wipe3, List.map_cons, List.map_nil, fI2, fI2C, fI1, fAbs, addI, mulI, intI, eqS, neS, isN_, notN_, L3.isNon, gN, gsN, gsC, gT, asT, at3, List.set_cons_zero, List.set_cons_succ, Option.some.injEq, exists_eq_left', D.bl.injEq, D.int.injEq, D.tup.injEq, List.length_cons, List.length_nil, Nat.reduceAdd, true_and, if_true, if_false, Bool.false_eq_true, reduceIte, ite_true, ite_false, len_t0, len_t1, len_t2, len_t3, len_l0, len_l1, eqI, neI, Int.reduceBEq, Int.reduceLT, Int.reduceLE, Int.reduceNeg, decide_true, decide_false, Bool.not_true, Bool.not_false, ix0, ix1, ix2, and_true, and_self]
    by_cases b7 : r = 7
    · subst b7
      simp only [wExpr, wRaise, gSb, wSeq, wNext, wRet, wRetN, wExpr, wIfS, wSet, wAsg, wPar, wAug, w1, w2, wA, aNil, aCons, wVar, wVarT, wC, tOfW, w3c, wAnd, wOr, wNot, tAnd3, tOr3, tNot3, wIf, wTup, wLst, wLstO, wCall, wSl, pNone, pSome, wipe3, List.map_cons, List.map_nil, fI2, fI2C, fI1, fAbs, addI, mulI, intI, eqS, neS, isN_, notN_, L3.isNon, gN, gsN, gsC, gT, asT, at3, List.set_cons_zero, List.set_cons_succ, Option.some.injEq, exists_eq_left', D.bl.injEq, D.int.injEq, D.tup.injEq, List.length_cons, List.length_nil, Nat.reduceAdd, true_and, if_true, if_false, Bool.false_eq_true, reduceIte, ite_true, ite_false, len_t0, len_t1, len_t2, len_t3, len_l0, len_l1, eqI, neI, Int.reduceBEq, Int.reduceLT, Int.reduceLE, Int.reduceNeg, decide_true, decide_false, Bool.not_true, Bool.not_false, ix0, ix1, ix2, and_true, and_self, S_put, e7, outS]
      exact ⟨hs, rfl, rfl, fun _ => fin⟩
    have b7' : (r == 7) = false := beq_eq_false_iff_ne.mpr b7
    simp only [b7', wExpr, wRaise, gSb, wSeq, wNext, wRet, wRetN, wExpr, wIfS, wSet, wAsg, wPar, wAug, w1, w2, wA, aNil, aCons, wVar, wVarT, wC, tOfW, w3c, wAnd, wOr, wNot, tAnd3, tOr3, tNot3, wIf, wTup, wLst, wLstO, wCall, wSl, pNone, pSome, wipe3, List.map_cons, List.map_nil, fI2, fI2C, fI1, fAbs, addI, mulI, intI, eqS, neS, isN_, notN_, L3.isNon, gN, gsN, gsC, gT, asT, at3, List.set_cons_zero, List.set_cons_succ, Option.some.injEq, exists_eq_left', D.bl.injEq, D.int.injEq, D.tup.injEq, List.length_cons, List.length_nil, Nat.reduceAdd, true_and, if_true, if_false, Bool.false_eq_true, reduceIte, ite_true, ite_false, len_t0, len_t1, len_t2, len_t3, len_l0, len_l1, eqI, neI, Int.reduceBEq, Int.reduceLT, Int.reduceLE, Int.reduceNeg, decide_true, decide_false, Bool.not_true, Bool.not_false, ix0, ix1, ix2, and_true, and_self]
    by_cases b8 : r = 8
    · subst b8
      simp only [wExpr, wRaise, gSb, wSeq, wNext, wRet, wRetN, wExpr, wIfS, wSet, wAsg, wPar, wAug, w1, w2, wA, aNil, aCons, wVar, wVarT, wC, tOfW, w3c, wAnd, wOr, wNot, tAnd3, tOr3, tNot3, wIf, wTup, wLst, wLstO, wCall, wSl, pNone, pSome, wipe3, List.map_cons, List.map_nil, fI2, fI2C, fI1, fAbs, addI, mulI, intI, eqS, neS, isN_, notN_, L3.isNon, gN, gsN, gsC, gT, asT, at3, List.set_cons_zero, List.set_cons_succ, Option.some.injEq, exists_eq_left', D.bl.injEq, D.int.injEq, D.tup.injEq, List.length_cons, List.length_nil, Nat.reduceAdd, true_and, if_true, if_false, Bool.false_eq_true, reduceIte, ite_true, ite_false, len_t0, len_t1, len_t2, len_t3, len_l0, len_l1, eqI, neI, Int.reduceBEq, Int.reduceLT, Int.reduceLE, Int.reduceNeg, decide_true, decide_false, Bool.not_true, Bool.not_false, ix0, ix1, ix2, and_true, and_self, S_ref, s1, s2]
      exact ⟨y, _, rfl, hs, hn, fun _ => fin⟩
    have b8' : (r == 8) = false := beq_eq_false_iff_ne.mpr b8
    simp only [b8', wExpr, wRaise, gSb, wSeq, wNext, wRet, wRetN, wExpr, wIfS, wSet, wAsg, wPar, wAug, w1, w2, wA, aNil, aCons, wVar, wVarT, wC, tOfW, w3c, wAnd, wOr, wNot, tAnd3, tOr3, tNot3, wIf, wTup, wLst, wLstO, wCall, wSl, pNone, pSome, wipe3, List.map_cons, List.map_nil, fI2, fI2C, fI1, fAbs, addI, mulI, intI, eqS, neS, isN_, notN_, L3.isNon, gN, gsN, gsC, gT, asT, at3, List.set_cons_zero, List.set_cons_succ, Option.some.injEq, exists_eq_left', D.bl.injEq, D.int.injEq, D.tup.injEq, List.length_cons, List.length_nil, Nat.reduceAdd, true_and, if_true, if_false, Bool.false_eq_true, reduceIte, ite_true, ite_false, len_t0, len_t1, len_t2, len_t3, len_l0, len_l1, eqI, neI, Int.reduceBEq, Int.reduceLT, Int.reduceLE, Int.reduceNeg, decide_true, decide_false, Bool.not_true, Bool.not_false, ix0, ix1, ix2, and_true, and_self]
    rcases hmi with rfl | rfl
    · by_cases b9 : r = 9
      · subst b9
        simp only [wExpr, wRaise, gSb, wSeq, wNext, wRet, wRetN, wExpr, wIfS, wSet, wAsg, wPar, wAug, w1, w2, wA, aNil, aCons, wVar, wVarT, wC, tOfW, w3c, wAnd, wOr, wNot, tAnd3, tOr3, tNot3, wIf, wTup, wLst, wLstO, wCall, wSl, pNone, pSome, wipe3, List.map_cons, List.map_nil, fI2, fI2C, fI1, fAbs, addI, mulI, intI, eqS, neS, isN_, notN_, L3.isNon, gN, gsN, gsC, gT, asT, at3, List.set_cons_zero, List.set_cons_succ, Option.some.injEq, exists_eq_left', D.bl.injEq, D.int.injEq, D.tup.injEq, List.length_cons, List.length_nil, Nat.reduceAdd, true_and, if_true, if_false, Bool.false_eq_true, reduceIte, ite_true, ite_false, len_t0, len_t1, len_t2, len_t3, len_l0, len_l1, eqI, neI, Int.reduceBEq, Int.reduceLT, Int.reduceLE, Int.reduceNeg, decide_true, decide_false, Bool.not_true, Bool.not_false, ix0, ix1, ix2, and_true, and_self, S_ref]
        exact ⟨y, _, rfl, hs, hn, fun _ => fin⟩
      have b9' : (r == 9) = false := beq_eq_false_iff_ne.mpr b9
      simp only [b9', wExpr, wRaise, gSb, wSeq, wNext, wRet, wRetN, wExpr, wIfS, wSet, wAsg, wPar, wAug, w1, w2, wA, aNil, aCons, wVar, wVarT, wC, tOfW, w3c, wAnd, wOr, wNot, tAnd3, tOr3, tNot3, wIf, wTup, wLst, wLstO, wCall, wSl, pNone, pSome, wipe3, List.map_cons, List.map_nil, fI2, fI2C, fI1, fAbs, addI, mulI, intI, eqS, neS, isN_, notN_, L3.isNon, gN, gsN, gsC, gT, asT, at3, List.set_cons_zero, List.set_cons_succ, Option.some.injEq, exists_eq_left', D.bl.injEq, D.int.injEq, D.tup.injEq, List.length_cons, List.length_nil, Nat.reduceAdd, true_and, if_true, if_false, Bool.false_eq_true, reduceIte, ite_true, ite_false, len_t0, len_t1, len_t2, len_t3, len_l0, len_l1, eqI, neI, Int.reduceBEq, Int.reduceLT, Int.reduceLE, Int.reduceNeg, decide_true, decide_false, Bool.not_true, Bool.not_false, ix0, ix1, ix2, and_true, and_self, wCallD, S_ref]
      exact ⟨rfl, rfl, y, _, rfl, hs, hn, fun _ => fin⟩
    · by_cases b9 : r = 9
      · subst b9
        simp only [wExpr, wRaise, gSb, wSeq, wNext, wRet, wRetN, wExpr, wIfS, wSet, wAsg, wPar, wAug, w1, w2, wA, aNil, aCons, wVar, wVarT, wC, tOfW, w3c, wAnd, wOr, wNot, tAnd3, tOr3, tNot3, wIf, wTup, wLst, wLstO, wCall, wSl, pNone, pSome, wipe3, List.map_cons, List.map_nil, fI2, fI2C, fI1, fAbs, addI, mulI, intI, eqS, neS, isN_, notN_, L3.isNon, gN, gsN, gsC, gT, asT, at3, List.set_cons_zero, List.set_cons_succ, Option.some.injEq, exists_eq_left', D.bl.injEq, D.int.injEq, D.tup.injEq, List.length_cons, List.length_nil, Nat.reduceAdd, true_and, if_true, if_false, Bool.false_eq_true, reduceIte, ite_true, ite_false, len_t0, len_t1, len_t2, len_t3, len_l0, len_l1, eqI, neI, Int.reduceBEq, Int.reduceLT, Int.reduceLE, Int.reduceNeg, decide_true, decide_false, Bool.not_true, Bool.not_false, ix0, ix1, ix2, and_true, and_self, S_ref]
        exact ⟨y, _, rfl, hs, hn, fun _ => fin⟩
      have b9' : (r == 9) = false := beq_eq_false_iff_ne.mpr b9
      simp only [b9', wExpr, wRaise, gSb, wSeq, wNext, wRet, wRetN, wExpr, wIfS, wSet, wAsg, wPar, wAug, w1, w2, wA, aNil, aCons, wVar, wVarT, wC, tOfW, w3c, wAnd, wOr, wNot, tAnd3, tOr3, tNot3, wIf, wTup, wLst, wLstO, wCall, wSl, pNone, pSome, wipe3, List.map_cons, List.map_nil, fI2, fI2C, fI1, fAbs, addI, mulI, intI, eqS, neS, isN_, notN_, L3.isNon, gN, gsN, gsC, gT, asT, at3, List.set_cons_zero, List.set_cons_succ, Option.some.injEq, exists_eq_left', D.bl.injEq, D.int.injEq, D.tup.injEq, List.length_cons, List.length_nil, Nat.reduceAdd, true_and, if_true, if_false, Bool.false_eq_true, reduceIte, ite_true, ite_false, len_t0, len_t1, len_t2, len_t3, len_l0, len_l1, eqI, neI, Int.reduceBEq, Int.reduceLT, Int.reduceLE, Int.reduceNeg, decide_true, decide_false, Bool.not_true, Bool.not_false, ix0, ix1, ix2, and_true, and_self, wCallD, S_ref]
      exact ⟨y, _, rfl, hs, hn, fun _ => fin⟩
def S_judged : SP3 := fun ds G R _ => match ds with
  | [x, y] => ∃ p, x = .ref p ∧ HandOk G p ∧ Fit2 y ∧ ∀ G', HandOk G' p → R (.bl true) G'
  | _ => False
theorem over_hand {G G' : GH} {p : Addr} (o : Over G G') (h : HandOk G p) : HandOk G' p := by
  obtain ⟨cs, a, b, c, d, h1, h2, g⟩ := h
  exact ⟨cs, a, b, c, d, h1, h2, (o p (by rw [g]; simp)).trans g⟩
theorem ok_judged (T : Tx K mg) : Good P w K mg base "_law_is_judged" ["hand", "thing"] 62 S_judged := by
  have g__law_is_recipe := ok_lrec (P := P) (w := w) (base := base) T
  have g_is_recipe := ok_is_recipe (P := P) (w := w) (base := base) T
  have g__law_is_flag := ok_flag (P := P) (w := w) (base := base) T
  have g__law_is_refused := ok_refused (P := P) (w := w) (base := base) T
  refine good_of (d__law_is_judged T) sc__law_is_judged fun f cd A outer s H E hp tk hgd hr => ⟨_, (s_cons (s_par 2 3 rfl sc__law_is_judged.nd rfl rfl (by decide) rfl rfl (a_cons (c_call g__law_is_recipe (hr.mono (by omega)) hgd tk (a_cons (c_var 1) a_nil)) (a_cons (c_callB (call_reprA (sys_at T) hgd (room190 hr)) lift_reprA (n_repr T) (a_cons (c_var 1) a_nil)) a_nil)) rfl)
      (s_cons (s_if (t_w (o_or (t_not (t_val (c_call g__law_is_flag (hr.mono (by omega)) hgd tk (a_cons (c_call g_is_recipe (hr.mono (by omega)) hgd tk (a_cons (c_var 1) a_nil)) (a_cons (c_var 2) a_nil))))) (o_or1 (t_w (o_and (t_not (t_val (c_var 2))) (o_and1 (t_not (t_val (c_call g__law_is_refused (hr.mono (by omega)) hgd tk (a_cons (c_var 0) (a_cons (c_var 1) a_nil))))))))))) (s_one (s_ret c_bl)) s_nil)
      (s_one (s_ret (c_cmp (op_eq3 hr.units) lift_eq (c_callB (call_reprA (sys_at T) hgd (room190 hr)) lift_reprA (n_repr T) (a_cons (c_var 1) a_nil)) (c_var 3)))))), fun ds G R Ex hlen hS => ?_⟩
  clear hp tk hgd hr hlen
  match ds, hS with
  | [x, y], ⟨p, e1, hH, fy, hR⟩ =>
    subst e1
    rw [show start3 ["hand", "thing", "due", "before"] [.ref p, y] = [some (.ref p), some (y), none, none] from rfl]
    have f1 := fy.ht
    have f2 := fy.wt
    simp only [wExpr, wRaise, gSb, wSeq, wNext, wRet, wRetN, wExpr, wIfS, wSet, wAsg, wPar, wAug, w1, w2, wA, aNil, aCons, wVar, wVarT, wC, tOfW, w3c, wAnd, wOr, wNot, tAnd3, tOr3, tNot3, wIf, wTup, wLst, wLstO, wCall, wSl, pNone, pSome, wipe3, List.map_cons, List.map_nil, fI2, fI2C, fI1, fAbs, addI, mulI, intI, eqS, neS, isN_, notN_, L3.isNon, gN, gsN, gsC, gT, asT, at3, List.set_cons_zero, List.set_cons_succ, Option.some.injEq, exists_eq_left', D.bl.injEq, D.int.injEq, D.tup.injEq, List.length_cons, List.length_nil, Nat.reduceAdd, true_and, if_true, if_false, Bool.false_eq_true, reduceIte, ite_true, ite_false, len_t0, len_t1, len_t2, len_t3, len_l0, len_l1, eqI, neI, Int.reduceBEq, Int.reduceLT, Int.reduceLE, Int.reduceNeg, decide_true, decide_false, Bool.not_true, Bool.not_false, ix0, ix1, ix2, and_true, and_self, S_lrec, S_is_recipe, S_flag]
    refine ⟨fy.sane, by omega, by omega, fun G1 o1 => ?_⟩
    have rp := repr_one fy
    generalize hs : (toPr y).shown = s at *
    have tail : ∀ G', HandOk G' p → fReprA [y] G' fun x_1 G1 => fEq x_1 (.str s) G1 R := fun G' h' => ⟨y, rfl, rp, by rw [hs]; show fEq (.str s) (.str s) G' R; rw [eqS, str_refl]; exact hR G' h'⟩
    refine ⟨y, rfl, rp, ?_⟩
    rw [hs]
    try simp only [wExpr, wRaise, gSb, wSeq, wNext, wRet, wRetN, wExpr, wIfS, wSet, wAsg, wPar, wAug, w1, w2, wA, aNil, aCons, wVar, wVarT, wC, tOfW, w3c, wAnd, wOr, wNot, tAnd3, tOr3, tNot3, wIf, wTup, wLst, wLstO, wCall, wSl, pNone, pSome, wipe3, List.map_cons, List.map_nil, fI2, fI2C, fI1, fAbs, addI, mulI, intI, eqS, neS, isN_, notN_, L3.isNon, gN, gsN, gsC, gT, asT, at3, List.set_cons_zero, List.set_cons_succ, Option.some.injEq, exists_eq_left', D.bl.injEq, D.int.injEq, D.tup.injEq, List.length_cons, List.length_nil, Nat.reduceAdd, true_and, if_true, if_false, Bool.false_eq_true, reduceIte, ite_true, ite_false, len_t0, len_t1, len_t2, len_t3, len_l0, len_l1, eqI, neI, Int.reduceBEq, Int.reduceLT, Int.reduceLE, Int.reduceNeg, decide_true, decide_false, Bool.not_true, Bool.not_false, ix0, ix1, ix2, and_true, and_self]
    refine ⟨fy.sane, isRec y, isRec y, rfl, rfl, ?_⟩
    rw [beq_self_eq_true]
    have h1 := over_hand o1 hH
    cases hr : isRec y with
    | true =>
      try simp only [wExpr, wRaise, gSb, wSeq, wNext, wRet, wRetN, wExpr, wIfS, wSet, wAsg, wPar, wAug, w1, w2, wA, aNil, aCons, wVar, wVarT, wC, tOfW, w3c, wAnd, wOr, wNot, tAnd3, tOr3, tNot3, wIf, wTup, wLst, wLstO, wCall, wSl, pNone, pSome, wipe3, List.map_cons, List.map_nil, fI2, fI2C, fI1, fAbs, addI, mulI, intI, eqS, neS, isN_, notN_, L3.isNon, gN, gsN, gsC, gT, asT, at3, List.set_cons_zero, List.set_cons_succ, Option.some.injEq, exists_eq_left', D.bl.injEq, D.int.injEq, D.tup.injEq, List.length_cons, List.length_nil, Nat.reduceAdd, true_and, if_true, if_false, Bool.false_eq_true, reduceIte, ite_true, ite_false, len_t0, len_t1, len_t2, len_t3, len_l0, len_l1, eqI, neI, Int.reduceBEq, Int.reduceLT, Int.reduceLE, Int.reduceNeg, decide_true, decide_false, Bool.not_true, Bool.not_false, ix0, ix1, ix2, and_true, and_self]
      exact tail G1 h1
    | false =>
      simp only [wExpr, wRaise, gSb, wSeq, wNext, wRet, wRetN, wExpr, wIfS, wSet, wAsg, wPar, wAug, w1, w2, wA, aNil, aCons, wVar, wVarT, wC, tOfW, w3c, wAnd, wOr, wNot, tAnd3, tOr3, tNot3, wIf, wTup, wLst, wLstO, wCall, wSl, pNone, pSome, wipe3, List.map_cons, List.map_nil, fI2, fI2C, fI1, fAbs, addI, mulI, intI, eqS, neS, isN_, notN_, L3.isNon, gN, gsN, gsC, gT, asT, at3, List.set_cons_zero, List.set_cons_succ, Option.some.injEq, exists_eq_left', D.bl.injEq, D.int.injEq, D.tup.injEq, List.length_cons, List.length_nil, Nat.reduceAdd, true_and, if_true, if_false, Bool.false_eq_true, reduceIte, ite_true, ite_false, len_t0, len_t1, len_t2, len_t3, len_l0, len_l1, eqI, neI, Int.reduceBEq, Int.reduceLT, Int.reduceLE, Int.reduceNeg, decide_true, decide_false, Bool.not_true, Bool.not_false, ix0, ix1, ix2, and_true, and_self, S_refused]
      refine ⟨p, rfl, h1, fy.sane, hr, fun G2 h2 a2 => ?_⟩
      try simp only [wExpr, wRaise, gSb, wSeq, wNext, wRet, wRetN, wExpr, wIfS, wSet, wAsg, wPar, wAug, w1, w2, wA, aNil, aCons, wVar, wVarT, wC, tOfW, w3c, wAnd, wOr, wNot, tAnd3, tOr3, tNot3, wIf, wTup, wLst, wLstO, wCall, wSl, pNone, pSome, wipe3, List.map_cons, List.map_nil, fI2, fI2C, fI1, fAbs, addI, mulI, intI, eqS, neS, isN_, notN_, L3.isNon, gN, gsN, gsC, gT, asT, at3, List.set_cons_zero, List.set_cons_succ, Option.some.injEq, exists_eq_left', D.bl.injEq, D.int.injEq, D.tup.injEq, List.length_cons, List.length_nil, Nat.reduceAdd, true_and, if_true, if_false, Bool.false_eq_true, reduceIte, ite_true, ite_false, len_t0, len_t1, len_t2, len_t3, len_l0, len_l1, eqI, neI, Int.reduceBEq, Int.reduceLT, Int.reduceLE, Int.reduceNeg, decide_true, decide_false, Bool.not_true, Bool.not_false, ix0, ix1, ix2, and_true, and_self]
      exact tail G2 h2
def S_second : SP3 := fun ds G R _ => match ds with
  | [y] => saneD y = true ∧ isRec y = false ∧ R (.bl true) G
  | _ => False
theorem ok_second (T : Tx K mg) : Good P w K mg base "_law_is_bad_second" ["thing"] 17 S_second := by
  have g_same_makeups := rf_same_makeups (P := P) (w := w) (base := base) T
  refine good_of (d__law_is_bad_second T) sc__law_is_bad_second fun f cd A outer s H E hp tk hgd hr => ⟨_, (s_cons (s_try 1 rfl rfl sc__law_is_bad_second.nd rfl rfl ⟨rfl, by decide, .inl (e_BinError T).gC⟩ tk
      (fun W1 pn xe tk hp => (s_one (s_expr (c_call g_same_makeups (hr.mono (by omega)) hgd tk (a_cons c_int (a_cons (c_var 0) (a_cons c_int a_nil)))))))
      (fun a oe cls pn hl => (s_one (s_ret (c_callB (call_isH hl) (lift_isH (K := K)) (n_isinstance T) (a_cons (c_var 1) (a_cons (c_cls (e_BadRecipe T)) a_nil)))))))
      (s_one (s_ret c_bl))), fun ds G R Ex hlen hS => ?_⟩
  clear hp tk hgd hr hlen
  match ds, hS with
  | [y], ⟨hs, hn, hR⟩ =>
    rw [show start3 ["thing", "error"] [y] = [some (y), none] from rfl]
    simp only [wExpr, wRaise, gSb, wSeq, wNext, wRet, wRetN, wExpr, wIfS, wSet, wAsg, wPar, wAug, w1, w2, wA, aNil, aCons, wVar, wVarT, wC, tOfW, w3c, wAnd, wOr, wNot, tAnd3, tOr3, tNot3, wIf, wTup, wLst, wLstO, wCall, wSl, pNone, pSome, wipe3, List.map_cons, List.map_nil, fI2, fI2C, fI1, fAbs, addI, mulI, intI, eqS, neS, isN_, notN_, L3.isNon, gN, gsN, gsC, gT, asT, at3, List.set_cons_zero, List.set_cons_succ, Option.some.injEq, exists_eq_left', D.bl.injEq, D.int.injEq, D.tup.injEq, List.length_cons, List.length_nil, Nat.reduceAdd, true_and, if_true, if_false, Bool.false_eq_true, reduceIte, ite_true, ite_false, len_t0, len_t1, len_t2, len_t3, len_l0, len_l1, eqI, neI, Int.reduceBEq, Int.reduceLT, Int.reduceLE, Int.reduceNeg, decide_true, decide_false, Bool.not_true, Bool.not_false, ix0, ix1, ix2, and_true, and_self, wTry, S_ref2]
    refine ⟨.int 0, y, .int 8, rfl, rfl, by decide +kernel, hs, hn, fun _ => ⟨true, m_BadRecipe_BinError T, fun _ a ha => ?_, fun z => (by cases z)⟩⟩
    simp only [wExpr, wRaise, gSb, wSeq, wNext, wRet, wRetN, wExpr, wIfS, wSet, wAsg, wPar, wAug, w1, w2, wA, aNil, aCons, wVar, wVarT, wC, tOfW, w3c, wAnd, wOr, wNot, tAnd3, tOr3, tNot3, wIf, wTup, wLst, wLstO, wCall, wSl, pNone, pSome, wipe3, List.map_cons, List.map_nil, fI2, fI2C, fI1, fAbs, addI, mulI, intI, eqS, neS, isN_, notN_, L3.isNon, gN, gsN, gsC, gT, asT, at3, List.set_cons_zero, List.set_cons_succ, Option.some.injEq, exists_eq_left', D.bl.injEq, D.int.injEq, D.tup.injEq, List.length_cons, List.length_nil, Nat.reduceAdd, true_and, if_true, if_false, Bool.false_eq_true, reduceIte, ite_true, ite_false, len_t0, len_t1, len_t2, len_t3, len_l0, len_l1, eqI, neI, Int.reduceBEq, Int.reduceLT, Int.reduceLE, Int.reduceNeg, decide_true, decide_false, Bool.not_true, Bool.not_false, ix0, ix1, ix2, and_true, and_self, fIsH]
    exact ⟨_, _, _, rfl, (e_BadRecipe T).c, rfl, k_BadRecipe_BadRecipe T, hR⟩
end

end K01

set_option Elab.async false
set_option linter.all false
set_option maxRecDepth 100000
set_option maxHeartbeats 0
namespace K01
open PySem PySem.Spec L2 L3
open PyProof.Rows hiding St
section
variable {P : Program} {w : World} {K : PySem.W.Frag} {mg : Str → Option Value} {base : Heap}
def S_law : SP3 := fun ds G R _ => match ds with
  | [x] => ∃ ns : List Int, x = .lsx (ns.map D.int) ∧ ns.length ≤ 4000 ∧ ∀ G', R (.bl true) G'
  | _ => False
theorem ok_law (T : Tx K mg) : Good P w K mg base "law" ["script"] 90 S_law := by
  have g__law_hand := ok_hand (P := P) (w := w) (base := base) T
  have g__law_known := ok_known (P := P) (w := w) (base := base) T
  have g_is_recipe := ok_is_recipe (P := P) (w := w) (base := base) T
  have g__law_is_recipe := ok_lrec (P := P) (w := w) (base := base) T
  have g__law_is_flag := ok_flag (P := P) (w := w) (base := base) T
  have g__law_is_refused := ok_refused (P := P) (w := w) (base := base) T
  have g__law_is_judged := ok_judged (P := P) (w := w) (base := base) T
  have g__law_is_bad_second := ok_second (P := P) (w := w) (base := base) T
  have g__law_mixed := ok_mixed (P := P) (w := w) (base := base) T
  have g__law_draw := ok_draw (P := P) (w := w) (base := base) T
  have g__law_any := ok_any (P := P) (w := w) (base := base) T
  have g__law_recipe := ok_rec (P := P) (w := w) (base := base) T 7
  have g_bins_of := ok_bins_of (P := P) (w := w) (base := base) T
  have g_depth := ok_depth (P := P) (w := w) (base := base) T
  have g__law_looked := ok_look (P := P) (w := w) (base := base) T 20
  have g__law_bent := ok_bent (P := P) (w := w) (base := base) T
  refine good_of (d_law T) sc_law fun f cd A outer s H E hp tk hgd hr => ⟨_, (s_cons (s_set 1 sc_law.nd rfl (.inl rfl) rfl (c_call g__law_hand (hr.mono (by omega)) hgd tk (a_cons (c_var 0) a_nil)))
      (s_cons (s_for hp rfl (i_lst (c_call0 g__law_known (hr.mono (by omega)) hgd tk)) (g_tup (n := 2) rfl (gs_cons (g_name 2 sc_law.nd rfl (.inl rfl)) (gs_cons (g_name 3 sc_law.nd rfl (.inl rfl)) gs_nil))) (s_cons (s_if (t_w (o_or (t_not (t_val (c_call g__law_is_flag (hr.mono (by omega)) hgd tk (a_cons (c_call g_is_recipe (hr.mono (by omega)) hgd tk (a_cons (c_var 2) a_nil)) (a_cons (c_var 3) a_nil))))) (o_or1 (t_cmp (op_ne3 hr.units) lift_ne (c_call g__law_is_recipe (hr.mono (by omega)) hgd tk (a_cons (c_var 2) a_nil)) (c_var 3))))) (s_one (s_ret c_bl)) s_nil)
      (s_one (s_if (t_w (o_and (t_not (t_val (c_var 3))) (o_and1 (t_not (t_val (c_call g__law_is_refused (hr.mono (by omega)) hgd tk (a_cons (c_var 1) (a_cons (c_var 2) a_nil)))))))) (s_one (s_ret c_bl)) s_nil))))
      (s_cons (s_for hp rfl (i_rg1 (n_range T) c_int) (g_name 4 sc_law.nd rfl (.inl rfl)) (s_cons (s_set 5 sc_law.nd rfl (.inl rfl) rfl (c_slice (c_call g__law_mixed (hr.mono (by omega)) hgd tk (a_cons (c_var 1) (a_cons (c_lrg rfl (n_list T) (n_range T) c_int) a_nil))) p_none (p_some (c_op op_add3 lift_add c_int (c_call g__law_draw (hr.mono (by omega)) hgd tk (a_cons (c_var 1) (a_cons c_int a_nil)))))))
      (s_cons (s_set 6 sc_law.nd rfl (.inl rfl) rfl (c_call g__law_recipe (hr.mono (by omega)) hgd tk (a_cons (c_var 1) (a_cons (c_var 5) (a_cons (c_call g__law_any (hr.mono (by omega)) hgd tk (a_cons (c_var 1) (a_cons (c_tup (a_cons c_int (a_cons c_int (a_cons c_int (a_cons c_int a_nil))))) a_nil))) a_nil)))))
      (s_cons (s_if (t_w (o_or (t_cmp op_notBl lift_notB (c_call g_is_recipe (hr.mono (by omega)) hgd tk (a_cons (c_var 6) a_nil)) c_bl) (o_or1 (t_not (t_val (c_call g__law_is_judged (hr.mono (by omega)) hgd tk (a_cons (c_var 1) (a_cons (c_var 6) a_nil)))))))) (s_one (s_ret c_bl)) s_nil)
      (s_cons (s_if (t_w (o_or (t_cmp (op_ne3 hr.units) lift_ne (c_call g_bins_of (hr.mono (by omega)) hgd tk (a_cons (c_var 6) a_nil)) (c_callT call_tuple_of lift_tuple (n_tuple T) (a_cons (c_callB call_sorted3 lift_sorted3 (n_sorted T) (a_cons (c_var 5) a_nil)) a_nil))) (o_or1 (t_cmp (op_ne3 hr.units) lift_ne (c_call g_depth (hr.mono (by omega)) hgd tk (a_cons (c_var 6) a_nil)) (c_ix (c_call g__law_looked (hr.mono (by omega)) hgd tk (a_cons (c_var 6) a_nil)) c_int))))) (s_one (s_ret c_bl)) s_nil)
      (s_one (s_for hp rfl (i_rg1 (n_range T) c_int) (g_name 7 sc_law.nd rfl (.inl rfl)) (s_cons (s_set 2 sc_law.nd rfl (.inl rfl) rfl (c_call g__law_bent (hr.mono (by omega)) hgd tk (a_cons (c_var 1) (a_cons (c_var 6) a_nil))))
      (s_cons (s_if (t_not (t_val (c_call g__law_is_judged (hr.mono (by omega)) hgd tk (a_cons (c_var 1) (a_cons (c_var 2) a_nil))))) (s_one (s_ret c_bl)) s_nil)
      (s_one (s_if (t_w (o_and (t_cmp (op_eq3 hr.units) lift_eq (c_var 7) c_int) (o_and (t_not (t_val (c_call g__law_is_recipe (hr.mono (by omega)) hgd tk (a_cons (c_var 2) a_nil)))) (o_and1 (t_not (t_val (c_call g__law_is_bad_second (hr.mono (by omega)) hgd tk (a_cons (c_var 2) a_nil)))))))) (s_one (s_ret c_bl)) s_nil)))))))))))
      (s_one (s_ret c_bl))))), fun ds G R Ex hlen hS => ?_⟩
  clear hp tk hgd hr hlen
  match ds, hS with
  | [x], ⟨ns, e1, hl, hR⟩ =>
    subst e1
    rw [show start3 ["script", "hand", "thing", "due", "turn", "some", "recipe", "again"] [.lsx (ns.map D.int)] = [some (.lsx (ns.map D.int)), none, none, none, none, none, none, none] from rfl]
    have sz : ∀ n : Nat, n ≤ 1000 → n ≤ sizeLine := fun n hn => size_small (by omega)
    have s2 := sz 2 (by omega)
    have s4 := sz 4 (by omega)
    simp only [wExpr, wRaise, gSb, wSeq, wNext, wRet, wRetN, wExpr, wIfS, wSet, wAsg, wPar, wAug, w1, w2, wA, aNil, aCons, wVar, wVarT, wC, tOfW, w3c, wAnd, wOr, wNot, tAnd3, tOr3, tNot3, wIf, wTup, wLst, wLstO, wCall, wSl, pNone, pSome, wipe3, List.map_cons, List.map_nil, fI2, fI2C, fI1, fAbs, addI, mulI, intI, eqS, neS, isN_, notN_, L3.isNon, gN, gsN, gsC, gT, asT, at3, List.set_cons_zero, List.set_cons_succ, Option.some.injEq, exists_eq_left', D.bl.injEq, D.int.injEq, D.tup.injEq, List.length_cons, List.length_nil, Nat.reduceAdd, true_and, if_true, if_false, Bool.false_eq_true, reduceIte, ite_true, ite_false, len_t0, len_t1, len_t2, len_t3, len_l0, len_l1, eqI, neI, Int.reduceBEq, Int.reduceLT, Int.reduceLE, Int.reduceNeg, decide_true, decide_false, Bool.not_true, Bool.not_false, ix0, ix1, ix2, and_true, and_self, S_hand]
    refine ⟨ns, rfl, hl, fun p G1 hH1 _ _ => ?_⟩
    simp only [wFor, iLst, wExpr, wRaise, gSb, wSeq, wNext, wRet, wRetN, wExpr, wIfS, wSet, wAsg, wPar, wAug, w1, w2, wA, aNil, aCons, wVar, wVarT, wC, tOfW, w3c, wAnd, wOr, wNot, tAnd3, tOr3, tNot3, wIf, wTup, wLst, wLstO, wCall, wSl, pNone, pSome, wipe3, List.map_cons, List.map_nil, fI2, fI2C, fI1, fAbs, addI, mulI, intI, eqS, neS, isN_, notN_, L3.isNon, gN, gsN, gsC, gT, asT, at3, List.set_cons_zero, List.set_cons_succ, Option.some.injEq, exists_eq_left', D.bl.injEq, D.int.injEq, D.tup.injEq, List.length_cons, List.length_nil, Nat.reduceAdd, true_and, if_true, if_false, Bool.false_eq_true, reduceIte, ite_true, ite_false, len_t0, len_t1, len_t2, len_t3, len_l0, len_l1, eqI, neI, Int.reduceBEq, Int.reduceLT, Int.reduceLE, Int.reduceNeg, decide_true, decide_false, Bool.not_true, Bool.not_false, ix0, ix1, ix2, and_true, and_self, S_known]
    intro L G2 hL o2
    refine ⟨L, rfl, ?_⟩
    have hH2 := over_hand o2 hH1
    refine lp_in (fun env' G' => HandOk G' p ∧ ∃ u2 u3, env' = [some (.lsx (ns.map D.int)), some (.ref p), u2, u3, none, none, none, none]) (fun _ _ _ => trivial) L ?_ ?_ _ _ ⟨hH2, none, none, rfl⟩
    · rintro c hc env' G' N ⟨hH, u2, u3, rfl⟩ hN
      have kc := List.all_eq_true.mp hL c hc
      unfold knownB at kc
      split at kc
      · rename_i t b
        rw [Bool.and_eq_true, beq_iff_eq] at kc
        have st := Sm.of kc.1
        have ft := st.fit2 (by omega) (by omega) (by omega)
        have f1 := ft.ht
        have f2 := ft.wt
        have eb := kc.2
        simp only [wExpr, wRaise, gSb, wSeq, wNext, wRet, wRetN, wExpr, wIfS, wSet, wAsg, wPar, wAug, w1, w2, wA, aNil, aCons, wVar, wVarT, wC, tOfW, w3c, wAnd, wOr, wNot, tAnd3, tOr3, tNot3, wIf, wTup, wLst, wLstO, wCall, wSl, pNone, pSome, wipe3, List.map_cons, List.map_nil, fI2, fI2C, fI1, fAbs, addI, mulI, intI, eqS, neS, isN_, notN_, L3.isNon, gN, gsN, gsC, gT, asT, at3, List.set_cons_zero, List.set_cons_succ, Option.some.injEq, exists_eq_left', D.bl.injEq, D.int.injEq, D.tup.injEq, List.length_cons, List.length_nil, Nat.reduceAdd, true_and, if_true, if_false, Bool.false_eq_true, reduceIte, ite_true, ite_false, len_t0, len_t1, len_t2, len_t3, len_l0, len_l1, eqI, neI, Int.reduceBEq, Int.reduceLT, Int.reduceLE, Int.reduceNeg, decide_true, decide_false, Bool.not_true, Bool.not_false, ix0, ix1, ix2, and_true, and_self, gT, gsC, gsN, asT, S_is_recipe, S_flag, S_lrec]
        refine ⟨ft.sane, _, _, rfl, rfl, ?_⟩
        rw [eb, beq_self_eq_true]
        simp only [wExpr, wRaise, gSb, wSeq, wNext, wRet, wRetN, wExpr, wIfS, wSet, wAsg, wPar, wAug, w1, w2, wA, aNil, aCons, wVar, wVarT, wC, tOfW, w3c, wAnd, wOr, wNot, tAnd3, tOr3, tNot3, wIf, wTup, wLst, wLstO, wCall, wSl, pNone, pSome, wipe3, List.map_cons, List.map_nil, fI2, fI2C, fI1, fAbs, addI, mulI, intI, eqS, neS, isN_, notN_, L3.isNon, gN, gsN, gsC, gT, asT, at3, List.set_cons_zero, List.set_cons_succ, Option.some.injEq, exists_eq_left', D.bl.injEq, D.int.injEq, D.tup.injEq, List.length_cons, List.length_nil, Nat.reduceAdd, true_and, if_true, if_false, Bool.false_eq_true, reduceIte, ite_true, ite_false, len_t0, len_t1, len_t2, len_t3, len_l0, len_l1, eqI, neI, Int.reduceBEq, Int.reduceLT, Int.reduceLE, Int.reduceNeg, decide_true, decide_false, Bool.not_true, Bool.not_false, ix0, ix1, ix2, and_true, and_self, S_lrec]
        refine ⟨ft.sane, by omega, by omega, fun G3 o3 => ?_⟩
        have h3 := over_hand o3 hH
        rw [neB, beq_self_eq_true]
        simp only [wExpr, wRaise, gSb, wSeq, wNext, wRet, wRetN, wExpr, wIfS, wSet, wAsg, wPar, wAug, w1, w2, wA, aNil, aCons, wVar, wVarT, wC, tOfW, w3c, wAnd, wOr, wNot, tAnd3, tOr3, tNot3, wIf, wTup, wLst, wLstO, wCall, wSl, pNone, pSome, wipe3, List.map_cons, List.map_nil, fI2, fI2C, fI1, fAbs, addI, mulI, intI, eqS, neS, isN_, notN_, L3.isNon, gN, gsN, gsC, gT, asT, at3, List.set_cons_zero, List.set_cons_succ, Option.some.injEq, exists_eq_left', D.bl.injEq, D.int.injEq, D.tup.injEq, List.length_cons, List.length_nil, Nat.reduceAdd, true_and, if_true, if_false, Bool.false_eq_true, reduceIte, ite_true, ite_false, len_t0, len_t1, len_t2, len_t3, len_l0, len_l1, eqI, neI, Int.reduceBEq, Int.reduceLT, Int.reduceLE, Int.reduceNeg, decide_true, decide_false, Bool.not_true, Bool.not_false, ix0, ix1, ix2, and_true, and_self, S_refused]
        cases b with
        | true =>
          try simp only [wExpr, wRaise, gSb, wSeq, wNext, wRet, wRetN, wExpr, wIfS, wSet, wAsg, wPar, wAug, w1, w2, wA, aNil, aCons, wVar, wVarT, wC, tOfW, w3c, wAnd, wOr, wNot, tAnd3, tOr3, tNot3, wIf, wTup, wLst, wLstO, wCall, wSl, pNone, pSome, wipe3, List.map_cons, List.map_nil, fI2, fI2C, fI1, fAbs, addI, mulI, intI, eqS, neS, isN_, notN_, L3.isNon, gN, gsN, gsC, gT, asT, at3, List.set_cons_zero, List.set_cons_succ, Option.some.injEq, exists_eq_left', D.bl.injEq, D.int.injEq, D.tup.injEq, List.length_cons, List.length_nil, Nat.reduceAdd, true_and, if_true, if_false, Bool.false_eq_true, reduceIte, ite_true, ite_false, len_t0, len_t1, len_t2, len_t3, len_l0, len_l1, eqI, neI, Int.reduceBEq, Int.reduceLT, Int.reduceLE, Int.reduceNeg, decide_true, decide_false, Bool.not_true, Bool.not_false, ix0, ix1, ix2, and_true, and_self]
          exact hN _ _ ⟨h3, _, _, rfl⟩
        | false =>
          simp only [wExpr, wRaise, gSb, wSeq, wNext, wRet, wRetN, wExpr, wIfS, wSet, wAsg, wPar, wAug, w1, w2, wA, aNil, aCons, wVar, wVarT, wC, tOfW, w3c, wAnd, wOr, wNot, tAnd3, tOr3, tNot3, wIf, wTup, wLst, wLstO, wCall, wSl, pNone, pSome, wipe3, List.map_cons, List.map_nil, fI2, fI2C, fI1, fAbs, addI, mulI, intI, eqS, neS, isN_, notN_, L3.isNon, gN, gsN, gsC, gT, asT, at3, List.set_cons_zero, List.set_cons_succ, Option.some.injEq, exists_eq_left', D.bl.injEq, D.int.injEq, D.tup.injEq, List.length_cons, List.length_nil, Nat.reduceAdd, true_and, if_true, if_false, Bool.false_eq_true, reduceIte, ite_true, ite_false, len_t0, len_t1, len_t2, len_t3, len_l0, len_l1, eqI, neI, Int.reduceBEq, Int.reduceLT, Int.reduceLE, Int.reduceNeg, decide_true, decide_false, Bool.not_true, Bool.not_false, ix0, ix1, ix2, and_true, and_self, S_refused]
          refine ⟨p, rfl, h3, ft.sane, eb, fun G4 h4 a4 => ?_⟩
          try simp only [wExpr, wRaise, gSb, wSeq, wNext, wRet, wRetN, wExpr, wIfS, wSet, wAsg, wPar, wAug, w1, w2, wA, aNil, aCons, wVar, wVarT, wC, tOfW, w3c, wAnd, wOr, wNot, tAnd3, tOr3, tNot3, wIf, wTup, wLst, wLstO, wCall, wSl, pNone, pSome, wipe3, List.map_cons, List.map_nil, fI2, fI2C, fI1, fAbs, addI, mulI, intI, eqS, neS, isN_, notN_, L3.isNon, gN, gsN, gsC, gT, asT, at3, List.set_cons_zero, List.set_cons_succ, Option.some.injEq, exists_eq_left', D.bl.injEq, D.int.injEq, D.tup.injEq, List.length_cons, List.length_nil, Nat.reduceAdd, true_and, if_true, if_false, Bool.false_eq_true, reduceIte, ite_true, ite_false, len_t0, len_t1, len_t2, len_t3, len_l0, len_l1, eqI, neI, Int.reduceBEq, Int.reduceLT, Int.reduceLE, Int.reduceNeg, decide_true, decide_false, Bool.not_true, Bool.not_false, ix0, ix1, ix2, and_true, and_self]
          exact hN _ _ ⟨h4, _, _, rfl⟩
      · cases kc
    · rintro env' G' ⟨hH, u2, u3, rfl⟩
      simp only [wExpr, wRaise, gSb, wSeq, wNext, wRet, wRetN, wExpr, wIfS, wSet, wAsg, wPar, wAug, w1, w2, wA, aNil, aCons, wVar, wVarT, wC, tOfW, w3c, wAnd, wOr, wNot, tAnd3, tOr3, tNot3, wIf, wTup, wLst, wLstO, wCall, wSl, pNone, pSome, wipe3, List.map_cons, List.map_nil, fI2, fI2C, fI1, fAbs, addI, mulI, intI, eqS, neS, isN_, notN_, L3.isNon, gN, gsN, gsC, gT, asT, at3, List.set_cons_zero, List.set_cons_succ, Option.some.injEq, exists_eq_left', D.bl.injEq, D.int.injEq, D.tup.injEq, List.length_cons, List.length_nil, Nat.reduceAdd, true_and, if_true, if_false, Bool.false_eq_true, reduceIte, ite_true, ite_false, len_t0, len_t1, len_t2, len_t3, len_l0, len_l1, eqI, neI, Int.reduceBEq, Int.reduceLT, Int.reduceLE, Int.reduceNeg, decide_true, decide_false, Bool.not_true, Bool.not_false, ix0, ix1, ix2, and_true, and_self, wFor, iRg1]
      refine ⟨by decide, by decide, ?_⟩
      refine lp_in (fun env' G' => HandOk G' p ∧ ∃ u2 u3 u4 u5 u6 u7, env' = [some (.lsx (ns.map D.int)), some (.ref p), u2, u3, u4, u5, u6, u7]) (fun _ _ _ => trivial) _ ?_ ?_ _ _ ⟨hH, _, _, _, _, _, _, rfl⟩
      · rintro tn htn env' G' N ⟨hH, u2, u3, u4, u5, u6, u7, rfl⟩ hN
        simp only [wExpr, wRaise, gSb, wSeq, wNext, wRet, wRetN, wExpr, wIfS, wSet, wAsg, wPar, wAug, w1, w2, wA, aNil, aCons, wVar, wVarT, wC, tOfW, w3c, wAnd, wOr, wNot, tAnd3, tOr3, tNot3, wIf, wTup, wLst, wLstO, wCall, wSl, pNone, pSome, wipe3, List.map_cons, List.map_nil, fI2, fI2C, fI1, fAbs, addI, mulI, intI, eqS, neS, isN_, notN_, L3.isNon, gN, gsN, gsC, gT, asT, at3, List.set_cons_zero, List.set_cons_succ, Option.some.injEq, exists_eq_left', D.bl.injEq, D.int.injEq, D.tup.injEq, List.length_cons, List.length_nil, Nat.reduceAdd, true_and, if_true, if_false, Bool.false_eq_true, reduceIte, ite_true, ite_false, len_t0, len_t1, len_t2, len_t3, len_l0, len_l1, eqI, neI, Int.reduceBEq, Int.reduceLT, Int.reduceLE, Int.reduceNeg, decide_true, decide_false, Bool.not_true, Bool.not_false, ix0, ix1, ix2, and_true, and_self, S_mixed]
        refine ⟨8, rfl, by decide, by decide, ?_⟩
        refine ⟨p, r8.map D.int, rfl, (fun z => by cases z), hH, rfl, by decide, fun fs G1 pf hH1 hA1 => ?_⟩
        obtain ⟨bs, rfl, pb⟩ := perm_ints pf
        have hbl : bs.length = 8 := pb.length_eq
        have hbn : bs.Nodup := pb.nodup_iff.mpr (by decide)
        have hbr : ∀ i ∈ bs, 0 ≤ i ∧ i ≤ 7 := fun i hi => by
          have := pb.mem_iff.mp hi
          simp only [r8, List.mem_cons, List.not_mem_nil, or_false] at this
          omega
        simp only [wExpr, wRaise, gSb, wSeq, wNext, wRet, wRetN, wExpr, wIfS, wSet, wAsg, wPar, wAug, w1, w2, wA, aNil, aCons, wVar, wVarT, wC, tOfW, w3c, wAnd, wOr, wNot, tAnd3, tOr3, tNot3, wIf, wTup, wLst, wLstO, wCall, wSl, pNone, pSome, wipe3, List.map_cons, List.map_nil, fI2, fI2C, fI1, fAbs, addI, mulI, intI, eqS, neS, isN_, notN_, L3.isNon, gN, gsN, gsC, gT, asT, at3, List.set_cons_zero, List.set_cons_succ, Option.some.injEq, exists_eq_left', D.bl.injEq, D.int.injEq, D.tup.injEq, List.length_cons, List.length_nil, Nat.reduceAdd, true_and, if_true, if_false, Bool.false_eq_true, reduceIte, ite_true, ite_false, len_t0, len_t1, len_t2, len_t3, len_l0, len_l1, eqI, neI, Int.reduceBEq, Int.reduceLT, Int.reduceLE, Int.reduceNeg, decide_true, decide_false, Bool.not_true, Bool.not_false, ix0, ix1, ix2, and_true, and_self, S_draw]
        refine ⟨p, 8, rfl, rfl, hH1, by decide, by decide, fun r G2 r1 r2 hH2 hA2 => ?_⟩
        refine ⟨_, rfl, ?_⟩
        rw [show L3.cutD (bs.map D.int) none (some (1 + r)) = (bs.map D.int).take (1 + r).toNat by
          have := cut_upto (xs := bs.map D.int) (j := (1 + r).toNat)
          rw [Int.toNat_of_nonneg (by omega)] at this
          exact this, ← List.map_take]
        generalize hLL : bs.take (1 + r).toNat = LL
        have l1 : LL.length = min (1 + r).toNat 8 := by rw [← hLL, List.length_take, hbl]
        have ln : LL.Nodup := by rw [← hLL]; exact hbn.sublist (List.take_sublist _ _)
        have lr : ∀ i ∈ LL, 0 ≤ i ∧ i ≤ 7 := fun i hi => hbr i (List.mem_of_mem_take (by rw [hLL]; exact hi))
        simp only [wExpr, wRaise, gSb, wSeq, wNext, wRet, wRetN, wExpr, wIfS, wSet, wAsg, wPar, wAug, w1, w2, wA, aNil, aCons, wVar, wVarT, wC, tOfW, w3c, wAnd, wOr, wNot, tAnd3, tOr3, tNot3, wIf, wTup, wLst, wLstO, wCall, wSl, pNone, pSome, wipe3, List.map_cons, List.map_nil, fI2, fI2C, fI1, fAbs, addI, mulI, intI, eqS, neS, isN_, notN_, L3.isNon, gN, gsN, gsC, gT, asT, at3, List.set_cons_zero, List.set_cons_succ, Option.some.injEq, exists_eq_left', D.bl.injEq, D.int.injEq, D.tup.injEq, List.length_cons, List.length_nil, Nat.reduceAdd, true_and, if_true, if_false, Bool.false_eq_true, reduceIte, ite_true, ite_false, len_t0, len_t1, len_t2, len_t3, len_l0, len_l1, eqI, neI, Int.reduceBEq, Int.reduceLT, Int.reduceLE, Int.reduceNeg, decide_true, decide_false, Bool.not_true, Bool.not_false, ix0, ix1, ix2, and_true, and_self, S_any, S_recP, S_rec, s4]
        refine ⟨p, [.int 1, .int 2, .int 3, .int 6], rfl, (fun z => by cases z), hH2, rfl, by decide, by decide, fun d G3 hd hH3 hA3 => ?_⟩
        obtain ⟨k, rfl, k1, k2⟩ : ∃ k : Nat, d = .int (k : Nat) ∧ 1 ≤ k ∧ k ≤ 6 := by
          simp only [List.mem_cons, List.not_mem_nil, or_false] at hd
          rcases hd with rfl | rfl | rfl | rfl
          · exact ⟨1, rfl, by decide, by decide⟩
          · exact ⟨2, rfl, by decide, by decide⟩
          · exact ⟨3, rfl, by decide, by decide⟩
          · exact ⟨6, rfl, by decide, by decide⟩
        refine ⟨p, LL, k, rfl, rfl, by omega, by omega, hH3, (fun z => by cases z), rfl, by omega, by omega, lr, .inl k1, fun t G4 rk hH4 hA4 => ?_⟩
        have ft := rk.fit2 k2 (by omega)
        have hi := rk.isRec k2 ln
        obtain ⟨dd, ll, q1, q2, q3⟩ := rk.lk_
        obtain ⟨d', l', m1, m2, m3, m4, m5, m6⟩ := isRec_bins hi
        rw [q1] at m1
        cases m1
        simp only [wExpr, wRaise, gSb, wSeq, wNext, wRet, wRetN, wExpr, wIfS, wSet, wAsg, wPar, wAug, w1, w2, wA, aNil, aCons, wVar, wVarT, wC, tOfW, w3c, wAnd, wOr, wNot, tAnd3, tOr3, tNot3, wIf, wTup, wLst, wLstO, wCall, wSl, pNone, pSome, wipe3, List.map_cons, List.map_nil, fI2, fI2C, fI1, fAbs, addI, mulI, intI, eqS, neS, isN_, notN_, L3.isNon, gN, gsN, gsC, gT, asT, at3, List.set_cons_zero, List.set_cons_succ, Option.some.injEq, exists_eq_left', D.bl.injEq, D.int.injEq, D.tup.injEq, List.length_cons, List.length_nil, Nat.reduceAdd, true_and, if_true, if_false, Bool.false_eq_true, reduceIte, ite_true, ite_false, len_t0, len_t1, len_t2, len_t3, len_l0, len_l1, eqI, neI, Int.reduceBEq, Int.reduceLT, Int.reduceLE, Int.reduceNeg, decide_true, decide_false, Bool.not_true, Bool.not_false, ix0, ix1, ix2, and_true, and_self, S_is_recipe]
        refine ⟨ft.sane, true, true, by rw [hi], rfl, ?_⟩
        simp only [wExpr, wRaise, gSb, wSeq, wNext, wRet, wRetN, wExpr, wIfS, wSet, wAsg, wPar, wAug, w1, w2, wA, aNil, aCons, wVar, wVarT, wC, tOfW, w3c, wAnd, wOr, wNot, tAnd3, tOr3, tNot3, wIf, wTup, wLst, wLstO, wCall, wSl, pNone, pSome, wipe3, List.map_cons, List.map_nil, fI2, fI2C, fI1, fAbs, addI, mulI, intI, eqS, neS, isN_, notN_, L3.isNon, gN, gsN, gsC, gT, asT, at3, List.set_cons_zero, List.set_cons_succ, Option.some.injEq, exists_eq_left', D.bl.injEq, D.int.injEq, D.tup.injEq, List.length_cons, List.length_nil, Nat.reduceAdd, true_and, if_true, if_false, Bool.false_eq_true, reduceIte, ite_true, ite_false, len_t0, len_t1, len_t2, len_t3, len_l0, len_l1, eqI, neI, Int.reduceBEq, Int.reduceLT, Int.reduceLE, Int.reduceNeg, decide_true, decide_false, Bool.not_true, Bool.not_false, ix0, ix1, ix2, and_true, and_self, S_judged, beq_self_eq_true]
        refine ⟨p, rfl, hH4, ft, fun G5 hH5 => ?_⟩
        simp only [wExpr, wRaise, gSb, wSeq, wNext, wRet, wRetN, wExpr, wIfS, wSet, wAsg, wPar, wAug, w1, w2, wA, aNil, aCons, wVar, wVarT, wC, tOfW, w3c, wAnd, wOr, wNot, tAnd3, tOr3, tNot3, wIf, wTup, wLst, wLstO, wCall, wSl, pNone, pSome, wipe3, List.map_cons, List.map_nil, fI2, fI2C, fI1, fAbs, addI, mulI, intI, eqS, neS, isN_, notN_, L3.isNon, gN, gsN, gsC, gT, asT, at3, List.set_cons_zero, List.set_cons_succ, Option.some.injEq, exists_eq_left', D.bl.injEq, D.int.injEq, D.tup.injEq, List.length_cons, List.length_nil, Nat.reduceAdd, true_and, if_true, if_false, Bool.false_eq_true, reduceIte, ite_true, ite_false, len_t0, len_t1, len_t2, len_t3, len_l0, len_l1, eqI, neI, Int.reduceBEq, Int.reduceLT, Int.reduceLE, Int.reduceNeg, decide_true, decide_false, Bool.not_true, Bool.not_false, ix0, ix1, ix2, and_true, and_self, S_bins_of]
        refine ⟨ft.sane, hi, fun ns' p1 p2 => ?_⟩
        have pL : ns'.Perm LL := p1.trans (by rw [m5]; exact q2)
        refine ⟨_, _, LL, rfl, rfl, ints_L, fun ns2 q1' q2' => ?_⟩
        have e : ns' = ns2 := sorted_eq (pL.trans q1'.symm) p2 q2'
        subst e
        refine ⟨_, rfl, ?_⟩
        have eo := eqOk_ints (l := ns')
        refine ne_same (fun _ z => by cases z) (by show eqOkL _ = true; exact eo.1) (by show dptL _ + 1 ≤ 64; rw [eo.2]; omega) ?_
        simp only [wExpr, wRaise, gSb, wSeq, wNext, wRet, wRetN, wExpr, wIfS, wSet, wAsg, wPar, wAug, w1, w2, wA, aNil, aCons, wVar, wVarT, wC, tOfW, w3c, wAnd, wOr, wNot, tAnd3, tOr3, tNot3, wIf, wTup, wLst, wLstO, wCall, wSl, pNone, pSome, wipe3, List.map_cons, List.map_nil, fI2, fI2C, fI1, fAbs, addI, mulI, intI, eqS, neS, isN_, notN_, L3.isNon, gN, gsN, gsC, gT, asT, at3, List.set_cons_zero, List.set_cons_succ, Option.some.injEq, exists_eq_left', D.bl.injEq, D.int.injEq, D.tup.injEq, List.length_cons, List.length_nil, Nat.reduceAdd, true_and, if_true, if_false, Bool.false_eq_true, reduceIte, ite_true, ite_false, len_t0, len_t1, len_t2, len_t3, len_l0, len_l1, eqI, neI, Int.reduceBEq, Int.reduceLT, Int.reduceLE, Int.reduceNeg, decide_true, decide_false, Bool.not_true, Bool.not_false, ix0, ix1, ix2, and_true, and_self, S_depth, S_lookP, S_look]
        have f1 := ft.ht
        have f2 := ft.wt
        refine ⟨ft.sane, hi, ft.sane, by omega, by omega, fun G6 o6 => ?_⟩
        have hH6 := over_hand o6 hH5
        rw [q1, m6]
        show fIx (.tup [D.int (dd : Nat), ilD ll]) (.int 0) G6 _
        refine ix_seq3 (es := [D.int (dd : Nat), ilD ll]) rfl rfl ?_
        rw [neI, beq_self_eq_true]
        simp only [wExpr, wRaise, gSb, wSeq, wNext, wRet, wRetN, wExpr, wIfS, wSet, wAsg, wPar, wAug, w1, w2, wA, aNil, aCons, wVar, wVarT, wC, tOfW, w3c, wAnd, wOr, wNot, tAnd3, tOr3, tNot3, wIf, wTup, wLst, wLstO, wCall, wSl, pNone, pSome, wipe3, List.map_cons, List.map_nil, fI2, fI2C, fI1, fAbs, addI, mulI, intI, eqS, neS, isN_, notN_, L3.isNon, gN, gsN, gsC, gT, asT, at3, List.set_cons_zero, List.set_cons_succ, Option.some.injEq, exists_eq_left', D.bl.injEq, D.int.injEq, D.tup.injEq, List.length_cons, List.length_nil, Nat.reduceAdd, true_and, if_true, if_false, Bool.false_eq_true, reduceIte, ite_true, ite_false, len_t0, len_t1, len_t2, len_t3, len_l0, len_l1, eqI, neI, Int.reduceBEq, Int.reduceLT, Int.reduceLE, Int.reduceNeg, decide_true, decide_false, Bool.not_true, Bool.not_false, ix0, ix1, ix2, and_true, and_self, wFor, iRg1]
        refine ⟨by decide, by decide, ?_⟩
        refine lp_in (fun env' G' => HandOk G' p ∧ ∃ u2 u3 u4 u5 u7, env' = [some (.lsx (ns.map D.int)), some (.ref p), u2, u3, u4, u5, some t, u7]) (fun _ _ _ => trivial) _ ?_ ?_ _ _ ⟨hH6, _, _, _, _, _, rfl⟩
        · rintro an han env' G' N' ⟨hH7, u2, u3, u4, u5, u7, rfl⟩ hN'
          simp only [wExpr, wRaise, gSb, wSeq, wNext, wRet, wRetN, wExpr, wIfS, wSet, wAsg, wPar, wAug, w1, w2, wA, aNil, aCons, wVar, wVarT, wC, tOfW, w3c, wAnd, wOr, wNot, tAnd3, tOr3, tNot3, wIf, wTup, wLst, wLstO, wCall, wSl, pNone, pSome, wipe3, List.map_cons, List.map_nil, fI2, fI2C, fI1, fAbs, addI, mulI, intI, eqS, neS, isN_, notN_, L3.isNon, gN, gsN, gsC, gT, asT, at3, List.set_cons_zero, List.set_cons_succ, Option.some.injEq, exists_eq_left', D.bl.injEq, D.int.injEq, D.tup.injEq, List.length_cons, List.length_nil, Nat.reduceAdd, true_and, if_true, if_false, Bool.false_eq_true, reduceIte, ite_true, ite_false, len_t0, len_t1, len_t2, len_t3, len_l0, len_l1, eqI, neI, Int.reduceBEq, Int.reduceLT, Int.reduceLE, Int.reduceNeg, decide_true, decide_false, Bool.not_true, Bool.not_false, ix0, ix1, ix2, and_true, and_self, S_bent]
          have st : Sm 13 392 13 t := by
            have h1 := rk.ht
            have h2 := rk.wt
            have h3 := rk.dp
            refine ⟨rk.sane, rk.ty, by omega, ?_, by omega⟩
            have : LL.length * (1 + 8 * k) ≤ 8 * 49 := Nat.mul_le_mul (by omega) (by omega)
            omega
          refine ⟨p, dd, ll, rfl, hH7, q1, by omega, st, fun b G8 fb hH8 hA8 => ?_⟩
          simp only [wExpr, wRaise, gSb, wSeq, wNext, wRet, wRetN, wExpr, wIfS, wSet, wAsg, wPar, wAug, w1, w2, wA, aNil, aCons, wVar, wVarT, wC, tOfW, w3c, wAnd, wOr, wNot, tAnd3, tOr3, tNot3, wIf, wTup, wLst, wLstO, wCall, wSl, pNone, pSome, wipe3, List.map_cons, List.map_nil, fI2, fI2C, fI1, fAbs, addI, mulI, intI, eqS, neS, isN_, notN_, L3.isNon, gN, gsN, gsC, gT, asT, at3, List.set_cons_zero, List.set_cons_succ, Option.some.injEq, exists_eq_left', D.bl.injEq, D.int.injEq, D.tup.injEq, List.length_cons, List.length_nil, Nat.reduceAdd, true_and, if_true, if_false, Bool.false_eq_true, reduceIte, ite_true, ite_false, len_t0, len_t1, len_t2, len_t3, len_l0, len_l1, eqI, neI, Int.reduceBEq, Int.reduceLT, Int.reduceLE, Int.reduceNeg, decide_true, decide_false, Bool.not_true, Bool.not_false, ix0, ix1, ix2, and_true, and_self, S_judged]
          refine ⟨p, rfl, hH8, fb, fun G9 hH9 => ?_⟩
          have b1 := fb.ht
          have b2 := fb.wt
          obtain ⟨ai, _, rfl⟩ : ∃ ai : Nat, ai < 6 ∧ an = .int (0 + (ai : Int)) := by
            obtain ⟨j, hj, rfl⟩ := List.mem_map.mp han
            exact ⟨j, List.mem_range.mp hj, rfl⟩
          simp only [wExpr, wRaise, gSb, wSeq, wNext, wRet, wRetN, wExpr, wIfS, wSet, wAsg, wPar, wAug, w1, w2, wA, aNil, aCons, wVar, wVarT, wC, tOfW, w3c, wAnd, wOr, wNot, tAnd3, tOr3, tNot3, wIf, wTup, wLst, wLstO, wCall, wSl, pNone, pSome, wipe3, List.map_cons, List.map_nil, fI2, fI2C, fI1, fAbs, addI, mulI, intI, eqS, neS, isN_, notN_, L3.isNon, gN, gsN, gsC, gT, asT, at3, List.set_cons_zero, List.set_cons_succ, Option.some.injEq, exists_eq_left', D.bl.injEq, D.int.injEq, D.tup.injEq, List.length_cons, List.length_nil, Nat.reduceAdd, true_and, if_true, if_false, Bool.false_eq_true, reduceIte, ite_true, ite_false, len_t0, len_t1, len_t2, len_t3, len_l0, len_l1, eqI, neI, Int.reduceBEq, Int.reduceLT, Int.reduceLE, Int.reduceNeg, decide_true, decide_false, Bool.not_true, Bool.not_false, ix0, ix1, ix2, and_true, and_self, S_lrec, S_second]
          cases hz : ((0 : Int) + (ai : Int) == 0) with
          | false =>
            try simp only [wExpr, wRaise, gSb, wSeq, wNext, wRet, wRetN, wExpr, wIfS, wSet, wAsg, wPar, wAug, w1, w2, wA, aNil, aCons, wVar, wVarT, wC, tOfW, w3c, wAnd, wOr, wNot, tAnd3, tOr3, tNot3, wIf, wTup, wLst, wLstO, wCall, wSl, pNone, pSome, wipe3, List.map_cons, List.map_nil, fI2, fI2C, fI1, fAbs, addI, mulI, intI, eqS, neS, isN_, notN_, L3.isNon, gN, gsN, gsC, gT, asT, at3, List.set_cons_zero, List.set_cons_succ, Option.some.injEq, exists_eq_left', D.bl.injEq, D.int.injEq, D.tup.injEq, List.length_cons, List.length_nil, Nat.reduceAdd, true_and, if_true, if_false, Bool.false_eq_true, reduceIte, ite_true, ite_false, len_t0, len_t1, len_t2, len_t3, len_l0, len_l1, eqI, neI, Int.reduceBEq, Int.reduceLT, Int.reduceLE, Int.reduceNeg, decide_true, decide_false, Bool.not_true, Bool.not_false, ix0, ix1, ix2, and_true, and_self]
            exact hN' _ _ ⟨hH9, _, _, _, _, _, rfl⟩
          | true =>
            simp only [wExpr, wRaise, gSb, wSeq, wNext, wRet, wRetN, wExpr, wIfS, wSet, wAsg, wPar, wAug, w1, w2, wA, aNil, aCons, wVar, wVarT, wC, tOfW, w3c, wAnd, wOr, wNot, tAnd3, tOr3, tNot3, wIf, wTup, wLst, wLstO, wCall, wSl, pNone, pSome, wipe3, List.map_cons, List.map_nil, fI2, fI2C, fI1, fAbs, addI, mulI, intI, eqS, neS, isN_, notN_, L3.isNon, gN, gsN, gsC, gT, asT, at3, List.set_cons_zero, List.set_cons_succ, Option.some.injEq, exists_eq_left', D.bl.injEq, D.int.injEq, D.tup.injEq, List.length_cons, List.length_nil, Nat.reduceAdd, true_and, if_true, if_false, Bool.false_eq_true, reduceIte, ite_true, ite_false, len_t0, len_t1, len_t2, len_t3, len_l0, len_l1, eqI, neI, Int.reduceBEq, Int.reduceLT, Int.reduceLE, Int.reduceNeg, decide_true, decide_false, Bool.not_true, Bool.not_false, ix0, ix1, ix2, and_true, and_self, S_lrec]
            refine ⟨fb.sane, by omega, by omega, fun G10 o10 => ?_⟩
            have h10 := over_hand o10 hH9
            cases hr : isRec b with
            | true =>
              try simp only [wExpr, wRaise, gSb, wSeq, wNext, wRet, wRetN, wExpr, wIfS, wSet, wAsg, wPar, wAug, w1, w2, wA, aNil, aCons, wVar, wVarT, wC, tOfW, w3c, wAnd, wOr, wNot, tAnd3, tOr3, tNot3, wIf, wTup, wLst, wLstO, wCall, wSl, pNone, pSome, wipe3, List.map_cons, List.map_nil, fI2, fI2C, fI1, fAbs, addI, mulI, intI, eqS, neS, isN_, notN_, L3.isNon, gN, gsN, gsC, gT, asT, at3, List.set_cons_zero, List.set_cons_succ, Option.some.injEq, exists_eq_left', D.bl.injEq, D.int.injEq, D.tup.injEq, List.length_cons, List.length_nil, Nat.reduceAdd, true_and, if_true, if_false, Bool.false_eq_true, reduceIte, ite_true, ite_false, len_t0, len_t1, len_t2, len_t3, len_l0, len_l1, eqI, neI, Int.reduceBEq, Int.reduceLT, Int.reduceLE, Int.reduceNeg, decide_true, decide_false, Bool.not_true, Bool.not_false, ix0, ix1, ix2, and_true, and_self]
              exact hN' _ _ ⟨h10, _, _, _, _, _, rfl⟩
            | false =>
              simp only [wExpr, wRaise, gSb, wSeq, wNext, wRet, wRetN, wExpr, wIfS, wSet, wAsg, wPar, wAug, w1, w2, wA, aNil, aCons, wVar, wVarT, wC, tOfW, w3c, wAnd, wOr, wNot, tAnd3, tOr3, tNot3, wIf, wTup, wLst, wLstO, wCall, wSl, pNone, pSome, wipe3, List.map_cons, List.map_nil, fI2, fI2C, fI1, fAbs, addI, mulI, intI, eqS, neS, isN_, notN_, L3.isNon, gN, gsN, gsC, gT, asT, at3, List.set_cons_zero, List.set_cons_succ, Option.some.injEq, exists_eq_left', D.bl.injEq, D.int.injEq, D.tup.injEq, List.length_cons, List.length_nil, Nat.reduceAdd, true_and, if_true, if_false, Bool.false_eq_true, reduceIte, ite_true, ite_false, len_t0, len_t1, len_t2, len_t3, len_l0, len_l1, eqI, neI, Int.reduceBEq, Int.reduceLT, Int.reduceLE, Int.reduceNeg, decide_true, decide_false, Bool.not_true, Bool.not_false, ix0, ix1, ix2, and_true, and_self, S_second]
              refine ⟨fb.sane, ?_⟩
              try simp only [wExpr, wRaise, gSb, wSeq, wNext, wRet, wRetN, wExpr, wIfS, wSet, wAsg, wPar, wAug, w1, w2, wA, aNil, aCons, wVar, wVarT, wC, tOfW, w3c, wAnd, wOr, wNot, tAnd3, tOr3, tNot3, wIf, wTup, wLst, wLstO, wCall, wSl, pNone, pSome, wipe3, List.map_cons, List.map_nil, fI2, fI2C, fI1, fAbs, addI, mulI, intI, eqS, neS, isN_, notN_, L3.isNon, gN, gsN, gsC, gT, asT, at3, List.set_cons_zero, List.set_cons_succ, Option.some.injEq, exists_eq_left', D.bl.injEq, D.int.injEq, D.tup.injEq, List.length_cons, List.length_nil, Nat.reduceAdd, true_and, if_true, if_false, Bool.false_eq_true, reduceIte, ite_true, ite_false, len_t0, len_t1, len_t2, len_t3, len_l0, len_l1, eqI, neI, Int.reduceBEq, Int.reduceLT, Int.reduceLE, Int.reduceNeg, decide_true, decide_false, Bool.not_true, Bool.not_false, ix0, ix1, ix2, and_true, and_self]
              exact hN' _ _ ⟨h10, _, _, _, _, _, rfl⟩
        · rintro env' G' ⟨hH7, u2, u3, u4, u5, u7, rfl⟩
          exact hN _ _ ⟨hH7, _, _, _, _, _, _, rfl⟩
      · rintro env' G' ⟨hH, u2, u3, u4, u5, u6, u7, rfl⟩
        simp only [wExpr, wRaise, gSb, wSeq, wNext, wRet, wRetN, wExpr, wIfS, wSet, wAsg, wPar, wAug, w1, w2, wA, aNil, aCons, wVar, wVarT, wC, tOfW, w3c, wAnd, wOr, wNot, tAnd3, tOr3, tNot3, wIf, wTup, wLst, wLstO, wCall, wSl, pNone, pSome, wipe3, List.map_cons, List.map_nil, fI2, fI2C, fI1, fAbs, addI, mulI, intI, eqS, neS, isN_, notN_, L3.isNon, gN, gsN, gsC, gT, asT, at3, List.set_cons_zero, List.set_cons_succ, Option.some.injEq, exists_eq_left', D.bl.injEq, D.int.injEq, D.tup.injEq, List.length_cons, List.length_nil, Nat.reduceAdd, true_and, if_true, if_false, Bool.false_eq_true, reduceIte, ite_true, ite_false, len_t0, len_t1, len_t2, len_t3, len_l0, len_l1, eqI, neI, Int.reduceBEq, Int.reduceLT, Int.reduceLE, Int.reduceNeg, decide_true, decide_false, Bool.not_true, Bool.not_false, ix0, ix1, ix2, and_true, and_self]
        exact hR _
end

end K01

set_option Elab.async false
set_option linter.all false
set_option maxRecDepth 100000
set_option maxHeartbeats 0
namespace K01
open PySem PySem.Spec L2 L3
open PyProof.Rows hiding St
theorem law_fin : ∀ (K : PySem.W.Frag) (mg : Str → Option Value) (ns : List Int), Tx K mg → ns.length ≤ 63 → (∀ z ∈ ns, Builtin.Int.intBits z ≤ 1048576) → ∀ (G : GH) (R : K3) (Ex : X3), (∀ G', R (.bl true) G') → S_law [.lsx (ns.map D.int)] G R Ex :=
  fun _ _ ns _ h _ _ _ _ hR => ⟨ns, rfl, by omega, hR⟩
def looseL : List PySem.Str := (["BinError", "BadOrder", "BadPrices", "BadRecipe", "NoBin", "NoMany", "NoMost", "TooMany", "ZERO", "ONE", "is_int", "is_within", "divisor", "multiple", "fraction", "is_fraction", "is_row", "is_amounts", "add", "negative", "less_by", "product", "is_less", "lesser", "greater", "total", "dot", "times_row", "zeros", "ranked"] : List PySem.Str) ++ (["fraction_text", "MOST_BIN", "MOST_PARTS", "MOST_DEPTH", "MOST_UNDER", "is_share", "is_bound", "is_part_alone", "found_bins", "is_recipe", "check_recipe", "recipe_bins", "bins_of", "depth_of", "depth", "check_many", "share_in", "keeps_bounds", "is_blend", "is_makeup", "tight_parts", "tight", "tightened", "simple", "simplified", "exchanged", "put", "numbered", "renamed", "text_of"] : List PySem.Str) ++ (["recipe_text", "sum_of_shares", "MOST_PRICES", "MOST_LISTED", "is_prices", "check_prices", "by_value", "filled", "least_cost", "spread", "cheap", "cheapest", "dear", "is_paper_of", "is_paper", "ends_but", "share_corners", "some_corners", "all_corners", "corners", "bound_rows", "one_outside", "check_both", "same_makeups", "_law_hand", "_law_draw", "_law_any", "_law_mixed", "_law_odd", "_law_is_whole"] : List PySem.Str) ++ (["_law_frac", "_law_plus", "_law_is_frac", "_law_sum_is", "_law_is_part", "_law_looked", "_law_is_recipe", "_law_range", "_law_shares", "_law_recipe", "_law_is_flag", "_law_places", "_law_at", "_law_with", "_law_bound_bent", "_law_part_bent", "_law_bent", "_law_known", "_law_is_refused", "_law_is_judged", "_law_is_bad_second"] : List PySem.Str)
abbrev hkL : PySem.W.Hook := hookM 2 fnL (exOf fcL)
def obL (s : PySem.W.SharedT) : AlM := obsM 2 fnL (exOf fcL) (HandSHeadRun.getT s)
theorem obL_eq (s : PySem.W.SharedT) : obL s = hkL.obs s.abs := obsM_eq (HandSHeadRun.getT_eq s)
theorem run1 (w : World) (os : OsState) : (HandSHeadRun.endF (HandSHeadRun.stepQ (HandSHeadRun.denQ HandSHeadRun.tabQ) (PySem.W.OpenLaw.row PySem.Challenge.rw_seenbins_k01_whole_recipes_judged).prog w) 60000 (PySem.W.OpenLaw.row PySem.Challenge.rw_seenbins_k01_whole_recipes_judged).prog w os).map (fun s => HandSHeadRun.looksF (PySem.W.OpenLaw.row PySem.Challenge.rw_seenbins_k01_whole_recipes_judged).prog (PySem.W.boot_heap w.params) s.abs) = some true := by kernel_rfl
theorem run2 (w : World) (os : OsState) : (HandSHeadRun.endF (HandSHeadRun.stepQ (HandSHeadRun.denQ HandSHeadRun.tabQ) (PySem.W.OpenLaw.row PySem.Challenge.rw_seenbins_k01_whole_recipes_judged).prog w) 60000 (PySem.W.OpenLaw.row PySem.Challenge.rw_seenbins_k01_whole_recipes_judged).prog w os).map (fun s => HandSHeadRun.seenQ (PySem.W.view (PySem.W.OpenLaw.row PySem.Challenge.rw_seenbins_k01_whole_recipes_judged).prog [116]) looseL (PySem.importedModules (PySem.W.OpenLaw.row PySem.Challenge.rw_seenbins_k01_whole_recipes_judged).prog.main.body) (fun s => PySem.W.xlAt (PySem.W.view (PySem.W.OpenLaw.row PySem.Challenge.rw_seenbins_k01_whole_recipes_judged).prog [116]) [] s && PySem.W.recOk (PySem.W.OpenLaw.row PySem.Challenge.rw_seenbins_k01_whole_recipes_judged).toRowW.records s) s.abs) = some (PySem.W.openGood (PySem.W.view (PySem.W.OpenLaw.row PySem.Challenge.rw_seenbins_k01_whole_recipes_judged).prog [116]) looseL) := by kernel_rfl
theorem run3 (w : World) (os : OsState) : (HandSHeadRun.endF (HandSHeadRun.stepQ (HandSHeadRun.denQ HandSHeadRun.tabQ) (PySem.W.OpenLaw.row PySem.Challenge.rw_seenbins_k01_whole_recipes_judged).prog w) 60000 (PySem.W.OpenLaw.row PySem.Challenge.rw_seenbins_k01_whole_recipes_judged).prog w os).map obL = some (hkL.val w) := by kernel_rfl
theorem split3 {σ α β γ : Type _} {f : σ → α} {g : σ → β} {h : σ → γ} {a : α} {b : β} {c : γ} : ∀ {o : Option σ}, o.map f = some a → o.map g = some b → o.map h = some c → o.map (fun s => (f s, g s, h s)) = some (a, b, c)
  | some s, e1, e2, e3 => by
    cases e1
    cases e2
    cases e3
    rfl
theorem runL (w : World) : HandSHeadRun.RunEq (PySem.W.OpenLaw.row PySem.Challenge.rw_seenbins_k01_whole_recipes_judged) (PySem.W.view (PySem.W.OpenLaw.row PySem.Challenge.rw_seenbins_k01_whole_recipes_judged).prog [116]) hkL obL 60000 looseL w := fun os => split3 (run1 w os) (run2 w os) (run3 w os)
end K01
open PySem PySem.W PySem.Calls PyProof.Rows
theorem PySem.Challenge.cw_seenbins_k01_whole_recipes_judged_holds : PySem.Challenge.rw_seenbins_k01_whole_recipes_judged.Holds := by
  w_on; o_law
  refine HandSHeadRun.head_any (r := OpenLaw.row PySem.Challenge.rw_seenbins_k01_whole_recipes_judged) (q := view (OpenLaw.row PySem.Challenge.rw_seenbins_k01_whole_recipes_judged).prog [116]) (H := K01.hkL) (ob := K01.obL) (M := 60000) (loose := K01.looseL) (d := HandSHeadRun.topDef (OpenLaw.row PySem.Challenge.rw_seenbins_k01_whole_recipes_judged).prog 116) (kwd := []) K01.obL_eq
    (by kernel_rfl) (fun s => by kernel_rfl) K01.runL (by kernel_rfl) (by kernel_rfl) (by kernel_rfl) (by rfl) (by first | assumption | decide +kernel) (by decide +kernel) ⟨rfl, rfl, rfl, rfl, rfl, by decide +kernel⟩ ?hw ?hc
  case hw => w_witness2
  case hc => exact L3.walk_ofM (l := PySem.Challenge.rw_seenbins_k01_whole_recipes_judged) (n := 63) (k := 90) (x := "script") rfl (by decide) (by kernel_rfl) ⟨rfl, by decide, by decide⟩ (by kernel_rfl) (fun _ _ _ _ T => K01.ok_law T) K01.law_fin

