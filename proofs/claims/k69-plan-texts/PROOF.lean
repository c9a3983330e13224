import PyProof.Rows.All
import Wide.All
import OpenK.AllK
import Wide.FinOn
import HandS.ForMost
import HandS.Exc
import HandS.ExcOwn
import HandS.TryOnly
import HandS.WordsExc
import HandS.CallSlots
import HandS.IsInst
import HandS.Lambda
import HandS.TupAny
import HandS.Zip
import HandS.Wide
import HandS.SortInts
import HandS.More
import HandS.Conv
import HandS.SetFor
import HandS.Rev
import HandS.Ends
import HandS.Defaults
import HandS.Head0
import HandS.Head1
import HandS.Head2
import HandS.HeadEnd
import HandS.HeadHook1
import HandS.HeadHook2
import HandS.ExcIs
import HandS.EndBits
import HandS.HotCalls
import HandS.Strs
import HandS.SortOrd
import HandS.Dict
import PyProof.SeqIndex
import HandS.CallLocal
import KE.GoesMore
import KE.GoesZip
import HandS.Style
import HandS.RaiseMore
import HandS.TupMul
import KE.KDictZip
import HandS.ExcInit
import HandS.ExcField
import HandS.FStr
import HandS.ClsMeth
import HandS.Codes
import HandS.MakeKw
import HandS.NestedK
import HandS.HeadHook4
import HandS.Text
import HandS.ReplaceLit
import HandS.ReplaceDef
import HandS.ReplaceList
import PyProof.Rows.StrOr
import PySem.Challenge.RW_seenbins_k69_whole_plan_texts
set_option Elab.async false
set_option linter.all false
set_option maxRecDepth 100000
namespace L3
open PySem PySem.Spec L2

/-! ### data: values as trees -/
inductive D where
  | non
  | bl (b : Bool)
  | int (i : Int)
  | str (x : Str)
  | ty (n : String)
  | tup (xs : List D)
  | lst (xs : List D)
  | lsx (xs : List D)
  | dct (ks : List Key) (xs : List D)
  | ins (C : Addr) (fs : List Str) (xs : List D)
  | ref (a : Addr)
  /-- a tuple whose object is known (t.index) -/
  | tpf (xs : List D)
  /-- an exception in hand, with its own fields -/
  | exc (a d : Addr) (fs : List Str) (xs : List D)
  /-- a lambda at f, its code object at c, its name q; xs what it may see, vs these values -/
  | lam (f c : Addr) (q : Str) (vs : List V) (xs : List D)
inductive GO where
  | lst (xs : List D)
  | dct (ks : List Key) (xs : List D)
  | ins (C : Addr) (fs : List Str) (xs : List D)
  /-- a table of code objects, all of the name q -/
  | tab (q : Str)
abbrev GH := Addr → Option GO
def gset (G : GH) (a : Addr) (o : GO) : GH := fun b => if b = a then some o else G b
def gdel (G : GH) (a : Addr) : GH := fun b => if b = a then none else G b
theorem gset_same {G : GH} {a : Addr} {o : GO} : gset G a o a = some o := if_pos rfl
theorem gset_ne {G : GH} {a b : Addr} {o : GO} (h : b ≠ a) : gset G a o b = G b := if_neg h
theorem gset_gset {G : GH} {a : Addr} {o u : GO} : gset (gset G a o) a u = gset G a u := by
  funext b; unfold gset; split <;> rfl
theorem gdel_same {G : GH} {a : Addr} : gdel G a a = none := if_pos rfl
theorem gdel_ne {G : GH} {a b : Addr} (h : b ≠ a) : gdel G a b = G b := if_neg h
theorem gdel_gset {G : GH} {a : Addr} {o : GO} (h : G a = none) : gdel (gset G a o) a = G := by
  funext b; unfold gdel gset; split
  · rename_i e; rw [e, h]
  · rfl

section
variable (K : PySem.W.Frag) (H : Hp) (G : GH)
/-- a tuple, a list that no one changes -/
def TuO (a : Addr) (vs : List V) : Prop := (G a = none ∧ Rd H a (.tup vs)) ∨
  ∃ (o : Obj) (its : Array Value) (n : Nat), K.lookup a = some o ∧ o.cls = .type "tuple" ∧ o.data = .seq its n ∧ its.size ≤ sizeLine ∧ Vals vs its.toList
def LsO (a : Addr) (vs : List V) : Prop := (G a = none ∧ Rd H a (.lst vs)) ∨
  ∃ (o : Obj) (its : Array Value) (n : Nat), K.lookup a = some o ∧ o.cls = .type "list" ∧ o.dict = none ∧ o.data = .seq its n ∧ its.size ≤ sizeLine ∧ Vals vs its.toList
mutual
def Rep : D → V → Prop
  | .non, v => v = .non
  | .bl b, v => v = .bl b
  | .int i, v => v = .int i
  | .str x, v => v = .str x
  | .ty n, v => v = .ty n
  | .tup ds, v => ∃ a vs, v = .ref a ∧ TuO K H G a vs ∧ RepL ds vs
  | .lst ds, v => ∃ a vs, v = .ref a ∧ G a = none ∧ H a = some (.lst vs) ∧ RepL ds vs
  | .lsx ds, v => ∃ a vs, v = .ref a ∧ LsO K H G a vs ∧ RepL ds vs
  | .dct ks ds, v => ∃ a kvs, v = .ref a ∧ G a = none ∧ H a = some (.dK kvs) ∧ kvs.map (·.1) = ks ∧ RepL ds (kvs.map (·.2))
  | .ins C fs ds, v => ∃ a dx kvs, v = .ref a ∧ G a = none ∧ H a = some (.ins C dx kvs) ∧ kvs.map (·.1) = fs ∧ RepL ds (kvs.map (·.2))
  | .ref a, v => v = .ref a
  | .tpf ds, v => ∃ a vs o, v = .ref a ∧ G a = none ∧ H a = some (.frz o (.tup vs)) ∧ o.dict = none ∧ RepL ds vs
  | .exc a d fs ds, v => ∃ kvs, v = .ref a ∧ G d = none ∧ H d = some (.xd kvs) ∧ kvs.map (·.1) = fs ∧ RepL ds (kvs.map (·.2))
  | .lam f c q vs ds, v => v = .ref f ∧ G c = none ∧ H c = some (LamX.CodeO c q) ∧ RepL ds vs
def RepL : List D → List V → Prop
  | [], vs => vs = []
  | d :: ds, vs => ∃ v r, vs = v :: r ∧ Rep d v ∧ RepL ds r
end
def RepO (p : Addr) : GO → Prop
  | .lst ds => ∃ vs, H p = some (.lst vs) ∧ RepL K H G ds vs
  | .dct ks ds => ∃ kvs, H p = some (.dK kvs) ∧ kvs.map (·.1) = ks ∧ RepL K H G ds (kvs.map (·.2))
  | .ins C fs ds => ∃ dx kvs, H p = some (.ins C dx kvs) ∧ kvs.map (·.1) = fs ∧ RepL K H G ds (kvs.map (·.2))
  | .tab q => ∃ ps : Array Value, H p = some (.tbl ps) ∧ TriplesOk ps.toList ∧ ∀ (pos : Pos) (cv : Value), codeAmong pos ps.toList = some cv → ∃ c, cv = .ref c ∧ G c = none ∧ H c = some (LamX.CodeO c q)
def RG : Prop := ∀ p o, G p = some o → RepO K H G p o
end

abbrev Env3 := List (Option D)
def REnv (K : PySem.W.Frag) (H : Hp) (G : GH) : Env3 → St → Prop
  | [], σ => σ = []
  | none :: e, σ => ∃ v r, σ = v :: r ∧ REnv K H G e r
  | some d :: e, σ => ∃ v r, σ = some v :: r ∧ Rep K H G d v ∧ REnv K H G e r

structure Ext (G : GH) (H : Hp) (G' : GH) (H' : Hp) : Prop where
  keep : ∀ a o, H a = some o → G a = none → H' a = some o ∧ G' a = none

section
variable {K : PySem.W.Frag} {H H' H2 : Hp} {G G' G2 : GH} {a p : Addr} {vs : List V}
theorem Ext.refl : Ext G H G H := ⟨fun _ _ h g => ⟨h, g⟩⟩
theorem Ext.trans (e : Ext G H G' H') (f : Ext G' H' G2 H2) : Ext G H G2 H2 := ⟨fun a o h g => let ⟨h1, g1⟩ := e.keep a o h g; f.keep a o h1 g1⟩
theorem TuO.sq (h : TuO K H G a vs) : SqT K H a vs := h.imp (·.2) id
theorem LsO.sq (h : LsO K H G a vs) : SqL K H a vs := h.imp (·.2) id
theorem TuO.ext (e : Ext G H G' H') (h : TuO K H G a vs) : TuO K H' G' a vs := by
  rcases h with ⟨g, h | ⟨o, h⟩⟩ | h
  · obtain ⟨h1, g1⟩ := e.keep _ _ h g
    exact .inl ⟨g1, .inl h1⟩
  · obtain ⟨h1, g1⟩ := e.keep _ _ h g
    exact .inl ⟨g1, .inr ⟨o, h1⟩⟩
  · exact .inr h
theorem LsO.ext (e : Ext G H G' H') (h : LsO K H G a vs) : LsO K H' G' a vs := by
  rcases h with ⟨g, h | ⟨o, h⟩⟩ | h
  · obtain ⟨h1, g1⟩ := e.keep _ _ h g
    exact .inl ⟨g1, .inl h1⟩
  · obtain ⟨h1, g1⟩ := e.keep _ _ h g
    exact .inl ⟨g1, .inr ⟨o, h1⟩⟩
  · exact .inr h
mutual
theorem Rep.ext (e : Ext G H G' H') : ∀ (d : D) {v : V}, Rep K H G d v → Rep K H' G' d v
  | .non, _, h => h
  | .bl _, _, h => h
  | .int _, _, h => h
  | .str _, _, h => h
  | .ty _, _, h => h
  | .tup ds, _, ⟨a, vs, q, t, r⟩ => ⟨a, vs, q, t.ext e, RepL.ext e ds r⟩
  | .lst ds, _, ⟨a, vs, q, g, h, r⟩ => let ⟨h1, g1⟩ := e.keep _ _ h g; ⟨a, vs, q, g1, h1, RepL.ext e ds r⟩
  | .lsx ds, _, ⟨a, vs, q, t, r⟩ => ⟨a, vs, q, t.ext e, RepL.ext e ds r⟩
  | .dct ks ds, _, ⟨a, kvs, q, g, h, k, r⟩ => let ⟨h1, g1⟩ := e.keep _ _ h g; ⟨a, kvs, q, g1, h1, k, RepL.ext e ds r⟩
  | .ins C fs ds, _, ⟨a, dx, kvs, q, g, h, k, r⟩ => let ⟨h1, g1⟩ := e.keep _ _ h g; ⟨a, dx, kvs, q, g1, h1, k, RepL.ext e ds r⟩
  | .ref _, _, h => h
  | .tpf ds, _, ⟨a, vs, o, q, g, h, z, r⟩ => let ⟨h1, g1⟩ := e.keep _ _ h g; ⟨a, vs, o, q, g1, h1, z, RepL.ext e ds r⟩
  | .exc a d fs ds, _, ⟨kvs, q, g, h, k, r⟩ => let ⟨h1, g1⟩ := e.keep _ _ h g; ⟨kvs, q, g1, h1, k, RepL.ext e ds r⟩
  | .lam f c q vs ds, _, ⟨z, g, h, r⟩ => let ⟨h1, g1⟩ := e.keep _ _ h g; ⟨z, g1, h1, RepL.ext e ds r⟩
theorem RepL.ext (e : Ext G H G' H') : ∀ (ds : List D) {vs : List V}, RepL K H G ds vs → RepL K H' G' ds vs
  | [], _, h => h
  | d :: ds, _, ⟨v, r, q, h, t⟩ => ⟨v, r, q, Rep.ext e d h, RepL.ext e ds t⟩
end
theorem REnv.ext (e : Ext G H G' H') : ∀ {env : Env3} {σ : St}, REnv K H G env σ → REnv K H' G' env σ
  | [], _, h => h
  | none :: _, _, ⟨v, r, q, h⟩ => ⟨v, r, q, h.ext e⟩
  | some d :: _, _, ⟨v, r, q, h, t⟩ => ⟨v, r, q, Rep.ext e d h, t.ext e⟩
theorem RepO.ext (e : Ext G H G' H') (hp : H' p = H p) : ∀ {o : GO}, RepO K H G p o → RepO K H' G' p o
  | .lst ds, ⟨vs, h, r⟩ => ⟨vs, hp.trans h, RepL.ext e ds r⟩
  | .dct ks ds, ⟨kvs, h, k, r⟩ => ⟨kvs, hp.trans h, k, RepL.ext e ds r⟩
  | .ins C fs ds, ⟨dx, kvs, h, k, r⟩ => ⟨dx, kvs, hp.trans h, k, RepL.ext e ds r⟩
  | .tab q, ⟨ps, h, t, k⟩ => ⟨ps, hp.trans h, t, fun pos cv hc => let ⟨c, z, g, hh⟩ := k pos cv hc; let ⟨h1, g1⟩ := e.keep _ _ hh g; ⟨c, z, g1, h1⟩⟩
theorem RepO.some : ∀ {o : GO}, RepO K H G p o → ∃ u, H p = some u
  | .lst _, ⟨_, h, _⟩ => ⟨_, h⟩
  | .dct _ _, ⟨_, h, _⟩ => ⟨_, h⟩
  | .ins _ _ _, ⟨_, _, h, _⟩ => ⟨_, h⟩
  | .tab _, ⟨_, h, _⟩ => ⟨_, h⟩
theorem RG.fresh (r : RG K H G) (h : H p = none) : G p = none := by
  cases q : G p with
  | none => rfl
  | some o =>
    obtain ⟨u, e⟩ := (r p o q).some
    rw [h] at e; cases e
theorem Ext.alloc {o : HO} (h : H p = none) (g : G p = none) : Ext G H G (upd H p o) := ⟨fun b u e gb => by
  have ne : b ≠ p := ne_of_none e h
  exact ⟨by rw [upd_ne ne]; exact e, gb⟩⟩
theorem Ext.allocG {o : HO} {go : GO} (h : H p = none) : Ext G H (gset G p go) (upd H p o) := ⟨fun b u e gb => by
  have ne : b ≠ p := ne_of_none e h
  exact ⟨by rw [upd_ne ne]; exact e, by rw [gset_ne ne]; exact gb⟩⟩
theorem Ext.write {o : HO} {go go' : GO} (g : G p = some go') : Ext G H (gset G p go) (upd H p o) := ⟨fun b u e gb => by
  have ne : b ≠ p := fun q => by rw [q, g] at gb; cases gb
  exact ⟨by rw [upd_ne ne]; exact e, by rw [gset_ne ne]; exact gb⟩⟩
/-- forgetting a changeable object: from then on it is frozen -/
theorem Ext.freeze : Ext G H (gdel G p) H := ⟨fun b u e gb => ⟨e, by unfold gdel; split <;> first | rfl | exact gb⟩⟩
theorem RG.same (r : RG K H G) (e : Ext G H G H') (k : ∀ q, G q ≠ none → H' q = H q) : RG K H' G := fun q o h => (r q o h).ext e (k q (by rw [h]; intro z; cases z))
theorem RG.alloc {o : HO} (r : RG K H G) (h : H p = none) : RG K (upd H p o) G := r.same (.alloc h (r.fresh h)) fun q hq => upd_ne fun z => hq (by rw [z]; exact r.fresh h)
theorem RG.allocG {o : HO} {go : GO} (r : RG K H G) (h : H p = none) (n : RepO K (upd H p o) (gset G p go) p go) : RG K (upd H p o) (gset G p go) := fun q u hq => by
  by_cases e : q = p
  · subst e; rw [gset_same] at hq; cases hq; exact n
  · rw [gset_ne e] at hq
    exact (r q u hq).ext (.allocG h) (upd_ne e)
theorem RG.write {o : HO} {go go' : GO} (r : RG K H G) (g : G p = some go') (n : RepO K (upd H p o) (gset G p go) p go) : RG K (upd H p o) (gset G p go) := fun q u hq => by
  by_cases e : q = p
  · subst e; rw [gset_same] at hq; cases hq; exact n
  · rw [gset_ne e] at hq
    exact (r q u hq).ext (.write g) (upd_ne e)
theorem RG.freeze (r : RG K H G) : RG K H (gdel G p) := fun q u hq => by
  by_cases e : q = p
  · subst e; rw [gdel_same] at hq; cases hq
  · rw [gdel_ne e] at hq
    exact (r q u hq).ext .freeze rfl
end

/-! ### lists of data -/
section
variable {K : PySem.W.Frag} {H : Hp} {G : GH}
theorem RepL.length : ∀ {ds : List D} {vs : List V}, RepL K H G ds vs → vs.length = ds.length
  | [], _, h => by rw [show _ = _ from h]; rfl
  | _ :: ds, _, ⟨v, r, q, _, t⟩ => by rw [q, List.length_cons, List.length_cons, RepL.length t]
theorem RepL.append : ∀ {ds es : List D} {vs us : List V}, RepL K H G ds vs → RepL K H G es us → RepL K H G (ds ++ es) (vs ++ us)
  | [], _, _, _, h, k => by rw [show _ = _ from h]; exact k
  | _ :: ds, _, _, _, ⟨v, r, q, a, t⟩, k => by rw [q]; exact ⟨v, _, rfl, a, RepL.append t k⟩
theorem RepL.get : ∀ {ds : List D} {vs : List V} {i : Nat} {d : D}, RepL K H G ds vs → ds[i]? = some d → ∃ v, vs[i]? = some v ∧ Rep K H G d v
  | [], _, _, _, _, e => by simp at e
  | _ :: ds, _, 0, _, ⟨v, r, q, a, t⟩, e => by
    rw [q]; simp at e; rw [← e]; exact ⟨v, rfl, a⟩
  | _ :: ds, _, i + 1, d, ⟨v, r, q, a, t⟩, e => by
    rw [q]
    obtain ⟨u, h1, h2⟩ := RepL.get (i := i) (d := d) t (by simpa using e)
    exact ⟨u, by simpa using h1, h2⟩
theorem RepL.take : ∀ {ds : List D} {vs : List V} (n : Nat), RepL K H G ds vs → RepL K H G (ds.take n) (vs.take n)
  | _, _, 0, h => by rw [List.take_zero, List.take_zero]; exact rfl
  | [], _, n + 1, h => by rw [show _ = _ from h]; exact rfl
  | _ :: ds, _, n + 1, ⟨v, r, q, a, t⟩ => by rw [q]; exact ⟨v, _, rfl, a, RepL.take n t⟩
theorem RepL.drop : ∀ {ds : List D} {vs : List V} (n : Nat), RepL K H G ds vs → RepL K H G (ds.drop n) (vs.drop n)
  | _, _, 0, h => by rw [List.drop_zero, List.drop_zero]; exact h
  | [], _, n + 1, h => by rw [show _ = _ from h]; exact rfl
  | _ :: ds, _, n + 1, ⟨v, r, q, a, t⟩ => by rw [q]; exact RepL.drop n t
theorem RepL.set {d : D} {v : V} (h : Rep K H G d v) : ∀ {ds : List D} {vs : List V} (n : Nat), RepL K H G ds vs → RepL K H G (ds.set n d) (vs.set n v)
  | [], _, n, t => by rw [show _ = _ from t]; exact rfl
  | _ :: ds, _, 0, ⟨w, r, q, a, t⟩ => by rw [q]; exact ⟨v, r, rfl, h, t⟩
  | _ :: ds, _, n + 1, ⟨w, r, q, a, t⟩ => by rw [q]; exact ⟨w, _, rfl, a, RepL.set h n t⟩
theorem RepL.reverse : ∀ {ds : List D} {vs : List V}, RepL K H G ds vs → RepL K H G ds.reverse vs.reverse
  | [], _, h => by rw [show _ = _ from h]; exact rfl
  | _ :: ds, _, ⟨v, r, q, a, t⟩ => by
    rw [q, List.reverse_cons, List.reverse_cons]
    exact (RepL.reverse t).append ⟨v, [], rfl, a, rfl⟩
theorem RepL.one {d : D} {v : V} (h : Rep K H G d v) : RepL K H G [d] [v] := ⟨v, [], rfl, h, rfl⟩
theorem RepL.nil : RepL K H G [] [] := rfl
theorem RepL.cons {d : D} {v : V} {ds : List D} {vs : List V} (h : Rep K H G d v) (t : RepL K H G ds vs) : RepL K H G (d :: ds) (v :: vs) := ⟨v, vs, rfl, h, t⟩
theorem RepL.ints : ∀ {ns : List Int}, RepL K H G (ns.map D.int) (ns.map V.int)
  | [] => rfl
  | n :: r => ⟨_, _, rfl, rfl, RepL.ints⟩
theorem RepL.of_ints : ∀ {ns : List Int} {vs : List V}, RepL K H G (ns.map D.int) vs → vs = ns.map V.int
  | [], _, h => h
  | n :: r, _, ⟨v, us, q, h, t⟩ => by rw [q, show v = _ from h, RepL.of_ints t]; rfl
end

/-! ### slots -/
def at3 : Env3 → Nat → Option D
  | [], _ => none
  | x :: _, 0 => x
  | _ :: r, i + 1 => at3 r i
section
variable {K : PySem.W.Frag} {H : Hp} {G : GH}
theorem REnv.length : ∀ {env : Env3} {σ : St}, REnv K H G env σ → σ.length = env.length
  | [], _, h => by rw [show _ = _ from h]; rfl
  | none :: _, _, ⟨v, r, q, h⟩ => by rw [q, List.length_cons, List.length_cons, h.length]
  | some d :: _, _, ⟨v, r, q, _, h⟩ => by rw [q, List.length_cons, List.length_cons, h.length]
theorem REnv.get : ∀ {env : Env3} {σ : St} {i : Nat} {d : D}, REnv K H G env σ → at3 env i = some d → ∃ v, σ[i]? = some (some v) ∧ Rep K H G d v
  | [], _, _, _, _, e => by cases e
  | none :: _, _, 0, _, _, e => by cases e
  | none :: _, _, i + 1, d, ⟨v, r, q, h⟩, e => by
    rw [q]
    obtain ⟨u, h1, h2⟩ := REnv.get (i := i) (d := d) h e
    exact ⟨u, by simpa using h1, h2⟩
  | some d' :: _, _, 0, d, ⟨v, r, q, h, _⟩, e => by
    cases e; rw [q]; exact ⟨v, rfl, h⟩
  | some _ :: _, _, i + 1, d, ⟨v, r, q, _, h⟩, e => by
    rw [q]
    obtain ⟨u, h1, h2⟩ := REnv.get (i := i) (d := d) h e
    exact ⟨u, by simpa using h1, h2⟩
theorem REnv.set {d : D} {v : V} (x : Rep K H G d v) : ∀ {env : Env3} {σ : St} (i : Nat), REnv K H G env σ → REnv K H G (env.set i (some d)) (σ.set i (some v))
  | [], _, i, h => by rw [show _ = _ from h]; exact rfl
  | none :: _, _, 0, ⟨w, r, q, h⟩ => by rw [q]; exact ⟨v, r, rfl, x, h⟩
  | none :: _, _, i + 1, ⟨w, r, q, h⟩ => by rw [q]; exact ⟨w, _, rfl, REnv.set x i h⟩
  | some _ :: _, _, 0, ⟨w, r, q, _, h⟩ => by rw [q]; exact ⟨v, r, rfl, x, h⟩
  | some d' :: _, _, i + 1, ⟨w, r, q, y, h⟩ => by rw [q]; exact ⟨w, _, rfl, y, REnv.set x i h⟩
theorem REnv.unset {o : Option V} : ∀ {env : Env3} {σ : St} (i : Nat), REnv K H G env σ → REnv K H G (env.set i none) (σ.set i o)
  | [], _, i, h => by rw [show _ = _ from h]; exact rfl
  | none :: _, _, 0, ⟨w, r, q, h⟩ => by rw [q]; exact ⟨_, r, rfl, h⟩
  | none :: _, _, i + 1, ⟨w, r, q, h⟩ => by rw [q]; exact ⟨w, _, rfl, REnv.unset i h⟩
  | some _ :: _, _, 0, ⟨w, r, q, _, h⟩ => by rw [q]; exact ⟨_, r, rfl, h⟩
  | some d' :: _, _, i + 1, ⟨w, r, q, y, h⟩ => by rw [q]; exact ⟨w, _, rfl, y, REnv.unset i h⟩
theorem REnv.nones : ∀ (n : Nat), REnv K H G (List.replicate n none) (List.replicate n none)
  | 0 => rfl
  | n + 1 => ⟨none, _, rfl, REnv.nones n⟩
theorem REnv.start : ∀ {ds : List D} {vs : List V} {e : Env3} {σ : St}, RepL K H G ds vs → REnv K H G e σ → REnv K H G (ds.map some ++ e) (vs.map some ++ σ)
  | [], _, _, _, h, k => by rw [show _ = _ from h]; exact k
  | d :: ds, _, _, _, ⟨v, r, q, a, t⟩, k => by rw [q]; exact ⟨v, _, rfl, a, REnv.start t k⟩
end

/-! ### the lifted readings -/
abbrev K3 := D → GH → Prop
/-- an exception: its class, its own fields -/
abbrev X3 := Value → Option (List Str × List D) → Env3 → GH → Prop
abbrev W3 := Env3 → GH → K3 → X3 → Prop
abbrev A3 := Env3 → GH → (List D → GH → Prop) → X3 → Prop
abbrev T3 := Env3 → GH → (Bool → GH → Prop) → X3 → Prop
structure E3 where
  nx : Env3 → GH → Prop
  rt : K3
  bk : Env3 → GH → Prop := fun _ _ => False
  ct : Env3 → GH → Prop := fun _ _ => False
  ex : X3 := fun _ _ _ _ => False
abbrev S3 := E3 → Env3 → GH → Prop

section
variable (K : PySem.W.Frag)
def RepX (H : Hp) (G : GH) : Option (List Str × List D) → Option Addr → Prop
  | none, d => d = none
  | some (fs, ds), d => ∃ a kvs, d = some a ∧ H a = some (.xd kvs) ∧ G a = none ∧ kvs.map (·.1) = fs ∧ RepL K H G ds (kvs.map (·.2))
def FinE (H : Hp) (G : GH) (R : K3) (Q : VK) : Prop := ∀ d v G' H', Ext G H G' H' → Rep K H' G' d v → RG K H' G' → R d G' → Q v H'
def FinA (H : Hp) (G : GH) (R : List D → GH → Prop) (Q : List V → Hp → Prop) : Prop := ∀ ds vs G' H', Ext G H G' H' → RepL K H' G' ds vs → RG K H' G' → R ds G' → Q vs H'
def FinT (H : Hp) (G : GH) (R : Bool → GH → Prop) (Q : Bool → Hp → Prop) : Prop := ∀ b G' H', Ext G H G' H' → RG K H' G' → R b G' → Q b H'
def FinN (H : Hp) (G : GH) (R : Env3 → GH → Prop) (Q : St → Hp → Prop) : Prop := ∀ env σ G' H', Ext G H G' H' → REnv K H' G' env σ → RG K H' G' → R env G' → Q σ H'
def FinX (W : WX) (H : Hp) (G : GH) (Ex : X3) : Prop := ∀ cls fs d env σ G' H', Ext G H G' H' → REnv K H' G' env σ → RG K H' G' → RepX K H' G' fs d → Ex cls fs env G' → W cls d σ H'
def up (W : WX) (w : W3) : TE := fun σ H Q => ∃ env G R Ex, REnv K H G env σ ∧ RG K H G ∧ w env G R Ex ∧ FinE K H G R Q ∧ FinX K W H G Ex
def upA (W : WX) (w : A3) : TA := fun σ H Q => ∃ env G R Ex, REnv K H G env σ ∧ RG K H G ∧ w env G R Ex ∧ FinA K H G R Q ∧ FinX K W H G Ex
def upT (W : WX) (w : T3) : TT := fun σ H Q => ∃ env G R Ex, REnv K H G env σ ∧ RG K H G ∧ w env G R Ex ∧ FinT K H G R Q ∧ FinX K W H G Ex
structure FinS (W : WX) (H : Hp) (G : GH) (E : E3) (Q : Ends) : Prop where
  nx : FinN K H G E.nx Q.nx
  rt : FinE K H G E.rt Q.rt
  bk : FinN K H G E.bk Q.bk
  ct : FinN K H G E.ct Q.ct
  ex : FinX K W H G E.ex
def upS (W : WX) (w : S3) : TS := fun Q σ H => ∃ env G E, REnv K H G env σ ∧ RG K H G ∧ w E env G ∧ FinS K W H G E Q
end

section
variable {K : PySem.W.Frag} {W : WX} {H H' : Hp} {G G' : GH}
theorem FinE.ext {R : K3} {Q : VK} (e : Ext G H G' H') (f : FinE K H G R Q) : FinE K H' G' R Q := fun d v G2 H2 e2 => f d v G2 H2 (e.trans e2)
theorem FinA.ext {R : List D → GH → Prop} {Q : List V → Hp → Prop} (e : Ext G H G' H') (f : FinA K H G R Q) : FinA K H' G' R Q := fun d v G2 H2 e2 => f d v G2 H2 (e.trans e2)
theorem FinT.ext {R : Bool → GH → Prop} {Q : Bool → Hp → Prop} (e : Ext G H G' H') (f : FinT K H G R Q) : FinT K H' G' R Q := fun b G2 H2 e2 => f b G2 H2 (e.trans e2)
theorem FinN.ext {R : Env3 → GH → Prop} {Q : St → Hp → Prop} (e : Ext G H G' H') (f : FinN K H G R Q) : FinN K H' G' R Q := fun d v G2 H2 e2 => f d v G2 H2 (e.trans e2)
theorem FinX.ext {Ex : X3} (e : Ext G H G' H') (f : FinX K W H G Ex) : FinX K W H' G' Ex := fun c fs d en s G2 H2 e2 => f c fs d en s G2 H2 (e.trans e2)
theorem FinS.ext {E : E3} {Q : Ends} (e : Ext G H G' H') (f : FinS K W H G E Q) : FinS K W H' G' E Q := ⟨f.nx.ext e, f.rt.ext e, f.bk.ext e, f.ct.ext e, f.ex.ext e⟩
end
section
variable {X : Cx} {e : Expr} {t t' : TE}
theorem PE.imp (h : PE X e t) (f : ∀ σ H Q, t' σ H Q → t σ H Q) : PE X e t' := ⟨fun pins s σ H Q I q => h.run pins s σ H Q I (f _ _ _ q)⟩
theorem PT.imp {t t' : TT} (h : PT X e t) (f : ∀ σ H Q, t' σ H Q → t σ H Q) : PT X e t' := ⟨fun pins s σ H Q I q => h.run pins s σ H Q I (f _ _ _ q)⟩
theorem PA.imp {es : List Expr} {t t' : TA} (h : PA X es t) (f : ∀ σ H Q, t' σ H Q → t σ H Q) : PA X es t' := ⟨fun pos pins s σ H Q I q => h.run pos pins s σ H Q I (f _ _ _ q)⟩
theorem PS.imp {st : Stmt} {t t' : TS} (h : PS X st t) (f : ∀ D σ H, t' D σ H → t D σ H) : PS X st t' := ⟨fun pins s σ H D I q => h.run pins s σ H D I (f _ _ _ q)⟩
theorem PSs.imp {st : List Stmt} {t t' : TS} (h : PSs X st t) (f : ∀ D σ H, t' D σ H → t D σ H) : PSs X st t' := ⟨fun pins s σ H D I q => h.run pins s σ H D I (f _ _ _ q)⟩
end
end L3

set_option Elab.async false
set_option linter.all false
set_option maxRecDepth 100000
namespace L3
open PySem PySem.Spec L2

/-! ### reading data -/
def asL (G : GH) : D → Option (List D)
  | .lst xs => some xs
  | .lsx xs => some xs
  | .ref p => match G p with
    | some (.lst xs) => some xs
    | _ => none
  | _ => none
/-- a list that is tracked -/
def asL1 (G : GH) : D → Option (List D)
  | .lst xs => some xs
  | .ref p => match G p with
    | some (.lst xs) => some xs
    | _ => none
  | _ => none
def asT : D → Option (List D)
  | .tup xs => some xs
  | _ => none
/-- a list or a tuple -/
def asS (G : GH) : D → Option (List D)
  | .tup xs => some xs
  | d => asL G d
section
variable {K : PySem.W.Frag} {H : Hp} {G : GH} {d : D} {v : V} {ds : List D}
theorem asL1_at (r : Rep K H G d v) (g : RG K H G) (h : asL1 G d = some ds) : ∃ a vs, v = .ref a ∧ H a = some (.lst vs) ∧ RepL K H G ds vs := by
  cases d <;> simp only [asL1] at h <;> try cases h
  · obtain ⟨a, vs, q, _, k, t⟩ := r
    exact ⟨a, vs, q, k, t⟩
  · rename_i p
    split at h
    · rename_i xs e
      cases h
      obtain ⟨vs, k, t⟩ := g p _ e
      exact ⟨p, vs, r, k, t⟩
    · cases h
theorem asL_at (r : Rep K H G d v) (g : RG K H G) (h : asL G d = some ds) : ∃ a vs, v = .ref a ∧ SqL K H a vs ∧ RepL K H G ds vs := by
  cases d <;> simp only [asL] at h <;> try cases h
  · obtain ⟨a, vs, q, k, e, t⟩ := r
    exact ⟨a, vs, q, .inl (.inl e), t⟩
  · obtain ⟨a, vs, q, k, t⟩ := r
    exact ⟨a, vs, q, k.sq, t⟩
  · rename_i p
    split at h
    · rename_i xs e
      cases h
      obtain ⟨vs, k, t⟩ := g p _ e
      exact ⟨p, vs, r, .inl (.inl k), t⟩
    · cases h
theorem asT_at (r : Rep K H G d v) (h : asT d = some ds) : ∃ a vs, v = .ref a ∧ SqT K H a vs ∧ RepL K H G ds vs := by
  cases d <;> simp only [asT] at h <;> try cases h
  obtain ⟨a, vs, q, k, t⟩ := r
  exact ⟨a, vs, q, k.sq, t⟩
theorem asS_at (r : Rep K H G d v) (g : RG K H G) (h : asS G d = some ds) : ∃ a vs, v = .ref a ∧ (SqL K H a vs ∨ SqT K H a vs) ∧ RepL K H G ds vs := by
  cases d with
  | tup xs =>
    cases h
    obtain ⟨a, vs, q, k, t⟩ := r
    exact ⟨a, vs, q, .inr k.sq, t⟩
  | _ =>
    obtain ⟨a, vs, q, k, t⟩ := asL_at r g h
    exact ⟨a, vs, q, .inl k, t⟩
end
/-! the plain data, as the library has it -/
mutual
def toPy : D → PyData
  | .non => .none
  | .bl b => .bool b
  | .int i => .int i
  | .str x => .str x
  | .tup xs => .tuple (toPyL xs)
  | .lst xs => .list (toPyL xs)
  | .lsx xs => .list (toPyL xs)
  | .ty _ => .none
  | .dct _ _ => .none
  | .ins _ _ _ => .none
  | .ref _ => .none
  | .tpf _ => .none
  | .exc _ _ _ _ => .none
  | .lam _ _ _ _ _ => .none
def toPyL : List D → List PyData
  | [] => []
  | d :: r => toPy d :: toPyL r
end
mutual
def flat3 : D → Bool
  | .non => true
  | .bl _ => true
  | .int _ => true
  | .str _ => true
  | .tup xs => flat3L xs
  | .lst xs => flat3L xs
  | .lsx xs => flat3L xs
  | _ => false
def flat3L : List D → Bool
  | [] => true
  | d :: r => flat3 d && flat3L r
end
section
variable {K : PySem.W.Frag} {H : Hp} {G : GH}
mutual
theorem Dp_of : ∀ (d : D) {v : V}, Rep K H G d v → flat3 d = true → Dp K H v (toPy d)
  | .non, v, r, _ => by rw [show v = .non from r]; exact .non
  | .bl b, v, r, _ => by rw [show v = .bl b from r]; exact .bl b
  | .int b, v, r, _ => by rw [show v = .int b from r]; exact .int b
  | .str b, v, r, _ => by rw [show v = .str b from r]; exact .str b
  | .tup xs, v, ⟨a, vs, q, k, t⟩, h => by rw [q]; exact .tup k.sq (DpAll_of xs t h)
  | .lst xs, v, ⟨a, vs, q, k, e, t⟩, h => by rw [q]; exact .lst (.inl (.inl e)) (DpAll_of xs t h)
  | .lsx xs, v, ⟨a, vs, q, k, t⟩, h => by rw [q]; exact .lst k.sq (DpAll_of xs t h)
  | .ty _, _, _, h => by cases h
  | .dct _ _, _, _, h => by cases h
  | .ins _ _ _, _, _, h => by cases h
  | .ref _, _, _, h => by cases h
  | .tpf _, _, _, h => by cases h
  | .exc _ _ _ _, _, _, h => by cases h
  | .lam _ _ _ _ _, _, _, h => by cases h
theorem DpAll_of : ∀ (ds : List D) {vs : List V}, RepL K H G ds vs → flat3L ds = true → DpAll K H vs (toPyL ds)
  | [], _, t, _ => by rw [show _ = _ from t]; exact .nil
  | d :: ds, _, ⟨v, r, q, a, t⟩, h => by
    have h' : (flat3 d && flat3L ds) = true := h
    rw [Bool.and_eq_true] at h'
    rw [q]; exact .cons (Dp_of d a h'.1) (DpAll_of ds t h'.2)
end
end
/-- == of data -/
def eq3 (a b : D) : Bool := PyData.eqv (toPy a) (toPy b)
def okEq (d : D) : Bool := flat3 d && SeqAt.shaped (toPy d)
def atD (xs : List D) (i : Int) : Option D := L2.atI xs i
def cutD (xs : List D) (lo hi : Option Int) : List D := (xs.drop (HT.sIx xs.length 0 lo)).take (HT.sIx xs.length xs.length hi - HT.sIx xs.length 0 lo)
section
variable {K : PySem.W.Frag} {H : Hp} {G : GH}
theorem RepL.atI {ds : List D} {vs : List V} {i : Int} {d : D} (r : RepL K H G ds vs) (h : atD ds i = some d) : ∃ v, L2.atI vs i = some v ∧ Rep K H G d v := by
  unfold atD L2.atI at h
  obtain ⟨j, h1, h2⟩ := Option.bind_eq_some_iff.mp h
  obtain ⟨v, h3, h4⟩ := r.get h2
  refine ⟨v, ?_, h4⟩
  unfold L2.atI
  rw [r.length, h1]
  exact h3
theorem RepL.cut {ds : List D} {vs : List V} (lo hi : Option Int) (r : RepL K H G ds vs) : RepL K H G (cutD ds lo hi) (cutV vs lo hi) := by
  unfold cutD cutV
  rw [r.length]
  exact (r.drop _).take _
end

/-! ### the lifted operators -/
abbrev F1 := D → GH → K3 → Prop
abbrev F2 := D → D → GH → K3 → Prop
abbrev FA := List D → GH → K3 → Prop
def Lift1 (K : PySem.W.Frag) (r : V → Hp → VK → Prop) (f : F1) : Prop := ∀ (x : D) (a : V) (H : Hp) (G : GH) (R : K3) (Q : VK), Rep K H G x a → RG K H G → f x G R → FinE K H G R Q → r a H Q
def Lift2 (K : PySem.W.Frag) (r : R2) (f : F2) : Prop := ∀ (x y : D) (a b : V) (H : Hp) (G : GH) (R : K3) (Q : VK), Rep K H G x a → Rep K H G y b → RG K H G → f x y G R → FinE K H G R Q → r a b H Q
def LiftC (K : PySem.W.Frag) (r : List V → Hp → VK → Prop) (f : FA) : Prop := ∀ (xs : List D) (vs : List V) (H : Hp) (G : GH) (R : K3) (Q : VK), RepL K H G xs vs → RG K H G → f xs G R → FinE K H G R Q → r vs H Q

def wVar (i : Nat) : W3 := fun env G R _ => ∃ d, at3 env i = some d ∧ R d G
def wC (d : D) : W3 := fun _ G R _ => R d G
def w1 (f : F1) (a : W3) : W3 := fun env G R Ex => a env G (fun x G1 => f x G1 R) Ex
def w2 (f : F2) (a b : W3) : W3 := fun env G R Ex => a env G (fun x G1 => b env G1 (fun y G2 => f x y G2 R) Ex) Ex
def aNil : A3 := fun _ G R _ => R [] G
def aCons (a : W3) (r : A3) : A3 := fun env G R Ex => a env G (fun x G1 => r env G1 (fun xs G2 => R (x :: xs) G2) Ex) Ex
def wA (f : FA) (a : A3) : W3 := fun env G R Ex => a env G (fun xs G1 => f xs G1 R) Ex

section
variable {K : PySem.W.Frag} {W : WX} {H : Hp} {σ : St} {G : GH}
theorem up_go {env : Env3} {w : W3} {R : K3} {Ex : X3} {Q : VK} (re : REnv K H G env σ) (rg : RG K H G) (h : w env G R Ex) (fx : FinX K W H G Ex) (k : FinE K H G R Q) : up K W w σ H Q := ⟨env, G, R, Ex, re, rg, h, k, fx⟩
theorem upA_go {env : Env3} {w : A3} {R : List D → GH → Prop} {Ex : X3} {Q : List V → Hp → Prop} (re : REnv K H G env σ) (rg : RG K H G) (h : w env G R Ex) (fx : FinX K W H G Ex) (k : FinA K H G R Q) : upA K W w σ H Q := ⟨env, G, R, Ex, re, rg, h, k, fx⟩
theorem upT_go {env : Env3} {w : T3} {R : Bool → GH → Prop} {Ex : X3} {Q : Bool → Hp → Prop} (re : REnv K H G env σ) (rg : RG K H G) (h : w env G R Ex) (fx : FinX K W H G Ex) (k : FinT K H G R Q) : upT K W w σ H Q := ⟨env, G, R, Ex, re, rg, h, k, fx⟩
theorem up_2 {r : R2} {f : F2} {wa wb : W3} {Q : VK} (hl : Lift2 K r f) (h : up K W (w2 f wa wb) σ H Q) : tOp r (up K W wa) (up K W wb) σ H Q := by
  obtain ⟨env, G, R, Ex, re, rg, h, fe, fx⟩ := h
  refine up_go re rg h fx fun x a G1 H1 e1 rx rg1 h1 => ?_
  refine up_go (re.ext e1) rg1 h1 (fx.ext e1) fun y b G2 H2 e2 ry rg2 h2 => ?_
  exact hl x y a b H2 G2 R Q (rx.ext e2) ry rg2 h2 (fe.ext (e1.trans e2))
theorem up_1 {r : V → Hp → VK → Prop} {f : F1} {wa : W3} {Q : VK} (hl : Lift1 K r f) (h : up K W (w1 f wa) σ H Q) : tUn r (up K W wa) σ H Q := by
  obtain ⟨env, G, R, Ex, re, rg, h, fe, fx⟩ := h
  refine up_go re rg h fx fun x a G1 H1 e1 rx rg1 h1 => ?_
  exact hl x a H1 G1 R Q rx rg1 h1 (fe.ext e1)
theorem up_A {r : List V → Hp → VK → Prop} {f : FA} {wa : A3} {Q : VK} (hl : LiftC K r f) (h : up K W (wA f wa) σ H Q) : tCB r (upA K W wa) σ H Q := by
  obtain ⟨env, G, R, Ex, re, rg, h, fe, fx⟩ := h
  refine upA_go re rg h fx fun x a G1 H1 e1 rx rg1 h1 => ?_
  exact hl x a H1 G1 R Q rx rg1 h1 (fe.ext e1)
end
section
variable {X : Cx} {W : WX} {a b : Expr} {wa wb : W3} {pos : Pos}
theorem c_var (i : Nat) {x : Str} {pos : Pos} (hN : X.N[i]? = some x := by rfl) (hv : Vis X.env.scope x := by first | exact Or.inl rfl | exact Or.inr (Or.inl rfl) | exact Or.inr (Or.inr rfl)) (hd : (x == ("__debug__" : Str)) = false := by decide)
    (hcd : (x == ("__classdict__" : Str)) = false := by decide) : PE X (.Name x pos) (up X.K W (wVar i)) :=
  PE.imp (pe_var hN hv hd hcd) fun σ H Q ⟨env, G, R, Ex, re, rg, ⟨d, h1, h2⟩, fe, fx⟩ => let ⟨v, e, r⟩ := re.get h1; ⟨v, e, fe d v G H .refl r rg h2⟩
theorem up_C {K : PySem.W.Frag} {d : D} {v : V} {σ : St} {H : Hp} {Q : VK} (hv : ∀ H G, Rep K H G d v) (h : up K W (wC d) σ H Q) : tC v σ H Q := by
  obtain ⟨env, G, R, Ex, re, rg, h, fe, fx⟩ := h
  exact fe d v G H .refl (hv H G) rg h
theorem c_int {i j pos} : PE X (.Constant (.int i) j pos) (up X.K W (wC (.int i))) := PE.imp pe_int fun _ _ _ h => up_C (d := .int i) (fun _ _ => rfl) h
theorem c_bl {i j pos} : PE X (.Constant (.bool i) j pos) (up X.K W (wC (.bl i))) := PE.imp pe_bl fun _ _ _ h => up_C (d := .bl i) (fun _ _ => rfl) h
theorem c_str {i j pos} : PE X (.Constant (.str i) j pos) (up X.K W (wC (.str i))) := PE.imp pe_str fun _ _ _ h => up_C (d := .str i) (fun _ _ => rfl) h
theorem c_non {j pos} : PE X (.Constant .none j pos) (up X.K W (wC .non)) := PE.imp pe_non fun _ _ _ h => up_C (d := .non) (fun _ _ => rfl) h
theorem c_glob {x : Str} {v : V} {u : Value} {d : D} {pos : Pos} (hm : X.mg x = some u) (r : RelV v u) (hv : ∀ H G, Rep X.K H G d v) (hg : Gl X x := by rfl) (hd : (x == ("__debug__" : Str)) = false := by decide) : PE X (.Name x pos) (up X.K W (wC d)) :=
  PE.imp (pe_glob hg hm r hd) fun _ _ _ h => up_C hv h
theorem c_bltn {x : Str} {n : String} {pos : Pos} (hm : X.mg x = none) (hv : bootBuiltins x = some (.type n) := by decide +kernel) (hg : Gl X x := by rfl) (hn : x ≠ "__name__" := by decide) (hd : (x == ("__debug__" : Str)) = false := by decide) : PE X (.Name x pos) (up X.K W (wC (.ty n))) :=
  PE.imp (pe_bltn (v := .ty n) hg hm hv rfl hn hd) fun _ _ _ h => up_C (d := .ty n) (fun _ _ => rfl) h
theorem c_op {op : Operator} {r : R2} {f : F2} (ho : OpR X (binaryOp op) r) (hl : Lift2 X.K r f) (ha : PE X a (up X.K W wa)) (hb : PE X b (up X.K W wb)) : PE X (.BinOp a op b pos) (up X.K W (w2 f wa wb)) :=
  PE.imp (pe_op ho ha hb) fun _ _ _ h => up_2 hl h
theorem c_un {op : UnaryOp} {r : V → Hp → VK → Prop} {f : F1} (ho : UnR X (unaryOp op) r) (hl : Lift1 X.K r f) (ha : PE X a (up X.K W wa)) : PE X (.UnaryOp op a pos) (up X.K W (w1 f wa)) :=
  PE.imp (pe_un ho ha) fun _ _ _ h => up_1 hl h
theorem c_cmp {op : CmpOp} {r : R2} {f : F2} (ho : OpR X (compareOp op) r) (hl : Lift2 X.K r f) (ha : PE X a (up X.K W wa)) (hb : PE X b (up X.K W wb)) (hm : behindInMarks op b = false := by first | exact nomark _ | rfl) : PE X (.Compare a [op] [b] pos) (up X.K W (w2 f wa wb)) :=
  PE.imp (pe_cmpR ho ha hb hm) fun _ _ _ h => up_2 hl h
/-- an expression as a test: its value is a bool -/
def tOfW (w : W3) : T3 := fun env G R Ex => w env G (fun d G1 => ∃ k, d = .bl k ∧ R k G1) Ex
theorem upT_tTest {K : PySem.W.Frag} {w : W3} {t : TE} {σ : St} {H : Hp} {Q : Bool → Hp → Prop} (h : upT K W (tOfW w) σ H Q) (k : ∀ Q', up K W w σ H Q' → t σ H Q') : t σ H (fun x H' => ∃ k, x = .bl k ∧ Q k H') := by
  obtain ⟨env, G, R, Ex, re, rg, h, fe, fx⟩ := h
  refine k _ (up_go re rg h fx fun x a G1 H1 e1 rx rg1 h1 => ?_)
  obtain ⟨b, rfl, h1⟩ := h1
  exact ⟨b, rx, fe b G1 H1 e1 rg1 h1⟩
theorem t_cmp {op : CmpOp} {r : R2} {f : F2} (ho : OpR X (compareOp op) r) (hl : Lift2 X.K r f) (ha : PE X a (up X.K W wa)) (hb : PE X b (up X.K W wb)) (hm : behindInMarks op b = false := by first | exact nomark _ | rfl) :
    PT X (.Compare a [op] [b] pos) (upT X.K W (tOfW (w2 f wa wb))) :=
  PT.imp (pt_cmpR ho ha hb hm) fun _ _ _ h => upT_tTest h fun _ h => up_2 hl h
/-- chains a op b op' c -/
def w3c (f f' : F2) (a b c : W3) : W3 := fun env G R Ex => a env G (fun x G1 => b env G1 (fun y G2 => f x y G2 fun z G3 => ∃ k, z = .bl k ∧ if k = true then c env G3 (fun u G4 => f' y u G4 R) Ex else R (.bl false) G3) Ex) Ex
theorem up_ch {K : PySem.W.Frag} {r r' : R2} {f f' : F2} {wa wb wc : W3} {σ : St} {H : Hp} {Q : VK} (hl : Lift2 K r f) (hl' : Lift2 K r' f') (h : up K W (w3c f f' wa wb wc) σ H Q) : tChain r r' (up K W wa) (up K W wb) (up K W wc) σ H Q := by
  obtain ⟨env, G, R, Ex, re, rg, h, fe, fx⟩ := h
  refine up_go re rg h fx fun x a G1 H1 e1 rx rg1 h1 => ?_
  refine up_go (re.ext e1) rg1 h1 (fx.ext e1) fun y b G2 H2 e2 ry rg2 h2 => ?_
  refine hl x y a b H2 G2 _ _ (rx.ext e2) ry rg2 h2 fun z c G3 H3 e3 rz rg3 h3 => ?_
  obtain ⟨k, rfl, h3⟩ := h3
  obtain rfl : c = V.bl k := rz
  refine ⟨k, rfl, ?_⟩
  cases k with
  | false => exact fe (.bl false) _ G3 H3 ((e1.trans e2).trans e3) rfl rg3 h3
  | true =>
    refine up_go ((re.ext (e1.trans e2)).ext e3) rg3 h3 (fx.ext ((e1.trans e2).trans e3)) fun u g G4 H4 e4 ru rg4 h4 => ?_
    exact hl' y u b g H4 G4 R Q ((ry.ext e3).ext e4) ru rg4 h4 (fe.ext (((e1.trans e2).trans e3).trans e4))
theorem c_chain {op op' : CmpOp} {r r' : R2} {f f' : F2} {c : Expr} {wc : W3} (ho : OpR X (compareOp op) r) (hl : Lift2 X.K r f) (ho' : OpR X (compareOp op') r') (hl' : Lift2 X.K r' f') (ha : PE X a (up X.K W wa)) (hb : PE X b (up X.K W wb)) (hc : PE X c (up X.K W wc))
    (h1 : lastMarks [op, op'] [b, c] = false := by with_unfolding_all rfl) : PE X (.Compare a [op, op'] [b, c] pos) (up X.K W (w3c f f' wa wb wc)) :=
  PE.imp (pe_chain ho ho' ha hb hc h1) fun _ _ _ h => up_ch hl hl' h
theorem t_chain {op op' : CmpOp} {r r' : R2} {f f' : F2} {c : Expr} {wc : W3} (ho : OpR X (compareOp op) r) (hl : Lift2 X.K r f) (ho' : OpR X (compareOp op') r') (hl' : Lift2 X.K r' f') (ha : PE X a (up X.K W wa)) (hb : PE X b (up X.K W wb)) (hc : PE X c (up X.K W wc))
    (h1 : lastMarks [op, op'] [b, c] = false := by with_unfolding_all rfl) : PT X (.Compare a [op, op'] [b, c] pos) (upT X.K W (tOfW (w3c f f' wa wb wc))) :=
  PT.imp (pt_chain ho ho' ha hb hc h1) fun _ _ _ h => upT_tTest h fun _ h => up_ch hl hl' h
theorem t_val {e : Expr} {w : W3} (h : PE X e (up X.K W w)) (he : ∀ whole, isTrue e X.env whole = (do let v ← whole; standAt e.pos; holding [v] (truthy v)) := by intro _; rfl) : PT X e (upT X.K W (tOfW w)) :=
  PT.imp (pt_val h he) fun _ _ _ h => upT_tTest h fun _ h => h
end
end L3

set_option Elab.async false
set_option linter.all false
set_option maxRecDepth 100000
namespace L3
open PySem PySem.Spec L2
open PyProof.Rows hiding St

/-! ### a def's promise, where no repr is under way -/
structure FnG (P : Program) (w : World) (K : PySem.W.Frag) (mg : Str → Option Value) (base : Heap) (CX : CXT) (k : Nat) (f : Addr) (fd : FuncData) (ps : List Str) (sp : Sp) : Prop where
  len : ∀ vs H Q E, sp vs H Q E → vs.length = ps.length
  run : ∀ (A : Around) (outer : List Env) (s : Shared) (H : Hp) (args : Args) (us : List Value) (vs : List V) (Q : VK) (E : XK),
    Room k A → A.guards = some [] → Env0 P w K mg base A outer s H → BindsTo s fd args (ps.zip us) → Vals vs us → sp vs H Q E →
    codeAny (model P w) A (.call (.ref f) args) (CR CX outer P w H s Q E) s
theorem guards_deeper {A : Around} {env : Env} (h : A.guards = some []) : (A.deeper env).guards = some [] := h
section
variable {P : Program} {w : World} {K : PySem.W.Frag} {mg : Str → Option Value} {base : Heap} {CX : CXT}
theorem FnG.mono {j k : Nat} {f : Addr} {fd : FuncData} {ps : List Str} {sp : Sp} (F : FnG P w K mg base CX j f fd ps sp) (h : j ≤ k) : FnG P w K mg base CX k f fd ps sp :=
  ⟨F.len, fun A o s H a us vs Q E r => F.run A o s H a us vs Q E (r.mono h)⟩
theorem FnG.imp {k : Nat} {f : Addr} {fd : FuncData} {ps : List Str} {sp sp' : Sp} (F : FnG P w K mg base CX k f fd ps sp) (h : ∀ vs H Q E, sp' vs H Q E → sp vs H Q E) : FnG P w K mg base CX k f fd ps sp' :=
  ⟨fun vs H Q E q => F.len vs H Q E (h _ _ _ _ q), fun A o s H a us vs Q E r g e b v q => F.run A o s H a us vs Q E r g e b v (h _ _ _ _ q)⟩
/-- a def by its body -/
theorem fn_G {k : Nat} {f : Addr} {nm ql : Str} {pa : Arguments} {bd : List Stmt} {sc : Scope} {dV kV dc pm cv ct oc : Value} {an od : Option Addr} {sl : Array (Option Value)} {N ps : List Str} {sp : Sp}
    (lk : K.lookup f = some ⟨oc, od, .func (PySem.W.fnOf nm ql pa bd sc dV kV dc pm an cv ct), sl⟩) (hc : PySem.W.codeIn K cv ql = true) (S : FnScope N ps sc)
    (len : ∀ vs H Q E, sp vs H Q E → vs.length = ps.length)
    (hb : ∀ (A : Around) (outer : List Env) (s : Shared) (H : Hp) (vs : List V) (Q : VK) (E : XK), A.guards = some [] → Room k (A.deeper (envOfC ql sc s.heap.objs.size f cv)) → sp vs H Q E →
      ∃ t, PSs (cxOf CX P w K mg base N ql sc f cv A outer s H E) bd t ∧ t { nx := fun _ H' => Q .non H', rt := Q } (start N vs) H) :
    FnG P w K mg base CX (k + 1) f (PySem.W.fnOf nm ql pa bd sc dV kV dc pm an cv ct) ps sp := by
  constructor
  · exact len
  intro A outer s H args us vs Q E hr hg e0 bt rv hs
  have there := fun b o e => (e0.bs b o e).1
  have kin := e0.mod.kin.keeps there
  refine codeAny_call_function hr.depth (kin _ _ lk) rfl S.co S.gen rfl (PySem.W.codeRec_of kin hc) (bt _ _ _ _ ?_)
  have kinds : ∀ y ∈ ps.zip us, sc.names.lookup y.1 = some .local ∨ (sc.names.lookup y.1 = some .cell ∧ ((cellsFrom (s.heap.objs.size + 1) sc.names []).lookup y.1).isSome = true) := by
    rintro ⟨n, v⟩ hy
    cases S.par n (List.of_mem_zip hy).1 with
    | inl q => exact .inl q
    | inr q => exact .inr ⟨q, PySem.W.cellsFrom_some _ _ _ (.inl q)⟩
  refine wpAny_newFunctionEnv_cells S.kind kinds fun env he s1 x => ?_
  subst he
  have nolim := e0.mod.nolimit.keeps there
  refine ⟨nolim.keeps x.toInCall.keep, codeAny_func ?_⟩
  obtain ⟨t, ht, hq⟩ := hb A outer s H vs Q E hg (hr.deeper _) hs
  have I := inv_start (CX := CX) (w := w) (E := E) (N := N) S hr.hd e0 (len _ _ _ _ hs) rv x
  refine wpAny_mono (ht.run [] s1 _ H _ I hq) (fun fl s' o => ?_) fun _ _ o => o
  cases fl with
  | next =>
    obtain ⟨σ', H', J, q⟩ := o
    exact ⟨.non, H', J.os, J.bare, J.base, J.hok, rfl, q⟩
  | ret u =>
    obtain ⟨v, σ', H', J, r', q⟩ := o
    exact ⟨v, H', J.os, J.bare, J.base, J.hok, r', q⟩
  | brk =>
    obtain ⟨_, _, _, q⟩ := o
    exact (show False from q).elim
  | cont =>
    obtain ⟨_, _, _, q⟩ := o
    exact (show False from q).elim
end

/-! ### the lifted promise -/
/-- arguments, changeable objects, what is wanted, what is wanted of an exception -/
abbrev SP3 := List D → GH → K3 → X3 → Prop
def sp3 (K : PySem.W.Frag) (n : Nat) (S : SP3) : Sp := fun vs H Q E => ∃ ds G R Ex, ds.length = n ∧ RepL K H G ds vs ∧ RG K H G ∧ S ds G R Ex ∧ FinE K H G R Q ∧ FinX K (fun c d _ H => E c d H) H G Ex
/-- a def of the module, as its callers see it -/
structure Good (P : Program) (w : World) (K : PySem.W.Frag) (mg : Str → Option Value) (base : Heap) (nm : Str) (ps : List Str) (k : Nat) (S : SP3) : Prop where
  ex : ∃ f fd, mg nm = some (.ref f) ∧ PySem.W.keepIn K (.ref f) = true ∧ Binds K fd ps [] ∧ FnG P w K mg base (L2.CX P w) k f fd ps (sp3 K ps.length S)
section
variable {P : Program} {w : World} {K : PySem.W.Frag} {mg : Str → Option Value} {base : Heap}
theorem Good.mono {nm : Str} {ps : List Str} {j k : Nat} {S : SP3} (g : Good P w K mg base nm ps j S) (h : j ≤ k) : Good P w K mg base nm ps k S :=
  let ⟨f, fd, a, b, c, F⟩ := g.ex; ⟨f, fd, a, b, c, F.mono h⟩
theorem Good.imp {nm : Str} {ps : List Str} {k : Nat} {S S' : SP3} (g : Good P w K mg base nm ps k S) (h : ∀ ds G R Ex, S' ds G R Ex → S ds G R Ex) : Good P w K mg base nm ps k S' :=
  let ⟨f, fd, a, b, c, F⟩ := g.ex; ⟨f, fd, a, b, c, F.imp fun _ _ _ _ ⟨ds, G, R, Ex, q1, q2, q3, q4, q5⟩ => ⟨ds, G, R, Ex, q1, q2, q3, h _ _ _ _ q4, q5⟩⟩
/-- what of the text a def of the module needs -/
structure DefAt (K : PySem.W.Frag) (mg : Str → Option Value) (nm : Str) (st : Stmt) (ps : List Str) : Prop where
  ex : ∃ f fd, mg nm = some (.ref f) ∧ Fun K nm nm st f fd ∧ Binds K fd ps []
def start3 (N : List Str) (ds : List D) : Env3 := ds.map some ++ List.replicate (N.length - ds.length) none
/-- the context of a def's body -/
abbrev cx3 (P : Program) (w : World) (K : PySem.W.Frag) (mg : Str → Option Value) (base : Heap) (N : List Str) (nm : Str) (sc : Scope) (f : Addr) (cd : Value) (A : Around) (outer : List Env) (s : Shared) (H : Hp) (E : XK) : Cx :=
  cxOf (L2.CX P w) P w K mg base N nm sc f cd A outer s H E
abbrev WEx (E : XK) : WX := fun c d _ H => E c d H
theorem good_of {nm : Str} {st : Stmt} {N ps : List Str} {k : Nat} {S : SP3} (d : DefAt K mg nm st ps) (sc : FnScope N ps (defScope st))
    (hb : ∀ (f : Addr) (cd : Value) (A : Around) (outer : List Env) (s : Shared) (H : Hp) (E : XK),
      PassesOwn (model P w) (cx3 P w K mg base N nm (defScope st) f cd A outer s H E).A (cx3 P w K mg base N nm (defScope st) f cd A outer s H E).env (cx3 P w K mg base N nm (defScope st) f cd A outer s H E).xe →
      Takes (cx3 P w K mg base N nm (defScope st) f cd A outer s H E) (WEx E) → (cx3 P w K mg base N nm (defScope st) f cd A outer s H E).A.guards = some [] → Room k (cx3 P w K mg base N nm (defScope st) f cd A outer s H E).A →
      ∃ u : S3, PSs (cx3 P w K mg base N nm (defScope st) f cd A outer s H E) (defBody st) (upS K (WEx E) u) ∧ ∀ ds G R Ex, ds.length = ps.length → S ds G R Ex → u { nx := fun _ G => R .non G, rt := R, ex := Ex } (start3 N ds) G) :
    Good P w K mg base nm ps (k + 1) S := by
  obtain ⟨f, fd, hm, F, hbd⟩ := d.ex
  have kp := F.kp
  obtain ⟨oc, od, kV, doc, pm, an, cdv, ct, osl, rfl, lk, hcd⟩ := F.ex
  have hlen : ∀ vs H Q E, sp3 K ps.length S vs H Q E → vs.length = ps.length := fun vs H Q E ⟨ds, G, R, Ex, h1, h2, _⟩ => h2.length.trans h1
  refine ⟨f, _, hm, kp, hbd, fn_G lk hcd sc hlen fun A outer s H vs Q E hg hr hs => ?_⟩
  obtain ⟨u, hu, hw⟩ := hb f cdv A outer s H E (passes_of rfl) (takes_of rfl rfl rfl rfl) hg hr
  refine ⟨_, hu, ?_⟩
  obtain ⟨ds, G, R, Ex, h1, h2, h3, h4, h5, h6⟩ := hs
  refine ⟨start3 N ds, G, _, ?_, h3, hw ds G R Ex h1 h4, ⟨fun env σ G' H' e re rg q => h5 .non .non G' H' e rfl rg q, h5, fun _ _ _ _ _ _ _ z => z.elim, fun _ _ _ _ _ _ _ z => z.elim, h6⟩⟩
  unfold start3 L2.start
  rw [h2.length]
  exact REnv.start h2 (REnv.nones _)
end

/-! ### calls -/
def wCall (n : Nat) (S : SP3) (ar : A3) : W3 := fun env G R Ex => ar env G (fun ds G1 => ds.length = n ∧ S ds G1 R (fun c f _ G' => Ex c f env G')) Ex
section
variable {X : Cx} {W : WX} {k : Nat} {x : Str} {ps : List Str} {S : SP3} {p pos : Pos} {e : Expr} {es : List Expr} {ar : A3} {we : W3}
theorem a_nil : PA X [] (upA X.K W aNil) := PA.imp pa_nil fun σ H Q ⟨env, G, R, Ex, re, rg, h, fe, fx⟩ => fe [] [] G H .refl rfl rg h
theorem a_cons (ha : PE X e (up X.K W we)) (hr : PA X es (upA X.K W ar)) (hs : starEach (e :: es) X.env = (false, eval e X.env) :: starEach es X.env := by rfl) : PA X (e :: es) (upA X.K W (aCons we ar)) :=
  PA.imp (pa_cons ha hr hs) fun σ H Q ⟨env, G, R, Ex, re, rg, h, fe, fx⟩ => by
    refine up_go re rg h fx fun x a G1 H1 e1 rx rg1 h1 => ?_
    refine upA_go (re.ext e1) rg1 h1 (fx.ext e1) fun xs vs G2 H2 e2 rs rg2 h2 => ?_
    exact fe (x :: xs) (a :: vs) G2 H2 (e1.trans e2) ⟨a, vs, rfl, rx.ext e2, rs⟩ rg2 h2
/-- f(e, ..), f a def of the module -/
theorem c_call (F : Good X.prog X.w X.K X.mg X.base x ps k S) (hr : Room k X.A) (hgd : X.A.guards = some []) (tk : Takes X W) (ha : PA X (e :: es) (upA X.K W ar)) (hg : Gl X x := by rfl)
    (hdb : (x == ("__debug__" : Str)) = false := by decide) (he : starEach (e :: es) X.env = (false, eval e X.env) :: starEach es X.env := by rfl) (hpl : (backTo pos (starEach es X.env)).any (·.1) = false := by rfl) :
    PE X (.Call (.Name x p) (e :: es) [] pos) (up X.K W (wCall ps.length S ar)) := by
  obtain ⟨f, fd, hm, hk, hb, FG⟩ := F.ex
  refine ⟨fun pins s σ H Q I h => ?_⟩
  obtain ⟨env, G, R, Ex, re, rg, h, fe, fx⟩ := h
  refine wpAny_Call_Name_kw (ld_glob I hg hm ?_ hdb)
  refine PySem.W.callWith_K (h₀ := X.base) I.ok.mod.kin hk (thn (ha.run pos pins s σ H _ I (upA_go re rg h fx (Q := fun vs H1 => sp3 X.K ps.length S vs H1 Q (WE W σ)) fun ds vs G1 H1 e1 rd rg1 h1 => ?_)) fun us s1 ⟨vs, H1, I1, r, q⟩ => ⟨I1.kIn, ?_⟩) he hpl
  · exact ⟨ds, G1, R, _, h1.1, rd, rg1, h1.2, fe.ext e1, fun c fs d env' σ' G2 H2 e2 re2 rg2 rx ex => fx c fs d env σ G2 H2 (e1.trans e2) (re.ext (e1.trans e2)) rg2 rx ex⟩
  · have hl : us.length = ps.length := by rw [← r.length]; exact FG.len _ _ _ _ q
    have b := hb s1 us I1.kIn (by rw [List.append_nil]; exact hl)
    rw [List.append_nil] at b
    refine wpAny_call (codeAny_mono (FG.run X.A X.stack s1 H1 ⟨us, []⟩ us vs Q (WE W σ) hr hgd I1.env0 b r q) fun r s' hq => ?_)
    cases r with
    | error e => exact passAt tk σ pins H1 s1 e s' I1 hq
    | ok fl =>
      cases fl with
      | ret u => exact I1.after hq
      | next => exact False.elim hq
      | brk => exact False.elim hq
      | cont => exact False.elim hq
/-- built-in functions and types by name -/
theorem c_callB {id : String} {r : List V → Hp → VK → Prop} {f : FA} (hc : CallR X (.builtin id) r) (hl : LiftC X.K r f) (hm : X.mg x = none) (ha : PA X (e :: es) (upA X.K W ar)) (hv : bootBuiltins x = some (.builtin id) := by decide +kernel) (hg : Gl X x := by rfl)
    (hn : x ≠ "__name__" := by decide) (hdb : (x == ("__debug__" : Str)) = false := by decide) (he : starEach (e :: es) X.env = (false, eval e X.env) :: starEach es X.env := by rfl) (hpl : (backTo pos (starEach es X.env)).any (·.1) = false := by rfl) :
    PE X (.Call (.Name x p) (e :: es) [] pos) (up X.K W (wA f ar)) := PE.imp (pe_callB hc hg hm hv ha hn hdb he hpl) fun _ _ _ h => up_A hl h
theorem c_callT {id : String} {r : List V → Hp → VK → Prop} {f : FA} (hc : CallR X (.type id) r) (hl : LiftC X.K r f) (hm : X.mg x = none) (ha : PA X (e :: es) (upA X.K W ar)) (hv : bootBuiltins x = some (.type id) := by decide +kernel) (hg : Gl X x := by rfl)
    (hn : x ≠ "__name__" := by decide) (hdb : (x == ("__debug__" : Str)) = false := by decide) (he : starEach (e :: es) X.env = (false, eval e X.env) :: starEach es X.env := by rfl) (hpl : (backTo pos (starEach es X.env)).any (·.1) = false := by rfl) :
    PE X (.Call (.Name x p) (e :: es) [] pos) (up X.K W (wA f ar)) := PE.imp (pe_callTy hc hg hm hv ha hn hdb he hpl) fun _ _ _ h => up_A hl h
end

/-! ### displays -/
def wTup (ar : A3) : W3 := fun env G R Ex => ar env G (fun ds G1 => ds.length ≤ sizeLine ∧ R (.tup ds) G1) Ex
def wLst (ar : A3) : W3 := fun env G R Ex => ar env G (fun ds G1 => ds.length ≤ sizeLine ∧ R (.lst ds) G1) Ex
/-- a new list that will be changed -/
def wLstO (ar : A3) : W3 := fun env G R Ex => ar env G (fun ds G1 => ds.length ≤ sizeLine ∧ ∀ p, G1 p = none → R (.ref p) (gset G1 p (.lst ds))) Ex
section
variable {K : PySem.W.Frag} {H : Hp} {G : GH} {vs : List V} {ds : List D} {R : K3} {Q : VK}
theorem fin_tup (r : RepL K H G ds vs) (g : RG K H G) (f : FinE K H G R Q) (h : R (.tup ds) G) : ∀ p, H p = none → Q (.ref p) (upd H p (.tup vs)) := fun p hp =>
  f (.tup ds) _ G _ (.alloc hp (g.fresh hp)) ⟨p, vs, rfl, .inl ⟨g.fresh hp, .inl upd_same⟩, RepL.ext (.alloc hp (g.fresh hp)) ds r⟩ (g.alloc hp) h
theorem fin_lst (r : RepL K H G ds vs) (g : RG K H G) (f : FinE K H G R Q) (h : R (.lst ds) G) : ∀ p, H p = none → Q (.ref p) (upd H p (.lst vs)) := fun p hp =>
  f (.lst ds) _ G _ (.alloc hp (g.fresh hp)) ⟨p, vs, rfl, g.fresh hp, upd_same, RepL.ext (.alloc hp (g.fresh hp)) ds r⟩ (g.alloc hp) h
theorem fin_lstO (r : RepL K H G ds vs) (g : RG K H G) (f : FinE K H G R Q) (h : ∀ p, G p = none → R (.ref p) (gset G p (.lst ds))) : ∀ p, H p = none → Q (.ref p) (upd H p (.lst vs)) := fun p hp =>
  f (.ref p) _ _ _ (.allocG hp) rfl (g.allocG (go := .lst ds) hp ⟨vs, upd_same, RepL.ext (.allocG hp) ds r⟩) (h p (g.fresh hp))
end
section
variable {X : Cx} {W : WX} {es : List Expr} {ar : A3} {pos : Pos}
theorem c_tup {k : Nat} (h : PA X es (upA X.K W ar)) : PE X (.Tuple es k pos) (up X.K W (wTup ar)) := PE.imp (pe_tup h) fun σ H Q ⟨env, G, R, Ex, re, rg, h, fe, fx⟩ => by
  refine upA_go re rg h fx fun ds vs G1 H1 e1 rd rg1 h1 => ?_
  exact ⟨by rw [rd.length]; exact h1.1, fin_tup rd rg1 (fe.ext e1) h1.2⟩
theorem c_lst (h : PA X es (upA X.K W ar)) : PE X (.List es pos) (up X.K W (wLst ar)) := PE.imp (pe_lst h) fun σ H Q ⟨env, G, R, Ex, re, rg, h, fe, fx⟩ => by
  refine upA_go re rg h fx fun ds vs G1 H1 e1 rd rg1 h1 => ?_
  exact ⟨by rw [rd.length]; exact h1.1, fin_lst rd rg1 (fe.ext e1) h1.2⟩
theorem c_lstO (h : PA X es (upA X.K W ar)) : PE X (.List es pos) (up X.K W (wLstO ar)) := PE.imp (pe_lst h) fun σ H Q ⟨env, G, R, Ex, re, rg, h, fe, fx⟩ => by
  refine upA_go re rg h fx fun ds vs G1 H1 e1 rd rg1 h1 => ?_
  exact ⟨by rw [rd.length]; exact h1.1, fin_lstO rd rg1 (fe.ext e1) h1.2⟩
end

/-! ### and, or, not, if -/
def wAnd (a b : W3) : W3 := fun env G R Ex => a env G (fun x G1 => ∃ c, x = .bl c ∧ if c = true then b env G1 R Ex else R (.bl false) G1) Ex
def wOr (a b : W3) : W3 := fun env G R Ex => a env G (fun x G1 => ∃ c, x = .bl c ∧ if c = true then R (.bl true) G1 else b env G1 R Ex) Ex
def wNot (a : W3) : W3 := fun env G R Ex => a env G (fun x G1 => ∃ c, x = .bl c ∧ R (.bl (!c)) G1) Ex
def tAnd3 (a b : T3) : T3 := fun env G R Ex => a env G (fun c G1 => if c = true then b env G1 R Ex else R false G1) Ex
def tOr3 (a b : T3) : T3 := fun env G R Ex => a env G (fun c G1 => if c = true then R true G1 else b env G1 R Ex) Ex
def tNot3 (a : T3) : T3 := fun env G R Ex => a env G (fun c G1 => R (!c) G1) Ex
def wIf (t : T3) (a b : W3) : W3 := fun env G R Ex => t env G (fun c G1 => if c = true then a env G1 R Ex else b env G1 R Ex) Ex
section
variable {X : Cx} {W : WX} {a b c : Expr} {rest : List Expr} {wa wb : W3} {ta tb : T3} {pos : Pos}
theorem c_one {op} (h : PE X a (up X.K W wa)) : PE X (.BoolOp op [a] pos) (up X.K W wa) := pe_one h
theorem c_and (ha : PE X a (up X.K W wa)) (hb : PE X (.BoolOp .And (b :: rest) pos) (up X.K W wb)) : PE X (.BoolOp .And (a :: b :: rest) pos) (up X.K W (wAnd wa wb)) :=
  PE.imp (pe_and ha hb) fun σ H Q ⟨env, G, R, Ex, re, rg, h, fe, fx⟩ => by
    refine up_go re rg h fx fun x v G1 H1 e1 rx rg1 h1 => ?_
    obtain ⟨c, rfl, h1⟩ := h1
    refine ⟨c, rx, ?_⟩
    cases c with
    | true => exact up_go (re.ext e1) rg1 h1 (fx.ext e1) (fe.ext e1)
    | false => exact fe (.bl false) _ G1 H1 e1 rfl rg1 h1
theorem c_or (ha : PE X a (up X.K W wa)) (hb : PE X (.BoolOp .Or (b :: rest) pos) (up X.K W wb)) : PE X (.BoolOp .Or (a :: b :: rest) pos) (up X.K W (wOr wa wb)) :=
  PE.imp (pe_or ha hb) fun σ H Q ⟨env, G, R, Ex, re, rg, h, fe, fx⟩ => by
    refine up_go re rg h fx fun x v G1 H1 e1 rx rg1 h1 => ?_
    obtain ⟨c, rfl, h1⟩ := h1
    refine ⟨c, rx, ?_⟩
    cases c with
    | false => exact up_go (re.ext e1) rg1 h1 (fx.ext e1) (fe.ext e1)
    | true => exact fe (.bl true) _ G1 H1 e1 rfl rg1 h1
theorem c_not (ha : PE X a (up X.K W wa)) : PE X (.UnaryOp .Not a pos) (up X.K W (wNot wa)) :=
  PE.imp (pe_not ha) fun σ H Q ⟨env, G, R, Ex, re, rg, h, fe, fx⟩ => by
    refine up_go re rg h fx fun x v G1 H1 e1 rx rg1 h1 => ?_
    obtain ⟨c, rfl, h1⟩ := h1
    exact ⟨c, rx, fe (.bl (!c)) _ G1 H1 e1 rfl rg1 h1⟩
theorem PW.imp {e : Expr} {t t' : TT} (h : PW X e t) (f : ∀ σ H Q, t' σ H Q → t σ H Q) : PW X e t' := ⟨fun wh pins s σ H Q I q => h.run wh pins s σ H Q I (f _ _ _ q)⟩
theorem o_and1 (ha : PT X a (upT X.K W ta)) : PW X (.BoolOp .And [a] pos) (upT X.K W ta) := pw_and1 ha
theorem o_or1 (ha : PT X a (upT X.K W ta)) : PW X (.BoolOp .Or [a] pos) (upT X.K W ta) := pw_or1 ha
theorem o_and (ha : PT X a (upT X.K W ta)) (hb : PW X (.BoolOp .And (b :: rest) pos) (upT X.K W tb)) : PW X (.BoolOp .And (a :: b :: rest) pos) (upT X.K W (tAnd3 ta tb)) :=
  PW.imp (pw_and ha hb) fun σ H Q ⟨env, G, R, Ex, re, rg, h, fe, fx⟩ => by
    refine upT_go re rg h fx fun c G1 H1 e1 rg1 h1 => ?_
    cases c with
    | true => exact upT_go (re.ext e1) rg1 h1 (fx.ext e1) (fe.ext e1)
    | false => exact fe false G1 H1 e1 rg1 h1
theorem o_or (ha : PT X a (upT X.K W ta)) (hb : PW X (.BoolOp .Or (b :: rest) pos) (upT X.K W tb)) : PW X (.BoolOp .Or (a :: b :: rest) pos) (upT X.K W (tOr3 ta tb)) :=
  PW.imp (pw_or ha hb) fun σ H Q ⟨env, G, R, Ex, re, rg, h, fe, fx⟩ => by
    refine upT_go re rg h fx fun c G1 H1 e1 rg1 h1 => ?_
    cases c with
    | false => exact upT_go (re.ext e1) rg1 h1 (fx.ext e1) (fe.ext e1)
    | true => exact fe true G1 H1 e1 rg1 h1
theorem t_w {e : Expr} (h : PW X e (upT X.K W ta)) : PT X e (upT X.K W ta) := h.pt
theorem t_not (ha : PT X a (upT X.K W ta)) : PT X (.UnaryOp .Not a pos) (upT X.K W (tNot3 ta)) :=
  PT.imp (pt_not ha) fun σ H Q ⟨env, G, R, Ex, re, rg, h, fe, fx⟩ => by
    refine upT_go re rg h fx fun c G1 H1 e1 rg1 h1 => ?_
    exact fe (!c) G1 H1 e1 rg1 h1
theorem c_if (hc : PT X c (upT X.K W ta)) (ha : PE X a (up X.K W wa)) (hb : PE X b (up X.K W wb)) : PE X (.IfExp c a b pos) (up X.K W (wIf ta wa wb)) :=
  PE.imp (pe_ifExp hc ha hb) fun σ H Q ⟨env, G, R, Ex, re, rg, h, fe, fx⟩ => by
    refine upT_go re rg h fx fun c G1 H1 e1 rg1 h1 => ?_
    cases c with
    | true => exact up_go (re.ext e1) rg1 h1 (fx.ext e1) (fe.ext e1)
    | false => exact up_go (re.ext e1) rg1 h1 (fx.ext e1) (fe.ext e1)
/-- a value by its truth -/
def truth (G : GH) : D → Option Bool
  | .non => some false
  | .bl b => some b
  | .int i => some (i != 0)
  | d => match asS G d with
    | some xs => some (!xs.isEmpty)
    | none => none
end

/-! ### subscripts, slices -/
def fIx : F2 := fun x y G R => match y with
  | .int i => match x with
    | .str z => ∃ c, z.length ≤ sizeLine ∧ L2.atI z.cps.toList i = some c ∧ R (.str ⟨#[c]⟩) G
    | x => ∃ xs d, asS G x = some xs ∧ atD xs i = some d ∧ R d G
  | _ => False
theorem lift_ix {K : PySem.W.Frag} : Lift2 K (rIx K) fIx := by
  intro x y a b H G R Q rx ry rg h fe
  cases y with
  | int i =>
    obtain rfl : b = V.int i := ry
    have go : (∃ xs d, asS G x = some xs ∧ atD xs i = some d ∧ R d G) → rIx K a (.int i) H Q := by
      rintro ⟨xs, d, h1, h2, h3⟩
      obtain ⟨p, vs, rfl, sq, rl⟩ := asS_at rx rg h1
      obtain ⟨v, h4, h5⟩ := rl.atI h2
      rcases sq with sq | sq
      · exact .inl ⟨p, vs, i, v, rfl, rfl, sq, h4, fe d v G H .refl h5 rg h3⟩
      · exact .inr (.inl ⟨p, vs, i, v, rfl, rfl, sq, h4, fe d v G H .refl h5 rg h3⟩)
    cases x with
    | str z =>
      obtain ⟨c, h1, h2, h3⟩ := h
      obtain rfl : a = V.str z := rx
      exact .inr (.inr ⟨z, i, c, rfl, rfl, h1, h2, fe (.str ⟨#[c]⟩) _ G H .refl rfl rg h3⟩)
    | _ => exact go h
  | _ => exact False.elim h
abbrev P3 := Env3 → GH → (Option Int → GH → Prop) → X3 → Prop
def pNone : P3 := fun _ G R _ => R none G
def pSome (w : W3) : P3 := fun env G R Ex => w env G (fun d G1 => ∃ i, d = .int i ∧ R (some i) G1) Ex
def upP (K : PySem.W.Frag) (W : WX) (w : P3) : St → Hp → (Option Int → Hp → Prop) → Prop := fun σ H Q => ∃ env G R Ex, REnv K H G env σ ∧ RG K H G ∧ w env G R Ex ∧ (∀ o G' H', Ext G H G' H' → RG K H' G' → R o G' → Q o H') ∧ FinX K W H G Ex
abbrev FSl := D → Option Int → Option Int → GH → K3 → Prop
def fSl : FSl := fun x lo hi G R => match x with
  | .str z => z.length ≤ sizeLine ∧ R (.str (cutS z lo hi)) G
  | .tup xs => R (.tup (cutD xs lo hi)) G
  | x => ∃ xs, asL G x = some xs ∧ R (.lst (cutD xs lo hi)) G
def wSl (f : FSl) (a : W3) (l h : P3) : W3 := fun env G R Ex => a env G (fun x G1 => l env G1 (fun lo G2 => h env G2 (fun hi G3 => f x lo hi G3 R) Ex) Ex) Ex
section
variable {X : Cx} {W : WX} {a b : Expr} {wa wb : W3} {lo hi : Option Expr} {pl ph : P3} {pos p2 : Pos}
theorem PO.imp {e : Option Expr} {t t' : St → Hp → (Option Int → Hp → Prop) → Prop} (h : PO X e t) (f : ∀ σ H Q, t' σ H Q → t σ H Q) : PO X e t' := ⟨fun pins s σ H Q I q => h.run pins s σ H Q I (f _ _ _ q)⟩
theorem p_none : PO X none (upP X.K W pNone) := PO.imp po_none fun σ H Q ⟨env, G, R, Ex, re, rg, h, fe, fx⟩ => fe none G H .refl rg h
theorem p_some {e : Expr} (h : PE X e (up X.K W wa)) : PO X (some e) (upP X.K W (pSome wa)) := PO.imp (po_some h) fun σ H Q ⟨env, G, R, Ex, re, rg, h, fe, fx⟩ => by
  refine up_go re rg h fx fun x v G1 H1 e1 rx rg1 h1 => ?_
  obtain ⟨i, rfl, h1⟩ := h1
  exact ⟨i, rx, fe (some i) G1 H1 e1 rg1 h1⟩
theorem c_ix (ha : PE X a (up X.K W wa)) (hb : PE X b (up X.K W wb)) (hs : PlainIx b := by exact fun _ _ => rfl) : PE X (.Subscript a b pos) (up X.K W (w2 fIx wa wb)) :=
  PE.imp (pe_ix ix_seq ha hb hs) fun _ _ _ h => up_2 lift_ix h
def rSl3 (K : PySem.W.Frag) : V → Option Int → Option Int → Hp → VK → Prop := fun x lo hi H Q => rSlS x lo hi H Q ∨ rSlA K x lo hi H Q ∨ rSlL K x lo hi H Q
theorem sl_3 : SlR X (rSl3 X.K) := SlR.or sl_str (SlR.or sl_tupA sl_list)
theorem cut_all {xs : List V} {lo hi : Option Int} (h : HT.sIx xs.length 0 lo = 0 ∧ HT.sIx xs.length xs.length hi = xs.length) : cutV xs lo hi = xs := by
  unfold cutV
  rw [h.1, h.2, List.drop_zero, Nat.sub_zero, List.take_length]
theorem RepL.eq_len {K : PySem.W.Frag} {H : Hp} {G : GH} {ds : List D} {vs : List V} (r : RepL K H G ds vs) (lo hi : Option Int) (h : HT.sIx vs.length 0 lo = 0 ∧ HT.sIx vs.length vs.length hi = vs.length) : cutD ds lo hi = ds := by
  rw [r.length] at h
  unfold cutD
  rw [h.1, h.2, List.drop_zero, Nat.sub_zero, List.take_length]
theorem c_slice (ha : PE X a (up X.K W wa)) (hl : PO X lo (upP X.K W pl)) (hh : PO X hi (upP X.K W ph)) : PE X (.Subscript a (.Slice lo hi none p2) pos) (up X.K W (wSl fSl wa pl ph)) :=
  PE.imp (pe_slice sl_3 ha hl hh) fun σ H Q ⟨env, G, R, Ex, re, rg, h, fe, fx⟩ => by
    refine up_go re rg h fx fun x v G1 H1 e1 rx rg1 h1 => ?_
    refine ⟨env, G1, _, Ex, re.ext e1, rg1, h1, fun l G2 H2 e2 rg2 h2 => ?_, fx.ext e1⟩
    refine ⟨env, G2, _, Ex, (re.ext e1).ext e2, rg2, h2, fun u G3 H3 e3 rg3 h3 => ?_, (fx.ext e1).ext e2⟩
    have rx3 := (rx.ext e2).ext e3
    have fe3 := fe.ext ((e1.trans e2).trans e3)
    have lst : (∃ xs, asL G3 x = some xs ∧ R (.lst (cutD xs l u)) G3) → rSl3 X.K v l u H3 Q := by
      rintro ⟨xs, q1, q2⟩
      obtain ⟨p, vs, rfl, sq, rl⟩ := asL_at rx3 rg3 q1
      exact .inr (.inr ⟨p, vs, rfl, sq, fin_lst (rl.cut l u) rg3 fe3 q2⟩)
    cases x with
    | str z =>
      obtain ⟨q1, q2⟩ := h3
      obtain rfl : v = V.str z := rx3
      exact .inl ⟨z, rfl, q1, fe3 (.str (cutS z l u)) _ G3 H3 .refl rfl rg3 q2⟩
    | tup xs =>
      obtain ⟨p, vs, rfl, sq, rl⟩ := rx3
      refine .inr (.inl ⟨p, vs, rfl, sq.sq, fun q => ?_, fun _ => fin_tup (rl.cut l u) rg3 fe3 h3⟩)
      have h3' : R (.tup (cutD xs l u)) G3 := h3
      rw [rl.eq_len l u q] at h3'
      exact fe3 (.tup xs) _ G3 H3 .refl ⟨p, vs, rfl, sq, rl⟩ rg3 h3'
    | _ => exact lst h3
end
end L3

set_option Elab.async false
set_option linter.all false
set_option maxRecDepth 100000
namespace L3
open PySem PySem.Spec L2
open PyProof.Rows hiding St

/-! ### intsD -/
def fI2 (g : Int → Int → D) : F2 := fun x y G R => match x, y with
  | .int i, .int j => R (g i j) G
  | _, _ => False
def fI2C (C : Int → Int → Prop) (g : Int → Int → D) : F2 := fun x y G R => match x, y with
  | .int i, .int j => C i j ∧ R (g i j) G
  | _, _ => False
def fI1 (g : Int → D) : F1 := fun x G R => match x with
  | .int i => R (g i) G
  | _ => False
section
variable {K : PySem.W.Frag}
theorem lift_I2i {g : Int → Int → Int} : Lift2 K (rI0 fun i j => .int (g i j)) (fI2 fun i j => .int (g i j)) := by
  intro x y a b H G R Q rx ry rg h fe
  cases x <;> cases y <;> simp only [fI2] at h
  exact ⟨_, _, rx, ry, fe (.int _) _ G H .refl rfl rg h⟩
theorem lift_I2b {g : Int → Int → Bool} : Lift2 K (rI0 fun i j => .bl (g i j)) (fI2 fun i j => .bl (g i j)) := by
  intro x y a b H G R Q rx ry rg h fe
  cases x <;> cases y <;> simp only [fI2] at h
  exact ⟨_, _, rx, ry, fe (.bl _) _ G H .refl rfl rg h⟩
theorem lift_I2C {C : Int → Int → Prop} {g : Int → Int → Int} : Lift2 K (rI C fun i j => .int (g i j)) (fI2C C fun i j => .int (g i j)) := by
  intro x y a b H G R Q rx ry rg h fe
  cases x <;> cases y <;> simp only [fI2C] at h
  exact ⟨_, _, rx, ry, h.1, fe (.int _) _ G H .refl rfl rg h.2⟩
theorem lift_I1 {g : Int → Int} : Lift1 K (rU fun i => .int (g i)) (fI1 fun i => .int (g i)) := by
  intro x a H G R Q rx rg h fe
  cases x <;> simp only [fI1] at h
  exact ⟨_, rx, fe (.int _) _ G H .refl rfl rg h⟩
end
/-- products: as the model has them -/
def MulC (i j : Int) : Prop := PySem.IntMulOk i j
theorem MulC.l {i j : Int} (h1 : -(2 ^ 64) < i) (h2 : i < 2 ^ 64) : MulC i j := CMul.ok (.inl ⟨h1, h2⟩)
theorem MulC.r {i j : Int} (h1 : -(2 ^ 64) < j) (h2 : j < 2 ^ 64) : MulC i j := CMul.ok (.inr ⟨h1, h2⟩)
theorem MulC.w {i j : Int} (h : i.natAbs.log2 + j.natAbs.log2 < 1000000) : MulC i j := CMulW.ok h
def DivC (i j : Int) : Prop := j ≠ 0 ∧ j.natAbs.log2 < 9000
theorem DivC.small {i j : Int} (h1 : 0 < j) (h2 : j < 2 ^ 64) : DivC i j := ⟨by omega, Nat.lt_of_lt_of_le ((Nat.log2_lt (by omega)).mpr (show j.natAbs < 2 ^ 64 by omega)) (by decide)⟩
section
variable {X : Cx}
theorem op_mulG : OpR X (binaryOp .Mult) (rI MulC fun i j => .int (i * j)) := opI fun _ _ _ _ _ _ _ hc q => PyProof.Rows.mul_int q hc
theorem op_fdivG : OpR X (binaryOp .FloorDiv) (rI DivC fun i j => .int (i.fdiv j)) := opI fun _ _ _ _ _ _ _ hc q => PyProof.Rows.floordiv_int hc.1 q (.inl (PyProof.noPylong_of_log2 hc.2))
theorem op_modG : OpR X (binaryOp .Mod) (rI (fun _ j => j ≠ 0) fun i j => .int (i.fmod j)) := op_modN
end

/-! ### + -/
def fAdd : F2 := fun x y G R => match x, y with
  | .int i, .int j => R (.int (i + j)) G
  | .str a, .str b => a.length + b.length ≤ sizeLine ∧ R (.str (a ++ b)) G
  | .tup xs, .tup ys => xs.length + ys.length ≤ sizeLine ∧ R (.tup (xs ++ ys)) G
  | x, y => ∃ xs ys, asL1 G x = some xs ∧ asL1 G y = some ys ∧ xs.length + ys.length ≤ sizeLine ∧ R (.lst (xs ++ ys)) G
/-- list + list, the sum to be changed later -/
def fAddO : F2 := fun x y G R => ∃ xs ys, asL1 G x = some xs ∧ asL1 G y = some ys ∧ xs.length + ys.length ≤ sizeLine ∧ ∀ p, G p = none → R (.ref p) (gset G p (.lst (xs ++ ys)))
def rAdd3 (K : PySem.W.Frag) : R2 := fun x y H Q => rI0 (fun i j => .int (i + j)) x y H Q ∨ (∃ i j, x = .str i ∧ y = .str j ∧ i.length + j.length ≤ sizeLine ∧ Q (.str (i ++ j)) H) ∨ rCatA K x y H Q ∨ rCat x y H Q
theorem op_add3 {X : Cx} : OpR X (binaryOp .Add) (rAdd3 X.K) := OpR.or op_add (OpR.or op_add_str (OpR.or op_catA op_cat))
theorem lift_add {K : PySem.W.Frag} : Lift2 K (rAdd3 K) fAdd := by
  intro x y a b H G R Q rx ry rg h fe
  have lst : (∃ xs ys, asL1 G x = some xs ∧ asL1 G y = some ys ∧ xs.length + ys.length ≤ sizeLine ∧ R (.lst (xs ++ ys)) G) → rAdd3 K a b H Q := by
    rintro ⟨xs, ys, h1, h2, h3, h4⟩
    obtain ⟨p, vs, rfl, e1, r1⟩ := asL1_at rx rg h1
    obtain ⟨q, us, rfl, e2, r2⟩ := asL1_at ry rg h2
    exact .inr (.inr (.inr ⟨p, q, vs, us, rfl, rfl, e1, e2, by rw [r1.length, r2.length]; exact h3, fin_lst (r1.append r2) rg fe h4⟩))
  cases x with
  | int i =>
    cases y with
    | int j => exact .inl ⟨_, _, rx, ry, fe (.int _) _ G H .refl rfl rg h⟩
    | _ => exact lst h
  | str i =>
    cases y with
    | str j => exact .inr (.inl ⟨_, _, rx, ry, h.1, fe (.str _) _ G H .refl rfl rg h.2⟩)
    | _ => exact lst h
  | tup xs =>
    cases y with
    | tup ys =>
      obtain ⟨p, vs, rfl, k1, r1⟩ := rx
      obtain ⟨q, us, rfl, k2, r2⟩ := ry
      refine .inr (.inr (.inl ⟨p, q, vs, us, rfl, rfl, k1.sq, k2.sq, by rw [r1.length, r2.length]; exact h.1, fun e => ?_, fun _ e => ?_, fun _ _ => fin_tup (r1.append r2) rg fe h.2⟩))
      · have ex : xs = [] := by
          have := r1.length
          rw [e] at this
          exact List.length_eq_zero_iff.mp this.symm
        subst ex
        exact fe (.tup ys) _ G H .refl ⟨q, us, rfl, k2, r2⟩ rg h.2
      · have ey : ys = [] := by
          have := r2.length
          rw [e] at this
          exact List.length_eq_zero_iff.mp this.symm
        subst ey
        have h2 := h.2
        rw [List.append_nil] at h2
        exact fe (.tup xs) _ G H .refl ⟨p, vs, rfl, k1, r1⟩ rg h2
    | _ => exact lst h
  | _ => exact lst h
theorem lift_addO {K : PySem.W.Frag} : Lift2 K rCat fAddO := by
  intro x y a b H G R Q rx ry rg ⟨xs, ys, h1, h2, h3, h4⟩ fe
  obtain ⟨p, vs, rfl, e1, r1⟩ := asL1_at rx rg h1
  obtain ⟨q, us, rfl, e2, r2⟩ := asL1_at ry rg h2
  exact ⟨p, q, vs, us, rfl, rfl, e1, e2, by rw [r1.length, r2.length]; exact h3, fin_lstO (r1.append r2) rg fe h4⟩
/-! ### * -/
def fMul : F2 := fun x y G R => match x, y with
  | .int i, .int j => MulC i j ∧ R (.int (i * j)) G
  | x, .int k => ∃ xs, asL1 G x = some xs ∧ -(2 ^ 63) ≤ k ∧ k < 2 ^ 63 ∧ xs.length * k.toNat ≤ sizeLine ∧ R (.lst (List.replicate k.toNat xs).flatten) G
  | _, _ => False
def fMulO : F2 := fun x y G R => match y with
  | .int k => ∃ xs, asL1 G x = some xs ∧ -(2 ^ 63) ≤ k ∧ k < 2 ^ 63 ∧ xs.length * k.toNat ≤ sizeLine ∧ ∀ p, G p = none → R (.ref p) (gset G p (.lst (List.replicate k.toNat xs).flatten))
  | _ => False
theorem RepL.reps {K : PySem.W.Frag} {H : Hp} {G : GH} {ds : List D} {vs : List V} (r : RepL K H G ds vs) : ∀ n : Nat, RepL K H G (List.replicate n ds).flatten (List.replicate n vs).flatten
  | 0 => rfl
  | n + 1 => by rw [List.replicate_succ, List.replicate_succ, List.flatten_cons, List.flatten_cons]; exact r.append (r.reps n)
def rMul3 : R2 := fun x y H Q => rI MulC (fun i j => .int (i * j)) x y H Q ∨ rRep x y H Q
theorem op_mul3 {X : Cx} : OpR X (binaryOp .Mult) rMul3 := OpR.or op_mulG op_rep
theorem lift_mul {K : PySem.W.Frag} : Lift2 K rMul3 fMul := by
  intro x y a b H G R Q rx ry rg h fe
  cases y with
  | int k =>
    have lst : (∃ xs, asL1 G x = some xs ∧ -(2 ^ 63) ≤ k ∧ k < 2 ^ 63 ∧ xs.length * k.toNat ≤ sizeLine ∧ R (.lst (List.replicate k.toNat xs).flatten) G) → rMul3 a b H Q := by
      rintro ⟨xs, h1, h2, h3, h4, h5⟩
      obtain ⟨p, vs, rfl, e1, r1⟩ := asL1_at rx rg h1
      exact .inr ⟨p, k, vs, rfl, ry, e1, h2, h3, by rw [r1.length]; exact h4, fin_lst (r1.reps _) rg fe h5⟩
    cases x with
    | int i => exact .inl ⟨_, _, rx, ry, h.1, fe (.int _) _ G H .refl rfl rg h.2⟩
    | _ => exact lst h
  | _ => cases x <;> exact False.elim h
theorem lift_mulO {K : PySem.W.Frag} : Lift2 K rRep fMulO := by
  intro x y a b H G R Q rx ry rg h fe
  cases y with
  | int k =>
    obtain ⟨xs, h1, h2, h3, h4, h5⟩ := h
    obtain ⟨p, vs, rfl, e1, r1⟩ := asL1_at rx rg h1
    exact ⟨p, k, vs, rfl, ry, e1, h2, h3, by rw [r1.length]; exact h4, fin_lstO (r1.reps _) rg fe h5⟩
  | _ => exact False.elim h

/-! ### ==, !=, is None, in -/
def fEq : F2 := fun x y G R => match x, y with
  | .str a, .str b => R (.bl (a == b)) G
  | x, y => okEq x = true ∧ okEq y = true ∧ R (.bl (eq3 x y)) G
def fNe : F2 := fun x y G R => match x, y with
  | .str a, .str b => R (.bl (!(a == b))) G
  | x, y => okEq x = true ∧ okEq y = true ∧ R (.bl (!eq3 x y)) G
def rEq3 (K : PySem.W.Frag) : R2 := fun x y H Q => rEq x y H Q ∨ rEqD K x y H Q
def rNe3 (K : PySem.W.Frag) : R2 := fun x y H Q => rNe x y H Q ∨ rNeD K x y H Q
theorem op_eq3 {X : Cx} (hu : X.A.units + 64 < cLine) : OpR X (compareOp .Eq) (rEq3 X.K) := OpR.or op_eq (op_eqD hu)
theorem op_ne3 {X : Cx} (hu : X.A.units + 64 < cLine) : OpR X (compareOp .NotEq) (rNe3 X.K) := OpR.or op_ne (op_neD hu)
theorem lift_eq {K : PySem.W.Frag} : Lift2 K (rEq3 K) fEq := by
  intro x y a b H G R Q rx ry rg h fe
  have gen : okEq x = true ∧ okEq y = true ∧ R (.bl (eq3 x y)) G → rEq3 K a b H Q := by
    rintro ⟨h1, h2, h3⟩
    unfold okEq at h1 h2
    rw [Bool.and_eq_true] at h1 h2
    exact .inr ⟨_, _, Dp_of x rx h1.1, Dp_of y ry h2.1, h1.2, h2.2, fe (.bl _) _ G H .refl rfl rg h3⟩
  cases x with
  | str i =>
    cases y with
    | str j =>
      obtain rfl : a = V.str i := rx
      obtain rfl : b = V.str j := ry
      exact .inl ⟨rfl, by rw [dec_str]; exact fe (.bl _) _ G H .refl rfl rg h⟩
    | _ => exact gen h
  | _ => exact gen h
theorem lift_ne {K : PySem.W.Frag} : Lift2 K (rNe3 K) fNe := by
  intro x y a b H G R Q rx ry rg h fe
  have gen : okEq x = true ∧ okEq y = true ∧ R (.bl (!eq3 x y)) G → rNe3 K a b H Q := by
    rintro ⟨h1, h2, h3⟩
    unfold okEq at h1 h2
    rw [Bool.and_eq_true] at h1 h2
    exact .inr ⟨_, _, Dp_of x rx h1.1, Dp_of y ry h2.1, h1.2, h2.2, fe (.bl _) _ G H .refl rfl rg h3⟩
  cases x with
  | str i =>
    cases y with
    | str j =>
      obtain rfl : a = V.str i := rx
      obtain rfl : b = V.str j := ry
      exact .inl ⟨rfl, by rw [dec_str]; exact fe (.bl _) _ G H .refl rfl rg h⟩
    | _ => exact gen h
  | _ => exact gen h
def isNon : D → Bool
  | .non => true
  | _ => false
def fIsN : F2 := fun x y G R => y = .non ∧ R (.bl (isNon x)) G
def fNotN : F2 := fun x y G R => y = .non ∧ R (.bl (!isNon x)) G
theorem isNon_V {K : PySem.W.Frag} {H : Hp} {G : GH} {x : D} {a : V} (r : Rep K H G x a) : decide (a = .non) = isNon x := by
  cases x with
  | non => rw [show a = .non from r]; rfl
  | bl _ => rw [show a = .bl _ from r]; rfl
  | int _ => rw [show a = .int _ from r]; rfl
  | str _ => rw [show a = .str _ from r]; rfl
  | ty _ => rw [show a = .ty _ from r]; rfl
  | ref _ => rw [show a = .ref _ from r]; rfl
  | tup _ => obtain ⟨p, vs, rfl, _⟩ := r; rfl
  | lst _ => obtain ⟨p, vs, rfl, _⟩ := r; rfl
  | lsx _ => obtain ⟨p, vs, rfl, _⟩ := r; rfl
  | dct _ _ => obtain ⟨p, vs, rfl, _⟩ := r; rfl
  | ins _ _ _ => obtain ⟨p, dx, vs, rfl, _⟩ := r; rfl
  | tpf _ => obtain ⟨p, vs, o, rfl, _⟩ := r; rfl
  | exc _ _ _ _ => obtain ⟨kvs, rfl, _⟩ := r; rfl
  | lam _ _ _ _ _ => obtain ⟨rfl, _⟩ := r; rfl
theorem lift_isN {K : PySem.W.Frag} : Lift2 K (fun x y H Q => y = .non ∧ Q (.bl (decide (x = .non))) H) fIsN := by
  intro x y a b H G R Q rx ry rg ⟨h1, h2⟩ fe
  subst h1
  exact ⟨ry, by rw [isNon_V rx]; exact fe (.bl _) _ G H .refl rfl rg h2⟩
theorem lift_notN {K : PySem.W.Frag} : Lift2 K (fun x y H Q => y = .non ∧ Q (.bl (!decide (x = .non))) H) fNotN := by
  intro x y a b H G R Q rx ry rg ⟨h1, h2⟩ fe
  subst h1
  exact ⟨ry, by rw [isNon_V rx]; exact fe (.bl _) _ G H .refl rfl rg h2⟩
def flatD : D → Bool
  | .non => true
  | .bl _ => true
  | .int _ => true
  | .str _ => true
  | _ => false
def eqF : D → D → Bool
  | .non, .non => true
  | .bl a, .bl b => a == b
  | .bl a, .int b => (if a then 1 else 0) == b
  | .int a, .bl b => a == (if b then 1 else 0)
  | .int a, .int b => a == b
  | .str a, .str b => a == b
  | _, _ => false
theorem flat_V {K : PySem.W.Frag} {H : Hp} {G : GH} {x : D} {a : V} (r : Rep K H G x a) (f : flatD x = true) : flatV a = true := by
  cases x with
  | non => rw [show a = .non from r]; rfl
  | bl _ => rw [show a = .bl _ from r]; rfl
  | int _ => rw [show a = .int _ from r]; rfl
  | str _ => rw [show a = .str _ from r]; rfl
  | _ => cases f
theorem eqF_V {K : PySem.W.Frag} {H : Hp} {G : GH} {x y : D} {a b : V} (r : Rep K H G x a) (s : Rep K H G y b) (f : flatD x = true) (g : flatD y = true) : eqV a b = eqF x y := by
  cases x with
  | non => rw [show a = .non from r]; cases y with
    | non => rw [show b = .non from s]; rfl
    | bl _ => rw [show b = .bl _ from s]; rfl
    | int _ => rw [show b = .int _ from s]; rfl
    | str _ => rw [show b = .str _ from s]; rfl
    | _ => cases g
  | bl _ => rw [show a = .bl _ from r]; cases y with
    | non => rw [show b = .non from s]; rfl
    | bl _ => rw [show b = .bl _ from s]; rfl
    | int _ => rw [show b = .int _ from s]; rfl
    | str _ => rw [show b = .str _ from s]; rfl
    | _ => cases g
  | int _ => rw [show a = .int _ from r]; cases y with
    | non => rw [show b = .non from s]; rfl
    | bl _ => rw [show b = .bl _ from s]; rfl
    | int _ => rw [show b = .int _ from s]; rfl
    | str _ => rw [show b = .str _ from s]; rfl
    | _ => cases g
  | str _ => rw [show a = .str _ from r]; cases y with
    | non => rw [show b = .non from s]; rfl
    | bl _ => rw [show b = .bl _ from s]; rfl
    | int _ => rw [show b = .int _ from s]; rfl
    | str _ => rw [show b = .str _ from s]; rfl
    | _ => cases g
  | _ => cases f
theorem flatL_V {K : PySem.W.Frag} {H : Hp} {G : GH} : ∀ {xs : List D} {vs : List V}, RepL K H G xs vs → xs.all flatD = true → vs.all flatV = true
  | [], _, r, _ => by rw [show _ = _ from r]; rfl
  | x :: xs, _, ⟨v, u, q, a, t⟩, h => by
    rw [List.all_cons, Bool.and_eq_true] at h
    rw [q, List.all_cons, flat_V a h.1, flatL_V t h.2]; rfl
def inF (x : D) (xs : List D) : Bool := xs.any fun y => eqF y x
theorem inF_V {K : PySem.W.Frag} {H : Hp} {G : GH} {x : D} {a : V} (rx : Rep K H G x a) (fx : flatD x = true) : ∀ {xs : List D} {vs : List V}, RepL K H G xs vs → xs.all flatD = true → inV a vs = inF x xs
  | [], _, r, _ => by rw [show _ = _ from r]; rfl
  | y :: ys, _, ⟨v, u, q, b, t⟩, h => by
    rw [List.all_cons, Bool.and_eq_true] at h
    have ih := inF_V rx fx t h.2
    unfold inV inF at ih ⊢
    rw [q, List.any_cons, List.any_cons, eqF_V b rx h.1 fx, ih]
def fIn (neg : Bool) : F2 := fun x y G R => ∃ xs, asS G y = some xs ∧ flatD x = true ∧ xs.all flatD = true ∧ R (.bl (if neg then !inF x xs else inF x xs)) G
theorem lift_in {K : PySem.W.Frag} {neg : Bool} : Lift2 K (rIn K neg) (fIn neg) := by
  intro x y a b H G R Q rx ry rg ⟨xs, h1, h2, h3, h4⟩ fe
  obtain ⟨p, vs, rfl, sq, rl⟩ := asS_at ry rg h1
  refine ⟨p, vs, rfl, sq, flat_V rx h2, flatL_V rl h3, ?_⟩
  rw [inF_V rx h2 rl h3]
  exact fe (.bl _) _ G H .refl rfl rg h4

/-! ### isinstance -/
/-- the class of a thing -/
def tyD (G : GH) : D → Option Value
  | .non => some (.type "NoneType")
  | .bl _ => some (.type "bool")
  | .int _ => some (.type "int")
  | .str _ => some (.type "str")
  | .tup _ => some (.type "tuple")
  | .lst _ => some (.type "list")
  | .lsx _ => some (.type "list")
  | .dct _ _ => some (.type "dict")
  | .ref p => match G p with
    | some (.lst _) => some (.type "list")
    | some (.dct _ _) => some (.type "dict")
    | _ => none
  | _ => none
theorem tyD_X {K : PySem.W.Frag} {H : Hp} {G : GH} {x : D} {a : V} {t : Value} (r : Rep K H G x a) (g : RG K H G) (h : tyD G x = some t) : TyX K H a t := by
  cases x with
  | non => cases h; rw [show a = .non from r]; exact .base .non
  | bl b => cases h; rw [show a = .bl b from r]; exact .base (.bl b)
  | int b => cases h; rw [show a = .int b from r]; exact .base (.int b)
  | str b => cases h; rw [show a = .str b from r]; exact .base (.str b)
  | tup xs =>
    cases h
    obtain ⟨p, vs, rfl, ⟨_, k | ⟨o, k⟩⟩ | ⟨o, its, n, k, c, _⟩, _⟩ := r
    · exact .base (.tup k)
    · exact .fTuple k
    · exact .kTuple k c
  | lst xs =>
    cases h
    obtain ⟨p, vs, rfl, _, k, _⟩ := r
    exact .base (.lst k)
  | lsx xs =>
    cases h
    obtain ⟨p, vs, rfl, ⟨_, k | ⟨o, k⟩⟩ | ⟨o, its, n, k, c, _⟩, _⟩ := r
    · exact .base (.lst k)
    · exact .base (.frz k)
    · exact .kList k c
  | dct ks xs =>
    cases h
    obtain ⟨p, vs, rfl, _, k, _⟩ := r
    exact .base (.dK k)
  | ref p =>
    obtain rfl : a = .ref p := r
    simp only [tyD] at h
    split at h
    · rename_i xs e
      cases h
      obtain ⟨vs, k, _⟩ := g p _ e
      exact .base (.lst k)
    · rename_i ks xs e
      cases h
      obtain ⟨vs, k, _⟩ := g p _ e
      exact .base (.dK k)
    · cases h
  | _ => cases h
def clsD : D → Option Value
  | .ty n => some (.type n)
  | .ref C => some (.ref C)
  | _ => none
theorem clsD_V {K : PySem.W.Frag} {H : Hp} {G : GH} {x : D} {a : V} {t : Value} (r : Rep K H G x a) (h : clsD x = some t) : ClsV a t := by
  cases x <;> simp only [clsD] at h <;> try cases h
  · rw [show a = .ty _ from r]; exact .ty _
  · rw [show a = .ref _ from r]; exact .own _
def fIsi (K : PySem.W.Frag) : FA := fun xs G R => match xs with
  | [x, .tup cs] => ∃ t us b, tyD G x = some t ∧ cs.mapM clsD = some us ∧ PySem.W.kitAny K t us = some b ∧ R (.bl b) G
  | [x, c] => ∃ t u b, tyD G x = some t ∧ clsD c = some u ∧ PySem.W.kitOne K t u = some b ∧ R (.bl b) G
  | _ => False
def rIsiA (K : PySem.W.Frag) : List V → Hp → VK → Prop := fun xs H Q => ∃ (x : V) (tp : Addr) (cs : List V) (t : Value) (us : List Value) (b : Bool), xs = [x, .ref tp] ∧ SqT K H tp cs ∧ Paired ClsV cs us ∧ TyX K H x t ∧ PySem.W.kitAny K t us = some b ∧ Q (.bl b) H
theorem call_isiA {X : Cx} : CallR X (.builtin "isinstance") (rIsiA X.K) := by
  intro pins s σ H xs us Q I r h
  obtain ⟨x, tp, cs, t, ws, b, rfl, hT, kk, ty, e, q⟩ := h
  obtain ⟨u1, u2, rfl, r1, r2⟩ := vals2 r
  obtain rfl : u2 = Value.ref tp := r2
  obtain ⟨P, Z, p, hx⟩ := kit_of I r1 ty
  obtain ⟨its, rv, ⟨ob, g1, g2, n, g3⟩, _⟩ := I.tuple hT
  obtain rfl := ClsV.all kk rv
  obtain ⟨oc, od, dt, sl⟩ := ob
  simp only at g2 g3
  subst g2 g3
  exact PySem.W.kia_tup Z I.kIn p g1 e hx fun tk => ⟨.bl b, H, I.tok tk, rfl, q⟩
def rIsi3 (K : PySem.W.Frag) : List V → Hp → VK → Prop := fun xs H Q => rIsi K xs H Q ∨ rIsiA K xs H Q
theorem call_isi3 {X : Cx} : CallR X (.builtin "isinstance") (rIsi3 X.K) := CallR.or call_isi call_isiA
theorem clsL_V {K : PySem.W.Frag} {H : Hp} {G : GH} : ∀ {cs : List D} {vs : List V} {us : List Value}, RepL K H G cs vs → cs.mapM clsD = some us → Paired ClsV vs us
  | [], _, us, r, h => by
    rw [show _ = _ from r]
    simp only [List.mapM_nil] at h
    cases h
    exact .nil
  | c :: cs, _, us, ⟨v, u, q, a, t⟩, h => by
    rw [List.mapM_cons] at h
    cases h1 : clsD c with
    | none => rw [h1] at h; cases h
    | some x =>
      cases h2 : cs.mapM clsD with
      | none => rw [h1, h2] at h; cases h
      | some xs =>
        rw [h1, h2] at h
        cases h
        rw [q]
        exact .cons (clsD_V a h1) (clsL_V t h2)
theorem lift_isi {K : PySem.W.Frag} : LiftC K (rIsi3 K) (fIsi K) := by
  intro xs vs H G R Q r g h fe
  match xs, r, h with
  | [x, c], ⟨v1, r1, e1, a1, v2, r2, e2, a2, e3⟩, h =>
    subst e3 e2 e1
    have one : (∃ t u b, tyD G x = some t ∧ clsD c = some u ∧ PySem.W.kitOne K t u = some b ∧ R (.bl b) G) → rIsi3 K [v1, v2] H Q := by
      rintro ⟨t, u, b, q1, q2, q3, q4⟩
      exact .inl ⟨v1, v2, t, u, b, rfl, clsD_V a2 q2, tyD_X a1 g q1, q3, fe (.bl b) _ G H .refl rfl g q4⟩
    cases c with
    | tup cs =>
      obtain ⟨t, us, b, q1, q2, q3, q4⟩ := h
      obtain ⟨p, ws, rfl, k, rl⟩ := a2
      exact .inr ⟨v1, p, ws, t, us, b, rfl, k.sq, clsL_V rl q2, tyD_X a1 g q1, q3, fe (.bl b) _ G H .refl rfl g q4⟩
    | _ => exact one h
  | [], _, h => exact False.elim h
  | [_], _, h => exact False.elim (by cases ‹D› <;> exact h)
  | _ :: y :: _ :: _, _, h => exact False.elim (by cases y <;> exact h)

/-! ### other built-in functions -/
def fLen : FA := fun xs G R => match xs with
  | [.str y] => y.length ≤ sizeLine ∧ R (.int y.length) G
  | [x] => ∃ ds, asS G x = some ds ∧ R (.int ds.length) G
  | _ => False
theorem lift_len {K : PySem.W.Frag} : LiftC K (fun xs H Q => ∃ x n, xs = [x] ∧ LenV K x H n ∧ Q (.int n) H) fLen := by
  intro xs vs H G R Q r g h fe
  match xs, r, h with
  | [], _, h => exact False.elim h
  | [x], ⟨v, r1, e1, a1, e2⟩, h =>
    subst e2 e1
    have seq : (∃ ds, asS G x = some ds ∧ R (.int ds.length) G) → ∃ y n, [v] = [y] ∧ LenV K y H n ∧ Q (.int n) H := by
      rintro ⟨ds, q1, q2⟩
      obtain ⟨p, ws, rfl, sq, rl⟩ := asS_at a1 g q1
      refine ⟨_, ds.length, rfl, ?_, fe (.int _) _ G H .refl rfl g q2⟩
      rcases sq with sq | sq
      · exact .inl ⟨ws, sq, rl.length.symm⟩
      · exact .inr ⟨ws, sq, rl.length.symm⟩
    cases x with
    | str y =>
      obtain rfl : v = V.str y := a1
      exact ⟨_, y.length, rfl, ⟨h.1, rfl⟩, fe (.int _) _ G H .refl rfl g h.2⟩
    | _ => exact seq h
  | x :: y :: zs, _, h => cases x <;> exact False.elim h
def fAbs : FA := fun xs G R => match xs with
  | [.int i] => R (.int (if i < 0 then -i else i)) G
  | _ => False
theorem RepL.one_inv {K : PySem.W.Frag} {H : Hp} {G : GH} {x : D} {vs : List V} (r : RepL K H G [x] vs) : ∃ v, vs = [v] ∧ Rep K H G x v := by
  obtain ⟨v, u, e, a, e2⟩ := r
  exact ⟨v, by rw [e, show u = [] from e2], a⟩
theorem lift_abs {K : PySem.W.Frag} : LiftC K (fun xs H Q => ∃ i, xs = [.int i] ∧ Q (.int (if i < 0 then -i else i)) H) fAbs := by
  intro xs vs H G R Q r g h fe
  unfold fAbs at h
  split at h
  · obtain ⟨v, rfl, a⟩ := r.one_inv
    exact ⟨_, by rw [show v = _ from a], fe (.int _) _ G H .refl rfl g h⟩
  · exact h.elim
def fInt : FA := fun xs G R => match xs with
  | [.int i] => R (.int i) G
  | [.bl b] => R (.int (if b then 1 else 0)) G
  | _ => False
theorem lift_int {K : PySem.W.Frag} : LiftC K (fun xs H Q => (∃ i, xs = [.int i] ∧ Q (.int i) H) ∨ ∃ k, xs = [.bl k] ∧ Q (.int (if k then 1 else 0)) H) fInt := by
  intro xs vs H G R Q r g h fe
  unfold fInt at h
  split at h
  · obtain ⟨v, rfl, a⟩ := r.one_inv
    exact .inl ⟨_, by rw [show v = _ from a], fe (.int _) _ G H .refl rfl g h⟩
  · obtain ⟨v, rfl, a⟩ := r.one_inv
    exact .inr ⟨_, by rw [show v = _ from a], fe (.int _) _ G H .refl rfl g h⟩
  · exact h.elim
/-- list(x): a new list, to be changed or not -/
def fListO : FA := fun xs G R => ∃ x ds, xs = [x] ∧ asS G x = some ds ∧ ∀ p, G p = none → R (.ref p) (gset G p (.lst ds))
def fList : FA := fun xs G R => ∃ x ds, xs = [x] ∧ asS G x = some ds ∧ R (.lst ds) G
theorem lift_listO {K : PySem.W.Frag} : LiftC K (fun xs H Q => ∃ p ys, xs = [.ref p] ∧ (SqL K H p ys ∨ SqT K H p ys) ∧ ∀ l, H l = none → Q (.ref l) (upd H l (.lst ys))) fListO := by
  rintro xs vs H G R Q r g ⟨x, ds, rfl, h1, h2⟩ fe
  obtain ⟨v, rfl, a⟩ := r.one_inv
  obtain ⟨p, ws, rfl, sq, rl⟩ := asS_at a g h1
  exact ⟨p, ws, rfl, sq, fin_lstO rl g fe h2⟩
theorem lift_list {K : PySem.W.Frag} : LiftC K (fun xs H Q => ∃ p ys, xs = [.ref p] ∧ (SqL K H p ys ∨ SqT K H p ys) ∧ ∀ l, H l = none → Q (.ref l) (upd H l (.lst ys))) fList := by
  rintro xs vs H G R Q r g ⟨x, ds, rfl, h1, h2⟩ fe
  obtain ⟨v, rfl, a⟩ := r.one_inv
  obtain ⟨p, ws, rfl, sq, rl⟩ := asS_at a g h1
  exact ⟨p, ws, rfl, sq, fin_lst rl g fe h2⟩
def fTuple : FA := fun xs G R => match xs with
  | [.tup ds] => R (.tup ds) G
  | [x] => ∃ ds, asL G x = some ds ∧ R (.tup ds) G
  | _ => False
theorem lift_tuple {K : PySem.W.Frag} : LiftC K (fun xs H Q => ∃ p ys, xs = [.ref p] ∧ ((SqL K H p ys ∧ ∀ l, H l = none → Q (.ref l) (upd H l (.tup ys))) ∨ (SqT K H p ys ∧ Q (.ref p) H))) fTuple := by
  intro xs vs H G R Q r g h fe
  match xs, r, h with
  | [], _, h => exact False.elim h
  | [x], r, h =>
    obtain ⟨v, rfl, a⟩ := r.one_inv
    have lst : (∃ ds, asL G x = some ds ∧ R (.tup ds) G) → ∃ p ys, [v] = [V.ref p] ∧ ((SqL K H p ys ∧ ∀ l, H l = none → Q (.ref l) (upd H l (.tup ys))) ∨ (SqT K H p ys ∧ Q (.ref p) H)) := by
      rintro ⟨ds, h1, h2⟩
      obtain ⟨p, ws, rfl, sq, rl⟩ := asL_at a g h1
      exact ⟨p, ws, rfl, .inl ⟨sq, fin_tup rl g fe h2⟩⟩
    cases x with
    | tup ds =>
      have a' := a
      obtain ⟨p, ws, rfl, k, rl⟩ := a
      exact ⟨p, ws, rfl, .inr ⟨k.sq, fe (.tup ds) _ G H .refl a' g h⟩⟩
    | _ => exact lst h
  | x :: y :: zs, _, h => cases x <;> exact False.elim h
/-- all, any of a list of truths -/
def bools : List D → Option (List Bool)
  | [] => some []
  | .bl b :: r => (bools r).map (b :: ·)
  | _ :: _ => none
theorem bools_V {K : PySem.W.Frag} {H : Hp} {G : GH} : ∀ {xs : List D} {vs : List V} {bs : List Bool}, RepL K H G xs vs → bools xs = some bs → vs = bs.map V.bl
  | [], _, bs, r, h => by cases h; rw [show _ = _ from r]; rfl
  | x :: xs, _, bs, ⟨v, u, q, a, t⟩, h => by
    cases x with
    | bl b =>
      obtain ⟨cs, h1, rfl⟩ := Option.map_eq_some_iff.mp (show (bools xs).map (b :: ·) = some bs from h)
      rw [q, show v = .bl b from a, bools_V t h1]; rfl
    | _ => cases h
theorem bools_map : ∀ bs : List Bool, bools (bs.map D.bl) = some bs
  | [] => rfl
  | b :: r => by show (bools (r.map D.bl)).map (b :: ·) = _; rw [bools_map r]; rfl
def fAll : FA := fun xs G R => ∃ x ds bs, xs = [x] ∧ asL G x = some ds ∧ bools ds = some bs ∧ R (.bl (bs.all id)) G
def fAny : FA := fun xs G R => ∃ x ds bs, xs = [x] ∧ asL G x = some ds ∧ bools ds = some bs ∧ R (.bl (bs.any id)) G
theorem lift_all {K : PySem.W.Frag} : LiftC K (rAll K) fAll := by
  rintro xs vs H G R Q r g ⟨x, ds, bs, rfl, h1, h2, h3⟩ fe
  obtain ⟨v, rfl, a⟩ := r.one_inv
  obtain ⟨p, ws, rfl, sq, rl⟩ := asL_at a g h1
  exact ⟨p, bs, rfl, by rw [← bools_V rl h2]; exact sq, fe (.bl _) _ G H .refl rfl g h3⟩
theorem lift_any {K : PySem.W.Frag} : LiftC K (rAny K) fAny := by
  rintro xs vs H G R Q r g ⟨x, ds, bs, rfl, h1, h2, h3⟩ fe
  obtain ⟨v, rfl, a⟩ := r.one_inv
  obtain ⟨p, ws, rfl, sq, rl⟩ := asL_at a g h1
  exact ⟨p, bs, rfl, by rw [← bools_V rl h2]; exact sq, fe (.bl _) _ G H .refl rfl g h3⟩
/-- intsD -/
def intsD : List D → Option (List Int)
  | [] => some []
  | .int b :: r => (intsD r).map (b :: ·)
  | _ :: _ => none
theorem ints_V {K : PySem.W.Frag} {H : Hp} {G : GH} : ∀ {xs : List D} {vs : List V} {bs : List Int}, RepL K H G xs vs → intsD xs = some bs → vs = bs.map V.int
  | [], _, bs, r, h => by cases h; rw [show _ = _ from r]; rfl
  | x :: xs, _, bs, ⟨v, u, q, a, t⟩, h => by
    cases x with
    | int b =>
      obtain ⟨cs, h1, rfl⟩ := Option.map_eq_some_iff.mp (show (intsD xs).map (b :: ·) = some bs from h)
      rw [q, show v = .int b from a, ints_V t h1]; rfl
    | _ => cases h
theorem ints_map : ∀ bs : List Int, intsD (bs.map D.int) = some bs
  | [] => rfl
  | b :: r => by show (intsD (r.map D.int)).map (b :: ·) = _; rw [ints_map r]; rfl
def fMax : FA := fun xs G R => match xs with
  | [.int i, .int j] => R (.int (if j > i then j else i)) G
  | [x] => ∃ ds ns, asL G x = some ds ∧ intsD ds = some ns ∧ 0 < ns.length ∧ ∀ m, m ∈ ns → (∀ y, y ∈ ns → y ≤ m) → R (.int m) G
  | _ => False
def rMax3 (K : PySem.W.Frag) : List V → Hp → VK → Prop := fun xs H Q => (∃ i j, xs = [.int i, .int j] ∧ Q (.int (if j > i then j else i)) H) ∨ rMax K xs H Q
theorem call_max3 {X : Cx} (hc : X.calm = true) : CallR X (.builtin "max") (rMax3 X.K) := CallR.or (call_max2 hc) (cr_max hc)
theorem lift_max {K : PySem.W.Frag} : LiftC K (rMax3 K) fMax := by
  intro xs vs H G R Q r g h fe
  unfold fMax at h
  split at h
  · obtain ⟨v, u, e, a, v2, u2, e2, a2, e3⟩ := r
    refine .inl ⟨_, _, ?_, fe (.int _) _ G H .refl rfl g h⟩
    rw [e, e2, e3, show v = _ from a, show v2 = _ from a2]
  · obtain ⟨ds, ns, h1, h2, h3, h4⟩ := h
    obtain ⟨v, rfl, a⟩ := r.one_inv
    obtain ⟨p, ws, rfl, sq, rl⟩ := asL_at a g h1
    exact .inr ⟨p, ns, rfl, by rw [← ints_V rl h2]; exact sq, h3, fun m hm hy => fe (.int _) _ G H .refl rfl g (h4 m hm hy)⟩
  · exact h.elim
def fMin : FA := fun xs G R => match xs with
  | [.int i, .int j] => R (.int (if j < i then j else i)) G
  | _ => False
theorem lift_min {K : PySem.W.Frag} : LiftC K (fun xs H Q => ∃ i j, xs = [.int i, .int j] ∧ Q (.int (if j < i then j else i)) H) fMin := by
  intro xs vs H G R Q r g h fe
  unfold fMin at h
  split at h
  · obtain ⟨v, u, e, a, v2, u2, e2, a2, e3⟩ := r
    refine ⟨_, _, ?_, fe (.int _) _ G H .refl rfl g h⟩
    rw [e, e2, e3, show v = _ from a, show v2 = _ from a2]
  · exact h.elim
def fSum : FA := fun xs G R => ∃ x ds ns, xs = [x] ∧ asL G x = some ds ∧ intsD ds = some ns ∧ R (.int ns.sum) G
theorem lift_sum {K : PySem.W.Frag} : LiftC K (rSum K) fSum := by
  rintro xs vs H G R Q r g ⟨x, ds, bs, rfl, h1, h2, h3⟩ fe
  obtain ⟨v, rfl, a⟩ := r.one_inv
  obtain ⟨p, ws, rfl, sq, rl⟩ := asL_at a g h1
  exact ⟨p, bs, rfl, by rw [← ints_V rl h2]; exact sq, fe (.int _) _ G H .refl rfl g h3⟩
def fSorted : FA := fun xs G R => ∃ x ds ns, xs = [x] ∧ asL G x = some ds ∧ intsD ds = some ns ∧ ∀ ns' : List Int, ns'.Perm ns → ns'.Pairwise (· ≤ ·) → R (.lst (ns'.map D.int)) G
theorem lift_sorted {K : PySem.W.Frag} : LiftC K (rSortedI K) fSorted := by
  rintro xs vs H G R Q r g ⟨x, ds, bs, rfl, h1, h2, h3⟩ fe
  obtain ⟨v, rfl, a⟩ := r.one_inv
  obtain ⟨p, ws, rfl, sq, rl⟩ := asL_at a g h1
  refine ⟨p, bs, rfl, by rw [← ints_V rl h2]; exact sq, fun ns' q p1 p2 hq => ?_⟩
  exact fin_lst (RepL.ints) g fe (h3 ns' p1 p2) q hq
end L3

set_option Elab.async false
set_option linter.all false
set_option maxRecDepth 100000
namespace L3
open PySem PySem.Spec L2
open PyProof.Rows hiding St

/-! ### statements -/
def wSeq (a b : S3) : S3 := fun E env G => a { E with nx := fun env' G' => b E env' G' } env G
def wNext : S3 := fun E env G => E.nx env G
def wRet (w : W3) : S3 := fun E env G => w env G E.rt E.ex
def wRetN : S3 := fun E _ G => E.rt .non G
def wExpr (w : W3) : S3 := fun E env G => w env G (fun _ G1 => E.nx env G1) E.ex
def wIfS (t : T3) (a b : S3) : S3 := fun E env G => t env G (fun c G1 => if c = true then a E env G1 else b E env G1) E.ex
def wSet (i : Nat) (w : W3) : S3 := fun E env G => w env G (fun d G1 => E.nx (env.set i (some d)) G1) E.ex
def wBrk : S3 := fun E env G => E.bk env G
def wCnt : S3 := fun E env G => E.ct env G
section
variable {K : PySem.W.Frag} {W : WX} {Q : Ends} {σ : St} {H : Hp}
theorem upS_go {env : Env3} {G : GH} {E : E3} {w : S3} (re : REnv K H G env σ) (rg : RG K H G) (h : w E env G) (f : FinS K W H G E Q) : upS K W w Q σ H := ⟨env, G, E, re, rg, h, f⟩
variable {X : Cx} {st : Stmt} {rest : List Stmt} {a b : S3} {e : Expr} {w : W3} {pos : Pos}
theorem s_nil : PSs X [] (upS X.K W wNext) := PSs.imp pss_nil fun D σ H ⟨env, G, E, re, rg, h, f⟩ => f.nx env σ G H .refl re rg h
theorem s_cons (h1 : PS X st (upS X.K W a)) (h2 : PSs X rest (upS X.K W b)) : PSs X (st :: rest) (upS X.K W (wSeq a b)) := PSs.imp (pss_cons h1 h2) fun D σ H ⟨env, G, E, re, rg, h, f⟩ => by
  refine upS_go re rg h ⟨fun env' σ' G' H' e' re' rg' h' => ?_, f.rt, f.bk, f.ct, f.ex⟩
  exact upS_go re' rg' h' (f.ext e')
theorem s_one (h1 : PS X st (upS X.K W a)) : PSs X [st] (upS X.K W a) := pss_one h1
theorem s_pass : PS X (.Pass pos) (upS X.K W wNext) := PS.imp ps_pass fun D σ H ⟨env, G, E, re, rg, h, f⟩ => f.nx env σ G H .refl re rg h
theorem s_break : PS X (.Break pos) (upS X.K W wBrk) := PS.imp ps_break fun D σ H ⟨env, G, E, re, rg, h, f⟩ => f.bk env σ G H .refl re rg h
theorem s_continue : PS X (.Continue pos) (upS X.K W wCnt) := PS.imp ps_continue fun D σ H ⟨env, G, E, re, rg, h, f⟩ => f.ct env σ G H .refl re rg h
theorem s_ret (he : PE X e (up X.K W w)) : PS X (.Return (some e) pos) (upS X.K W (wRet w)) := PS.imp (ps_ret he) fun D σ H ⟨env, G, E, re, rg, h, f⟩ => up_go re rg h f.ex f.rt
theorem s_retN : PS X (.Return none pos) (upS X.K W wRetN) := PS.imp ps_retN fun D σ H ⟨env, G, E, re, rg, h, f⟩ => f.rt .non _ G H .refl rfl rg h
theorem s_expr (he : PE X e (up X.K W w)) (hs : swapsWith e none pos.line X.env = pure false := by rfl) : PS X (.Expr e pos) (upS X.K W (wExpr w)) := PS.imp (ps_expr he hs) fun D σ H ⟨env, G, E, re, rg, h, f⟩ =>
  up_go re rg h f.ex fun d v G1 H1 e1 rd rg1 h1 => f.nx env σ G1 H1 e1 (re.ext e1) rg1 h1
theorem s_if {c : Expr} {ba bb : List Stmt} {t : T3} (hc : PT X c (upT X.K W t)) (ha : PSs X ba (upS X.K W a)) (hb : PSs X bb (upS X.K W b)) : PS X (.If c ba bb pos) (upS X.K W (wIfS t a b)) := PS.imp (ps_if hc ha hb) fun D σ H ⟨env, G, E, re, rg, h, f⟩ =>
  upT_go re rg h f.ex fun c G1 H1 e1 rg1 h1 => by
    cases c with
    | true => exact upS_go (re.ext e1) rg1 h1 (f.ext e1)
    | false => exact upS_go (re.ext e1) rg1 h1 (f.ext e1)
theorem s_set (i : Nat) {x : Str} {pos' : Pos} (hN : X.N.Nodup) (hi : X.N[i]? = some x) (hx : Loc X.env.scope x) (hf : X.fn x = true) (he : PE X e (up X.K W w)) (hs : swapsWith e (some (.Name x pos')) pos.line X.env = pure false := by rfl) :
    PS X (.Assign [.Name x pos'] e pos) (upS X.K W (wSet i w)) := PS.imp (ps_set hN hi hx he hs (.inl hf)) fun D σ H ⟨env, G, E, re, rg, h, f⟩ =>
  up_go re rg h f.ex fun d v G1 H1 e1 rd rg1 h1 => f.nx _ _ G1 H1 e1 ((re.ext e1).set rd i) rg1 h1
end

/-! ### targets -/
abbrev G3 := D → Env3 → GH → (Env3 → GH → Prop) → Prop
abbrev Gs3 := List D → Env3 → GH → (Env3 → GH → Prop) → Prop
/-- σ' is σ but for the slots js -/
def But (js : List Nat) (σ σ' : St) : Prop := σ'.length = σ.length ∧ ∀ i, i ∉ js → σ'[i]? = σ[i]?
theorem But.refl {js : List Nat} {σ : St} : But js σ σ := ⟨rfl, fun _ _ => rfl⟩
theorem But.trans {js ks : List Nat} {σ σ' σ2 : St} (a : But js σ σ') (b : But ks σ' σ2) : But (js ++ ks) σ σ2 := ⟨b.1.trans a.1, fun i h => by
  rw [List.mem_append, not_or] at h
  exact (b.2 i h.2).trans (a.2 i h.1)⟩
def upG (K : PySem.W.Frag) (js : List Nat) (g : G3) : TG := fun v σ H Q => ∃ d env G R, Rep K H G d v ∧ REnv K H G env σ ∧ RG K H G ∧ g d env G R ∧
  ∀ env' σ' G' H', But js σ σ' → Ext G H G' H' → REnv K H' G' env' σ' → RG K H' G' → R env' G' → Q σ' H'
def upGs (K : PySem.W.Frag) (js : List Nat) (g : Gs3) : TGs := fun vs σ H Q => ∃ ds env G R, RepL K H G ds vs ∧ REnv K H G env σ ∧ RG K H G ∧ g ds env G R ∧
  ∀ env' σ' G' H', But js σ σ' → Ext G H G' H' → REnv K H' G' env' σ' → RG K H' G' → R env' G' → Q σ' H'
def gN (i : Nat) : G3 := fun d env G R => R (env.set i (some d)) G
def gsN : Gs3 := fun ds env G R => ds = [] ∧ R env G
def gsC (g : G3) (r : Gs3) : Gs3 := fun ds env G R => match ds with
  | d :: t => g d env G fun env' G' => r t env' G' R
  | [] => False
def gT (n : Nat) (r : Gs3) : G3 := fun d env G R => ∃ ds, asT d = some ds ∧ ds.length = n ∧ r ds env G R
section
variable {X : Cx} {pos : Pos} {js ks : List Nat}
theorem PG.imp {e : Expr} {t t' : TG} (h : PG X e t) (f : ∀ v σ H Q, t' v σ H Q → t v σ H Q) : PG X e t' := ⟨fun pins s σ H v u Q I r q => h.run pins s σ H v u Q I r (f _ _ _ _ q)⟩
theorem PGs.imp {e : List Expr} {t t' : TGs} (h : PGs X e t) (f : ∀ v σ H Q, t' v σ H Q → t v σ H Q) : PGs X e t' := ⟨fun pins s σ H v u Q I r q => h.run pins s σ H v u Q I r (f _ _ _ _ q)⟩
theorem g_name (i : Nat) {x : Str} (hN : X.N.Nodup) (hi : X.N[i]? = some x) (hx : Loc X.env.scope x) (hf : X.fn x = true ∨ X.env.scope.names.lookup x = some .local := by first | exact .inl rfl | exact .inr rfl) : PG X (.Name x pos) (upG X.K [i] (gN i)) :=
  PG.imp (pg_name hN hi hx hf) fun v σ H Q ⟨d, env, G, R, rd, re, rg, h, f⟩ => f _ _ G H ⟨List.length_set, fun j hj => List.getElem?_set_ne (fun e => hj (by simp [e]))⟩ .refl (re.set rd i) rg h
theorem gs_nil : PGs X [] (upGs X.K [] gsN) := PGs.imp pgs_nil fun v σ H Q ⟨ds, env, G, R, rd, re, rg, ⟨h1, h⟩, f⟩ => by
  subst h1
  exact ⟨rd, f _ _ G H .refl .refl re rg h⟩
theorem gs_cons {e : Expr} {es : List Expr} {g : G3} {r : Gs3} (h1 : PG X e (upG X.K js g)) (h2 : PGs X es (upGs X.K ks r)) (hs : (assignEach (e :: es) X.env).map (·.2) = assign e X.env :: (assignEach es X.env).map (·.2) := by rfl) :
    PGs X (e :: es) (upGs X.K (js ++ ks) (gsC g r)) := PGs.imp (pgs_cons h1 h2 hs) fun v σ H Q ⟨ds, env, G, R, rd, re, rg, h, f⟩ => by
  match ds, rd, h with
  | d :: t, ⟨v, u, q, a, b⟩, h =>
    refine ⟨v, u, q, d, env, G, _, a, re, rg, h, fun env' σ' G' H' n e1 re1 rg1 h1 => ?_⟩
    exact ⟨t, env', G', R, RepL.ext e1 t b, re1, rg1, h1, fun env2 σ2 G2 H2 n2 e2 re2 rg2 h2 => f env2 σ2 G2 H2 (n.trans n2) (e1.trans e2) re2 rg2 h2⟩
theorem g_tup {es : List Expr} {k n : Nat} {r : Gs3} (hc : X.calm = true) (h : PGs X es (upGs X.K js r)) (hn : (assignEach es X.env).length = n := by rfl) (hst : (assignEach es X.env).findIdx? (·.1) = none := by rfl) :
    PG X (.Tuple es k pos) (upG X.K js (gT n r)) := PG.imp (pg_tup hc h hn hst) fun v σ H Q ⟨d, env, G, R, rd, re, rg, ⟨ds, h1, h2, h3⟩, f⟩ => by
  obtain ⟨a, vs, e1, sq, rl⟩ := asT_at rd h1
  exact ⟨a, vs, e1, sq, rl.length.trans h2, ds, env, G, R, rl, re, rg, h3, f⟩
/-- target = e -/
def wAsg (w : W3) (g : G3) : S3 := fun E env G => w env G (fun d G1 => g d env G1 E.nx) E.ex
variable {W : WX} {e tg : Expr} {w : W3}
theorem s_asg {g : G3} (he : PE X e (up X.K W w)) (hg : PG X tg (upG X.K js g)) (hs : swapsWithSole [tg] e pos.line X.env = pure false := by rfl) (hw : swappedStores [tg] e X.env = pure none := by rfl)
    (h1 : (assignEach [tg] X.env).map (·.2) = [assign tg X.env] := by rfl) : PS X (.Assign [tg] e pos) (upS X.K W (wAsg w g)) := PS.imp (ps_asg he hg hs hw h1) fun D σ H ⟨env, G, E, re, rg, h, f⟩ =>
  up_go re rg h f.ex fun d v G1 H1 e1 rd rg1 h1 => ⟨d, env, G1, _, rd, re.ext e1, rg1, h1, fun env' σ' G' H' _ e2 re2 rg2 h2 => f.nx env' σ' G' H' (e1.trans e2) re2 rg2 h2⟩
/-- a, b = x, y -/
def wPar (i j : Nat) (ar : A3) : S3 := fun E env G => ar env G (fun ds G1 => match ds with
  | [x, y] => E.nx ((env.set i (some x)).set j (some y)) G1
  | _ => False) E.ex
theorem s_par (i j : Nat) {x y : Str} {a b : Expr} {ar : A3} {px py pt : Pos} {kt k2 pt2} (hc : X.calm = true) (hN : X.N.Nodup) (hi : X.N[i]? = some x) (hj : X.N[j]? = some y) (hij : i ≠ j)
    (hx : X.env.scope.names.lookup x = some .local) (hy : X.env.scope.names.lookup y = some .local) (ha : PA X [a, b] (upA X.K W ar))
    (hw : swappedStores [.Tuple [.Name x px, .Name y py] kt pt] (.Tuple [a, b] k2 pt2) X.env = pure (some [x, y]))
    (hs : swapsWithSole [.Tuple [.Name x px, .Name y py] kt pt] (.Tuple [a, b] k2 pt2) pos.line X.env = pure false := by rfl) :
    PS X (.Assign [.Tuple [.Name x px, .Name y py] kt pt] (.Tuple [a, b] k2 pt2) pos) (upS X.K W (wPar i j ar)) := PS.imp (ps_par hc hN hi hj hij hx hy ha hw hs) fun D σ H ⟨env, G, E, re, rg, h, f⟩ =>
  upA_go re rg h f.ex fun ds vs G1 H1 e1 rd rg1 h1 => by
    match ds, rd, h1 with
    | [x, y], ⟨v, r1, q1, a1, v2, r2, q2, a2, q3⟩, h1 =>
      have q3 : r2 = [] := q3
      subst q3 q2 q1
      exact ⟨v, v2, rfl, f.nx _ _ G1 H1 e1 (((re.ext e1).set a1 i).set a2 j) rg1 h1⟩
/-- name op= e -/
def wAug (i : Nat) (w : W3) (fo : F2) : S3 := fun E env G => ∃ x, at3 env i = some x ∧ w env G (fun y G1 => fo x y G1 fun z G2 => E.nx (env.set i (some z)) G2) E.ex
theorem s_aug (i : Nat) {x : Str} {op : Operator} {ti : TIp} {fo : F2} {pos' : Pos} (hN : X.N.Nodup) (hi : X.N[i]? = some x) (hx : Loc X.env.scope x) (hf : X.fn x = true) (he : PE X e (up X.K W w)) (ho : PIp X op ti) (hl : Lift2 X.K ti fo) :
    PS X (.AugAssign (.Name x pos') op e pos) (upS X.K W (wAug i w fo)) := PS.imp (ps_aug hN hi hx he ho (.inl hf)) fun D σ H ⟨env, G, E, re, rg, ⟨d, h1, h⟩, f⟩ => by
  obtain ⟨v, e1, rv⟩ := re.get h1
  refine ⟨v, e1, up_go re rg h f.ex fun y b G1 H1 x1 ry rg1 q1 => ?_⟩
  refine hl d y v b H1 G1 _ _ (rv.ext x1) ry rg1 q1 fun z c G2 H2 x2 rz rg2 q2 => ?_
  exact f.nx _ _ G2 H2 (x1.trans x2) (((re.ext x1).ext x2).set rz i) rg2 q2
/-- o[i] = v -/
def setI3 (o : D) (i v : D) (G : GH) (R : GH → Prop) : Prop := match o, i with
  | .ref p, .int k => ∃ xs j, G p = some (.lst xs) ∧ L2.ixN xs.length k = some j ∧ R (gset G p (.lst (xs.set j v)))
  | _, _ => False
def gSb (o i : W3) : G3 := fun d env G R => o env G (fun x G1 => i env G1 (fun k G2 => setI3 x k d G2 fun G3 => R env G3) (fun _ _ _ _ => False)) (fun _ _ _ _ => False)
theorem g_sub {o i : Expr} {wo wi : W3} (ho : PE X o (up X.K (fun _ _ _ _ => False) wo)) (hi : PE X i (up X.K (fun _ _ _ _ => False) wi))
    (ha : ∀ v, assign (.Subscript o i pos) X.env v = (holding [v] (eval o X.env) >>= fun ov => holding [v, ov] (eval i X.env) >>= fun iv => standAt pos >>= fun _ => holding [v, ov, iv] (setItem ov iv v) >>= fun _ => release [v, ov, iv] []) := by intro _; rfl) :
    PG X (.Subscript o i pos) (upG X.K [] (gSb wo wi)) := PG.imp (pg_sub ho hi set_list ha) fun v σ H Q ⟨d, env, G, R, rd, re, rg, h, f⟩ => by
  have nox : ∀ {H : Hp} {G : GH}, FinX X.K (fun _ _ _ _ => False) H G (fun _ _ _ _ => False) := fun {H G} _ _ _ _ _ _ _ _ _ _ _ z => z.elim
  refine up_go re rg h nox fun x a G1 H1 e1 rx rg1 h1 => ?_
  refine up_go (re.ext e1) rg1 h1 nox fun k b G2 H2 e2 rk rg2 h2 => ?_
  have rx2 := rx.ext e2
  cases x <;> cases k <;> simp only [setI3] at h2
  rename_i p kk
  obtain ⟨xs, j, g1, g2, g3⟩ := h2
  obtain rfl : a = V.ref p := rx2
  obtain rfl : b = V.int kk := rk
  obtain ⟨vs, k1, rl⟩ := rg2 p _ g1
  have e12 := e1.trans e2
  have ew : Ext G2 H2 (gset G2 p (.lst (xs.set j d))) (upd H2 p (.lst (vs.set j v))) := .write g1
  refine ⟨p, vs, kk, j, rfl, rfl, k1, by rw [rl.length]; exact g2, ?_⟩
  refine f env σ _ _ .refl (e12.trans ew) ((re.ext e12).ext ew) ?_ g3
  exact rg2.write (go := .lst (xs.set j d)) g1 ⟨vs.set j v, upd_same, RepL.ext ew _ ((rl.set (rd.ext e12)) j)⟩
end
end L3

set_option Elab.async false
set_option linter.all false
set_option maxRecDepth 100000
namespace L3
open PySem PySem.Spec L2
open PyProof.Rows hiding St
open RZ

/-! ### what is walked -/
structure ItD (K : PySem.W.Frag) (J : It) (ds : List D) (st : GH → Prop) (G0 : GH) (H0 : Hp) : Prop where
  go : ∀ i G H, Ext G0 H0 G H → RG K H G → st G → i < ds.length → J.go i H
  stop : ∀ G H, Ext G0 H0 G H → RG K H G → st G → J.stop ds.length H
  yld : ∀ i G H x H', Ext G0 H0 G H → RG K H G → st G → i < ds.length → J.yld i H x H' → ∃ d, ds[i]? = some d ∧ Ext G H G H' ∧ Rep K H' G d x ∧ RG K H' G
abbrev I3 := Env3 → GH → (List D → (GH → Prop) → GH → Prop) → X3 → Prop
def upI (K : PySem.W.Frag) (W : WX) (wi : I3) : TI := fun σ H R => ∃ env G R3 Ex, REnv K H G env σ ∧ RG K H G ∧ wi env G R3 Ex ∧ FinX K W H G Ex ∧
  ∀ J H1 G1 ds st, Ext G H G1 H1 → RG K H1 G1 → ItD K J ds st G1 H1 → R3 ds st G1 → R J H1
/-- how a list stays while it is walked -/
def stL (x : D) (ds : List D) : GH → Prop := fun G => match x with
  | .ref p => G p = some (.lst ds)
  | _ => True
/-- a list, a tuple, walked -/
def iSeq (w : W3) : I3 := fun env G R Ex => w env G (fun x G1 => match x with
  | .tup ds => R ds (fun _ => True) G1
  | x => ∃ ds, asL G1 x = some ds ∧ R ds (stL x ds) G1) Ex
section
variable {K : PySem.W.Frag} {G : GH} {H : Hp}
theorem RepL.getV {ds : List D} {vs : List V} {i : Nat} {v : V} (r : RepL K H G ds vs) (h : vs[i]? = some v) : ∃ d, ds[i]? = some d ∧ Rep K H G d v := by
  have hi : i < ds.length := by rw [← r.length]; exact (List.getElem?_eq_some_iff.mp h).1
  obtain ⟨u, h1, h2⟩ := r.get (List.getElem?_eq_getElem hi)
  rw [h] at h1
  cases h1
  exact ⟨_, List.getElem?_eq_getElem hi, h2⟩
theorem itd_tup {a : Addr} {ds : List D} {vs : List V} (k : TuO K H G a vs) (rl : RepL K H G ds vs) : ItD K (Itt K a) ds (fun _ => True) G H where
  go := fun i G' H' e g _ hi => ⟨vs, _, (k.ext e).sq, List.getElem?_eq_getElem (by rw [rl.length]; exact hi)⟩
  stop := fun G' H' e g _ => ⟨vs, (k.ext e).sq, Nat.le_of_eq rl.length⟩
  yld := fun i G' H' x H2 e g _ hi ⟨e1, h⟩ => by
    subst e1
    obtain ⟨d, h1, h2⟩ := (RepL.ext e ds rl).getV (h vs (k.ext e).sq)
    exact ⟨d, h1, .refl, h2, g⟩
theorem list_stays {x : D} {v : V} {ds : List D} {G' : GH} {H' : Hp} (r : Rep K H G x v) (g : RG K H G) (h : asL G x = some ds) (e : Ext G H G' H') (g' : RG K H' G') (st : stL x ds G') : asL G' x = some ds := by
  cases x with
  | ref p =>
    have st' : G' p = some (.lst ds) := st
    simp only [asL]
    rw [st']
  | _ => exact h
theorem itd_list {x : D} {a : Addr} {ds : List D} (r : Rep K H G x (.ref a)) (g : RG K H G) (h : asL G x = some ds) : ItD K (Itl K a) ds (stL x ds) G H where
  go := fun i G' H' e g' st hi => by
    obtain ⟨p, vs, q, sq, rl⟩ := asL_at (r.ext e) g' (list_stays r g h e g' st)
    cases q
    exact ⟨vs, _, sq, List.getElem?_eq_getElem (by rw [rl.length]; exact hi)⟩
  stop := fun G' H' e g' st => by
    obtain ⟨p, vs, q, sq, rl⟩ := asL_at (r.ext e) g' (list_stays r g h e g' st)
    cases q
    exact ⟨vs, sq, Nat.le_of_eq rl.length⟩
  yld := fun i G' H' x H2 e g' st hi ⟨e1, hy⟩ => by
    subst e1
    obtain ⟨p, vs, q, sq, rl⟩ := asL_at (r.ext e) g' (list_stays r g h e g' st)
    cases q
    obtain ⟨d, h1, h2⟩ := rl.getV (hy vs sq)
    exact ⟨d, h1, .refl, h2, g'⟩
theorem itd_range {lo : Int} {n : Nat} : ItD K (Itr lo n) ((List.range n).map fun i : Nat => D.int (lo + i)) (fun _ => True) G H where
  go := fun i G' H' e g' st hi => by simpa [Itr] using hi
  stop := fun G' H' e g' st => by simp [Itr]
  yld := fun i G' H' x H2 e g' st hi ⟨e1, hy⟩ => by
    subst e1 hy
    rw [List.length_map, List.length_range] at hi
    exact ⟨.int (lo + i), by simp [hi], .refl, rfl, g'⟩
theorem itd_str {x : Str} : ItD K (Its x) (x.cps.toList.map fun c => D.str ⟨#[c]⟩) (fun _ => True) G H where
  go := fun i G' H' e g' st hi => by simpa [Its] using hi
  stop := fun G' H' e g' st => by simp [Its]
  yld := fun i G' H' v H2 e g' st hi ⟨e1, c, hc, hy⟩ => by
    subst e1 hy
    exact ⟨.str ⟨#[c]⟩, by rw [List.getElem?_map, Array.getElem?_toList, hc]; rfl, .refl, rfl, g'⟩
def zipD (xs ys : List D) : List D := List.zipWith (fun a b => D.tup [a, b]) xs ys
theorem zip_get {xs ys : List D} {i : Nat} {a b : D} (h1 : xs[i]? = some a) (h2 : ys[i]? = some b) : (zipD xs ys)[i]? = some (.tup [a, b]) := by
  unfold zipD; rw [List.getElem?_zipWith, h1, h2]
theorem pair_alloc {x y : D} {a b : V} {T : Addr} (r1 : Rep K H G x a) (r2 : Rep K H G y b) (g : RG K H G) (hT : H T = none) :
    Ext G H G (upd H T (.tup [a, b])) ∧ Rep K (upd H T (.tup [a, b])) G (.tup [x, y]) (.ref T) ∧ RG K (upd H T (.tup [a, b])) G :=
  have e : Ext G H G (upd H T (.tup [a, b])) := .alloc hT (g.fresh hT)
  ⟨e, ⟨T, [a, b], rfl, .inl ⟨g.fresh hT, .inl upd_same⟩, .cons (r1.ext e) (.cons (r2.ext e) .nil)⟩, g.alloc hT⟩
theorem itd_zip {x y : D} {a b : Addr} {xs ys : List D} (r : Rep K H G x (.ref a)) (s : Rep K H G y (.ref b)) (g : RG K H G) (h : asL G x = some xs) (k : asL G y = some ys) : ItD K (Itz K a b) (zipD xs ys) (fun G => stL x xs G ∧ stL y ys G) G H where
  go := fun i G' H' e g' st hi => by
    obtain ⟨p, vs, q, sq, rl⟩ := asL_at (r.ext e) g' (list_stays r g h e g' st.1)
    cases q
    obtain ⟨p, us, q, sq2, rl2⟩ := asL_at (s.ext e) g' (list_stays s g k e g' st.2)
    cases q
    unfold zipD at hi
    rw [List.length_zipWith] at hi
    exact ⟨vs, us, _, _, sq, sq2, List.getElem?_eq_getElem (by rw [rl.length]; omega), List.getElem?_eq_getElem (by rw [rl2.length]; omega)⟩
  stop := fun G' H' e g' st => by
    obtain ⟨p, vs, q, sq, rl⟩ := asL_at (r.ext e) g' (list_stays r g h e g' st.1)
    cases q
    obtain ⟨p, us, q, sq2, rl2⟩ := asL_at (s.ext e) g' (list_stays s g k e g' st.2)
    cases q
    refine ⟨vs, us, sq, sq2, ?_⟩
    unfold zipD
    rw [List.length_zipWith, rl.length, rl2.length]
    omega
  yld := fun i G' H' v H2 e g' st hi ⟨T, x1, y1, e1, hT, e2, hx, hy⟩ => by
    subst e1 e2
    obtain ⟨p, vs, q, sq, rl⟩ := asL_at (r.ext e) g' (list_stays r g h e g' st.1)
    cases q
    obtain ⟨p, us, q, sq2, rl2⟩ := asL_at (s.ext e) g' (list_stays s g k e g' st.2)
    cases q
    obtain ⟨d1, h1, w1⟩ := rl.getV (hx vs sq)
    obtain ⟨d2, h2, w2⟩ := rl2.getV (hy us sq2)
    exact ⟨.tup [d1, d2], zip_get h1 h2, pair_alloc w1 w2 g' hT⟩
theorem itd_zipT {a b : Addr} {xs ys : List D} {vs us : List V} (k : TuO K H G a vs) (rl : RepL K H G xs vs) (k2 : TuO K H G b us) (rl2 : RepL K H G ys us) : ItD K (ItzT K a b) (zipD xs ys) (fun _ => True) G H where
  go := fun i G' H' e g' st hi => by
    unfold zipD at hi
    rw [List.length_zipWith] at hi
    exact ⟨vs, us, _, _, (k.ext e).sq, (k2.ext e).sq, List.getElem?_eq_getElem (by rw [rl.length]; omega), List.getElem?_eq_getElem (by rw [rl2.length]; omega)⟩
  stop := fun G' H' e g' st => by
    refine ⟨vs, us, (k.ext e).sq, (k2.ext e).sq, ?_⟩
    unfold zipD
    rw [List.length_zipWith, rl.length, rl2.length]
    omega
  yld := fun i G' H' v H2 e g' st hi ⟨T, x1, y1, e1, hT, e2, hx, hy⟩ => by
    subst e1 e2
    obtain ⟨d1, h1, w1⟩ := (RepL.ext e xs rl).getV (hx vs (k.ext e).sq)
    obtain ⟨d2, h2, w2⟩ := (RepL.ext e ys rl2).getV (hy us (k2.ext e).sq)
    exact ⟨.tup [d1, d2], zip_get h1 h2, pair_alloc w1 w2 g' hT⟩
def enumD (xs : List D) : List D := xs.zipIdx.map fun p => .tup [.int p.2, p.1]
theorem itd_enum {x : D} {a : Addr} {ds : List D} (r : Rep K H G x (.ref a)) (g : RG K H G) (h : asL G x = some ds) : ItD K (Ite K a) (enumD ds) (stL x ds) G H where
  go := fun i G' H' e g' st hi => by
    obtain ⟨p, vs, q, sq, rl⟩ := asL_at (r.ext e) g' (list_stays r g h e g' st)
    cases q
    unfold enumD at hi
    rw [List.length_map, List.length_zipIdx] at hi
    exact ⟨vs, _, sq, List.getElem?_eq_getElem (by rw [rl.length]; exact hi)⟩
  stop := fun G' H' e g' st => by
    obtain ⟨p, vs, q, sq, rl⟩ := asL_at (r.ext e) g' (list_stays r g h e g' st)
    cases q
    refine ⟨vs, sq, ?_⟩
    unfold enumD
    rw [List.length_map, List.length_zipIdx]
    exact Nat.le_of_eq rl.length
  yld := fun i G' H' v H2 e g' st hi ⟨T, y, e1, hT, e2, hy⟩ => by
    subst e1 e2
    obtain ⟨p, vs, q, sq, rl⟩ := asL_at (r.ext e) g' (list_stays r g h e g' st)
    cases q
    obtain ⟨d, h1, h2⟩ := rl.getV (hy vs sq)
    refine ⟨.tup [.int i, d], ?_, pair_alloc (x := .int (i : Nat)) rfl h2 g' hT⟩
    unfold enumD
    rw [List.getElem?_map, List.getElem?_zipIdx, h1]
    simp
end
section
variable {X : Cx} {W : WX} {tg l : Expr} {w w2 : W3} {p pos tpos : Pos}
theorem PI.imp {tg e : Expr} {t t' : TI} (h : PI X tg e t) (f : ∀ σ H R, t' σ H R → t σ H R) : PI X tg e t' := ⟨fun pins s σ H R I q => h.run pins s σ H R I (f _ _ _ q)⟩
/-- a list walked; a tuple walked -/
def iLst (w : W3) : I3 := fun env G R Ex => w env G (fun x G1 => ∃ ds, asL G1 x = some ds ∧ R ds (stL x ds) G1) Ex
def iTpl (w : W3) : I3 := fun env G R Ex => w env G (fun x G1 => ∃ ds, asT x = some ds ∧ R ds (fun _ => True) G1) Ex
theorem i_lst (hl : PE X l (up X.K W w)) : PI X tg l (upI X.K W (iLst w)) := PI.imp (pi_list hl) fun σ H R ⟨env, G, R3, Ex, re, rg, h, fx, f⟩ => by
  refine up_go re rg h fx fun x v G1 H1 e1 rx rg1 ⟨ds, h1, h2⟩ => ?_
  obtain ⟨a, vs, rfl, sq, rl⟩ := asL_at rx rg1 h1
  exact ⟨a, rfl, ⟨vs, sq⟩, f _ H1 G1 ds _ e1 rg1 (itd_list rx rg1 h1) h2⟩
theorem i_tpl (hl : PE X l (up X.K W w)) : PI X tg l (upI X.K W (iTpl w)) := PI.imp (pi_tup hl) fun σ H R ⟨env, G, R3, Ex, re, rg, h, fx, f⟩ => by
  refine up_go re rg h fx fun x v G1 H1 e1 rx rg1 ⟨ds, h1, h2⟩ => ?_
  cases x <;> simp only [asT] at h1 <;> try cases h1
  obtain ⟨a, vs, rfl, k, rl⟩ := rx
  exact ⟨a, rfl, ⟨vs, k.sq⟩, f _ H1 G1 ds _ e1 rg1 (itd_tup k rl) h2⟩
def iRg1 (w : W3) : I3 := fun env G R Ex => w env G (fun x G1 => ∃ j : Int, x = .int j ∧ -(2 ^ 62) ≤ j ∧ j < 2 ^ 62 ∧ R ((List.range j.toNat).map fun i : Nat => D.int (0 + i)) (fun _ => True) G1) Ex
theorem i_rg1 {a : Expr} (hm : X.mg "range" = none) (ha : PE X a (up X.K W w)) (hg : Gl X "range" := by rfl) (hs : starEach [a] X.env = [(false, eval a X.env)] := by rfl) : PI X tg (.Call (.Name "range" p) [a] [] pos) (upI X.K W (iRg1 w)) :=
  PI.imp (pi_range1 hg hm (pa_cons ha pa_nil hs) hs) fun σ H R ⟨env, G, R3, Ex, re, rg, h, fx, f⟩ => by
    refine up_go re rg h fx fun x v G1 H1 e1 rx rg1 ⟨j, h1, h2, h3, h4⟩ => ?_
    subst h1
    obtain rfl : v = V.int j := rx
    exact ⟨j, rfl, h2, h3, f _ H1 G1 _ _ e1 rg1 itd_range h4⟩
def iRg2 (w w2 : W3) : I3 := fun env G R Ex => w env G (fun x G1 => w2 env G1 (fun y G2 => ∃ i j : Int, x = .int i ∧ y = .int j ∧ (-(2 ^ 62) ≤ i ∧ i < 2 ^ 62 ∧ -(2 ^ 62) ≤ j ∧ j < 2 ^ 62) ∧ R ((List.range (j - i).toNat).map fun k : Nat => D.int (i + k)) (fun _ => True) G2) Ex) Ex
theorem i_rg2 {a b : Expr} (hm : X.mg "range" = none) (ha : PE X a (up X.K W w)) (hb : PE X b (up X.K W w2)) (hg : Gl X "range" := by rfl) (hs : starEach [a, b] X.env = [(false, eval a X.env), (false, eval b X.env)] := by rfl) (hs2 : starEach [b] X.env = [(false, eval b X.env)] := by rfl) :
    PI X tg (.Call (.Name "range" p) [a, b] [] pos) (upI X.K W (iRg2 w w2)) :=
  PI.imp (pi_range2 hg hm (pa_cons ha (pa_cons hb pa_nil hs2) (by rw [hs, hs2])) hs hs2) fun σ H R ⟨env, G, R3, Ex, re, rg, h, fx, f⟩ => by
    refine up_go re rg h fx fun x v G1 H1 e1 rx rg1 h1 => ?_
    refine up_go (re.ext e1) rg1 h1 (fx.ext e1) fun y u G2 H2 e2 ry rg2 ⟨i, j, q1, q2, q3, q4⟩ => ?_
    subst q1 q2
    obtain rfl : v = V.int i := rx
    obtain rfl : u = V.int j := ry
    exact ⟨i, j, rfl, q3, f _ H2 G2 _ _ (e1.trans e2) rg2 itd_range q4⟩
def iStr3 (w : W3) : I3 := fun env G R Ex => w env G (fun x G1 => ∃ z, x = .str z ∧ R (z.cps.toList.map fun c => D.str ⟨#[c]⟩) (fun _ => True) G1) Ex
theorem i_str (hl : PE X l (up X.K W w)) : PI X tg l (upI X.K W (iStr3 w)) := PI.imp (pi_str hl) fun σ H R ⟨env, G, R3, Ex, re, rg, h, fx, f⟩ => by
  refine up_go re rg h fx fun x v G1 H1 e1 rx rg1 ⟨z, h1, h2⟩ => ?_
  subst h1
  obtain rfl : v = V.str z := rx
  exact ⟨z, rfl, f _ H1 G1 _ _ e1 rg1 itd_str h2⟩
/-- zip of two lists or of two tuples -/
def iZp (w w2 : W3) : I3 := fun env G R Ex => w env G (fun x G1 => w2 env G1 (fun y G2 => (∃ xs ys, asT x = some xs ∧ asT y = some ys ∧ R (zipD xs ys) (fun _ => True) G2) ∨
  (∃ xs ys, asL G2 x = some xs ∧ asL G2 y = some ys ∧ R (zipD xs ys) (fun G => stL x xs G ∧ stL y ys G) G2)) Ex) Ex
theorem i_zip {a b : Expr} {elts : List Expr} {kk : Nat} (hm : X.mg "zip" = none) (ha : PE X a (up X.K W w)) (hb : PE X b (up X.K W w2)) (hg : Gl X "zip" := by rfl) (hs : starEach [a, b] X.env = (false, eval a X.env) :: starEach [b] X.env := by rfl)
    (hs2 : starEach [b] X.env = (false, eval b X.env) :: starEach [] X.env := by rfl) (hpl : (backTo pos (starEach [b] X.env)).any (·.1) = false := by rfl) : PI X (.Tuple elts kk tpos) (.Call (.Name "zip" p) [a, b] [] pos) (upI X.K W (iZp w w2)) :=
  PI.imp (pi_zipA hg hm (pa_cons ha (pa_cons hb pa_nil hs2) hs) hs hpl) fun σ H R ⟨env, G, R3, Ex, re, rg, h, fx, f⟩ => by
    refine up_go re rg h fx fun x v G1 H1 e1 rx rg1 h1 => ?_
    refine up_go (re.ext e1) rg1 h1 (fx.ext e1) fun y u G2 H2 e2 ry rg2 h2 => ?_
    have rx2 := rx.ext e2
    rcases h2 with ⟨xs, ys, q1, q2, q3⟩ | ⟨xs, ys, q1, q2, q3⟩
    · cases x <;> simp only [asT] at q1 <;> try cases q1
      cases y <;> simp only [asT] at q2 <;> try cases q2
      obtain ⟨a, vs, rfl, k, rl⟩ := rx2
      obtain ⟨b, us, rfl, k2, rl2⟩ := ry
      exact ⟨a, b, vs, us, rfl, .inr ⟨k.sq, k2.sq, f _ H2 G2 _ _ (e1.trans e2) rg2 (itd_zipT k rl k2 rl2) q3⟩⟩
    · obtain ⟨a, vs, rfl, sq, rl⟩ := asL_at rx2 rg2 q1
      obtain ⟨b, us, rfl, sq2, rl2⟩ := asL_at ry rg2 q2
      exact ⟨a, b, vs, us, rfl, .inl ⟨sq, sq2, f _ H2 G2 _ _ (e1.trans e2) rg2 (itd_zip rx2 ry rg2 q1 q2) q3⟩⟩
def iEn (w : W3) : I3 := fun env G R Ex => w env G (fun x G1 => ∃ ds, asL G1 x = some ds ∧ R (enumD ds) (stL x ds) G1) Ex
theorem i_enum {a : Expr} {elts : List Expr} {kk : Nat} (hm : X.mg "enumerate" = none) (ha : PE X a (up X.K W w)) (hg : Gl X "enumerate" := by rfl) (hs : starEach [a] X.env = [(false, eval a X.env)] := by rfl) :
    PI X (.Tuple elts kk tpos) (.Call (.Name "enumerate" p) [a] [] pos) (upI X.K W (iEn w)) :=
  PI.imp (pi_enum hg hm (pa_cons ha pa_nil hs) hs) fun σ H R ⟨env, G, R3, Ex, re, rg, h, fx, f⟩ => by
    refine up_go re rg h fx fun x v G1 H1 e1 rx rg1 ⟨ds, h1, h2⟩ => ?_
    obtain ⟨a, vs, rfl, sq, rl⟩ := asL_at rx rg1 h1
    exact ⟨a, vs, rfl, sq, f _ H1 G1 _ _ e1 rg1 (itd_enum rx rg1 h1) h2⟩
end

/-! ### for, while -/
def lp (st : GH → Prop) (g : G3) (b : S3) (E : E3) : List D → Env3 → GH → Prop
  | [], env, G => st G ∧ E.nx env G
  | d :: r, env, G => st G ∧ g d env G fun env1 G1 => b { E with nx := fun env2 G2 => lp st g b E r env2 G2, ct := fun env2 G2 => lp st g b E r env2 G2, bk := E.nx } env1 G1
def wFor (it : I3) (g : G3) (b : S3) : S3 := fun E env G => it env G (fun ds st G1 => lp st g b E ds env G1) E.ex
theorem lp_st {st : GH → Prop} {g : G3} {b : S3} {E : E3} {ds : List D} {env : Env3} {G : GH} (h : lp st g b E ds env G) : st G := by cases ds <;> exact h.1
section
variable {X : Cx} {W : WX} {tg iter : Expr} {body : List Stmt} {js : List Nat} {it : I3} {g : G3} {b : S3} {pos : Pos}
theorem s_for (hp : PassesOwn (model X.prog X.w) X.A X.env X.xe) (hc : X.calm = true) (hi : PI X tg iter (upI X.K W it)) (hg : PG X tg (upG X.K js g)) (hb : PSs X body (upS X.K W b)) (hs : ∀ x, foldedSetIterable iter X.env x = pure x := by intro _; rfl) :
    PS X (.For tg iter body [] pos) (upS X.K W (wFor it g b)) := PS.imp (ps_for hp hc hi hg hb hs) fun D σ H ⟨env, G, E, re, rg, h, f⟩ => by
  refine ⟨env, G, _, E.ex, re, rg, h, f.ex, fun J H1 G1 ds st e1 rg1 iJ h1 => ?_⟩
  refine ⟨fun i m σ' H' => ∃ env' G', m = ds.length - i ∧ i ≤ ds.length ∧ REnv X.K H' G' env' σ' ∧ RG X.K H' G' ∧ Ext G1 H1 G' H' ∧ lp st g b E (ds.drop i) env' G', ⟨ds.length, env, G1, by simp, Nat.zero_le _, re.ext e1, rg1, .refl, h1⟩, ?_⟩
  rintro i m σ' H' ⟨env', G', rfl, hi, re', rg', e', h'⟩
  by_cases hlt : i < ds.length
  · right
    have hd : ds.drop i = ds[i] :: ds.drop (i + 1) := (List.getElem_cons_drop hlt).symm
    refine ⟨iJ.go i G' H' e' rg' (lp_st h') hlt, fun σ2 H2 => ∃ env2 G2, REnv X.K H2 G2 env2 σ2 ∧ RG X.K H2 G2 ∧ Ext G1 H1 G2 H2 ∧ lp st g b E (ds.drop (i + 1)) env2 G2, ?_, ?_⟩
    · rintro σ2 H2 ⟨env2, G2, a1, a2, a3, a4⟩
      exact ⟨ds.length - (i + 1), by omega, env2, G2, rfl, hlt, a1, a2, a3, a4⟩
    · intro x H2 hy
      obtain ⟨d, q1, q2, q3, q4⟩ := iJ.yld i G' H' x H2 e' rg' (lp_st h') hlt hy
      rw [hd] at h'
      rw [List.getElem?_eq_getElem hlt] at q1
      obtain rfl := Option.some.inj q1
      refine ⟨_, env', G', _, q3, re'.ext q2, q4, h'.2, fun env2 σ2 G2 H3 _ e2 re2 rg2 h2 => ?_⟩
      have e3 := (e'.trans q2).trans e2
      have f2 := f.ext (e1.trans e3)
      exact upS_go re2 rg2 h2 ⟨fun env3 σ3 G3 H4 e4 re4 rg4 h4 => ⟨env3, G3, re4, rg4, e3.trans e4, h4⟩, f2.rt, f2.nx, fun env3 σ3 G3 H4 e4 re4 rg4 h4 => ⟨env3, G3, re4, rg4, e3.trans e4, h4⟩, f2.ex⟩
  · left
    have ei : i = ds.length := by omega
    subst ei
    rw [List.drop_length] at h'
    exact ⟨iJ.stop G' H' e' rg' h'.1, f.nx env' σ' G' H' (e1.trans e') re' rg' h'.2⟩
def whl (t : T3) (b : S3) (E : E3) : Nat → Env3 → GH → Prop
  | 0, _, _ => False
  | n + 1, env, G => t env G (fun c G1 => if c = true then b { E with nx := whl t b E n, ct := whl t b E n, bk := E.nx } env G1 else E.nx env G1) E.ex
def wWhile (t : T3) (b : S3) : S3 := fun E env G => ∃ n, whl t b E n env G
theorem s_while {c : Expr} {t : T3} (hp : PassesOwn (model X.prog X.w) X.A X.env X.xe) (hc : PT X c (upT X.K W t)) (hb : PSs X body (upS X.K W b)) : PS X (.While c body [] pos) (upS X.K W (wWhile t b)) := PS.imp (ps_while hp hc hb) fun D σ H ⟨env, G, E, re, rg, ⟨n, h⟩, f⟩ => by
  refine ⟨fun m σ' H' => ∃ env' G', REnv X.K H' G' env' σ' ∧ RG X.K H' G' ∧ Ext G H G' H' ∧ whl t b E m env' G', ⟨n, env, G, re, rg, .refl, h⟩, ?_⟩
  rintro m σ' H' ⟨env', G', re', rg', e', h'⟩
  cases m with
  | zero => exact h'.elim
  | succ m =>
    refine upT_go re' rg' h' (f.ex.ext e') fun c G1 H1 e1 rg1 h1 => ?_
    have f2 := f.ext (e'.trans e1)
    cases c with
    | false => exact f2.nx env' σ' G1 H1 .refl (re'.ext e1) rg1 h1
    | true =>
      refine ⟨fun σ2 H2 => ∃ env2 G2, REnv X.K H2 G2 env2 σ2 ∧ RG X.K H2 G2 ∧ Ext G H G2 H2 ∧ whl t b E m env2 G2, fun σ2 H2 q => ⟨m, Nat.lt_succ_self m, q⟩, ?_⟩
      exact upS_go (re'.ext e1) rg1 h1 ⟨fun env3 σ3 G3 H4 e4 re4 rg4 h4 => ⟨env3, G3, re4, rg4, (e'.trans e1).trans e4, h4⟩, f2.rt, f2.nx, fun env3 σ3 G3 H4 e4 re4 rg4 h4 => ⟨env3, G3, re4, rg4, (e'.trans e1).trans e4, h4⟩, f2.ex⟩
end

/-! ### list comprehensions -/
def wipe3 (env : Env3) : List Nat → Env3
  | [] => env
  | v :: vs => (wipe3 env vs).set v none
theorem REnv.wipe {K : PySem.W.Frag} {H : Hp} {G : GH} {env : Env3} {σ : St} (r : REnv K H G env σ) : ∀ vs : List Nat, REnv K H G (wipe3 env vs) (L2.wipe σ vs)
  | [] => r
  | v :: vs => (REnv.wipe r vs).unset v
theorem wipe_get {σ : St} {i : Nat} : ∀ {vs : List Nat}, (L2.wipe σ vs)[i]? = if i ∈ vs then (if i < σ.length then some none else none) else σ[i]?
  | [] => by simp [L2.wipe]
  | v :: vs => by
    have ih := wipe_get (σ := σ) (i := i) (vs := vs)
    unfold L2.wipe
    by_cases h : v = i
    · subst h
      by_cases hl : v < σ.length
      · rw [List.getElem?_set_self (by rw [wipe_length]; exact hl)]; simp [hl]
      · rw [List.getElem?_eq_none (by rw [List.length_set, wipe_length]; omega)]; simp [hl]
    · rw [List.getElem?_set_ne h, ih]
      by_cases hi : i ∈ vs
      · simp [hi]
      · have : ¬ i = v := fun e => h e.symm
        simp [hi, this]
theorem But.wipe {js vs : List Nat} {σ σ' : St} (b : But js σ σ') (h : ∀ i ∈ js, i ∈ vs) : L2.wipe σ' vs = L2.wipe σ vs := by
  apply List.ext_getElem?
  intro i
  rw [wipe_get, wipe_get, b.1]
  by_cases hi : i ∈ vs
  · simp only [hi, if_true]
  · simp only [hi, if_false]
    exact b.2 i fun z => hi (h i z)
theorem wipe_wipe {σ : St} {vs us : List Nat} (h : ∀ i ∈ us, i ∈ vs) : L2.wipe (L2.wipe σ us) vs = L2.wipe σ vs := by
  apply List.ext_getElem?
  intro i
  rw [wipe_get (σ := L2.wipe σ us), wipe_get (σ := σ) (vs := vs), wipe_length]
  by_cases hi : i ∈ vs
  · rw [if_pos hi, if_pos hi]
  · rw [if_neg hi, if_neg hi, wipe_get, if_neg fun z => hi (h i z)]
abbrev noX : X3 := fun _ _ _ _ => False
abbrev W0 : WX := fun _ _ _ _ => False
/-- D the list so far, acc its items -/
def lc (st : GH → Prop) (g : G3) (tt : T3) (te : W3) (env : Env3) (D0 : Addr) (R : List D → GH → Prop) : List D → List D → GH → Prop
  | [], acc, G => st G ∧ G D0 = some (.lst acc) ∧ R acc G
  | d :: r, acc, G => st G ∧ G D0 = some (.lst acc) ∧ g d env G fun env2 G2 => tt env2 G2 (fun c G3 => if c = true then te env2 G3 (fun y G4 => G4 D0 = some (.lst acc) ∧ acc.length < sizeLine ∧ lc st g tt te env D0 R r (acc ++ [y]) (gset G4 D0 (.lst (acc ++ [y])))) noX
      else lc st g tt te env D0 R r acc G3) noX
/-- the new list is not changed later / is -/
def wLc (it : I3) (g : G3) (tt : T3) (te : W3) (vs : List Nat) : W3 := fun env G R Ex => it env G (fun ds st G1 => ∀ p, G1 p = none → lc st g tt te (wipe3 env vs) p (fun acc G2 => R (.lst acc) (gdel G2 p)) ds [] (gset G1 p (.lst []))) Ex
def wLcO (it : I3) (g : G3) (tt : T3) (te : W3) (vs : List Nat) : W3 := fun env G R Ex => it env G (fun ds st G1 => ∀ p, G1 p = none → lc st g tt te (wipe3 env vs) p (fun _ G2 => R (.ref p) G2) ds [] (gset G1 p (.lst []))) Ex
theorem lc_st {st : GH → Prop} {g : G3} {tt : T3} {te : W3} {env : Env3} {D0 : Addr} {R : List D → GH → Prop} {ds acc : List D} {G : GH} (h : lc st g tt te env D0 R ds acc G) : st G := by cases ds <;> exact h.1
theorem lc_hd {st : GH → Prop} {g : G3} {tt : T3} {te : W3} {env : Env3} {D0 : Addr} {R : List D → GH → Prop} {ds acc : List D} {G : GH} (h : lc st g tt te env D0 R ds acc G) : G D0 = some (.lst acc) := by cases ds <;> exact h.2.1
theorem nox0 {K : PySem.W.Frag} {W : WX} {H : Hp} {G : GH} : FinX K W H G noX := fun _ _ _ _ _ _ _ _ _ _ _ z => z.elim
def tYes3 : T3 := fun _ G R _ => R true G
/-- the core of both -/
theorem lc_up {K : PySem.W.Frag} {W : WX} {it : I3} {g : G3} {tt : T3} {te : W3} {vs js : List Nat} {σ : St} {H : Hp} {Q : VK} {env : Env3} {G : GH} {Ex : X3} (hjs : ∀ i ∈ js, i ∈ vs) (re : REnv K H G env σ) (rg : RG K H G) (fx : FinX K W H G Ex) (R : Addr → List D → GH → Prop)
    (h : it env G (fun ds st G1 => ∀ p, G1 p = none → lc st g tt te (wipe3 env vs) p (R p) ds [] (gset G1 p (.lst []))) Ex)
    (fin : ∀ p acc ws G' H', Ext G H G' H' → RG K H' G' → G' p = some (.lst acc) → H' p = some (.lst ws) → RepL K H' G' acc ws → R p acc G' → Q (.ref p) H') :
    tLc (upI K W it) (upG K js g) (upT K W0 tt) (up K W0 te) vs σ H Q := by
  refine ⟨env, G, _, Ex, re, rg, h, fx, fun J H1 G1 ds st e1 rg1 iJ h1 p hp => ?_⟩
  have gp := rg1.fresh hp
  have e2 : Ext G1 H1 (gset G1 p (.lst [])) (upd H1 p (.lst [])) := .allocG hp
  have rg2 : RG K (upd H1 p (.lst [])) (gset G1 p (.lst [])) := rg1.allocG (go := .lst []) hp ⟨[], upd_same, rfl⟩
  refine ⟨fun i m H' => ∃ G' acc, m = ds.length - i ∧ i ≤ ds.length ∧ Ext G1 H1 G' H' ∧ RG K H' G' ∧ G' p = some (.lst acc) ∧ lc st g tt te (wipe3 env vs) p (R p) (ds.drop i) acc G', ⟨ds.length, gset G1 p (.lst []), [], by simp, Nat.zero_le _, e2, rg2, gset_same, h1 p gp⟩, ?_⟩
  rintro i m H' ⟨G', acc, rfl, hi, e', rg', hg', h'⟩
  by_cases hlt : i < ds.length
  · right
    have hd : ds.drop i = ds[i] :: ds.drop (i + 1) := (List.getElem_cons_drop hlt).symm
    refine ⟨iJ.go i G' H' e' rg' (lc_st h') hlt, fun H2 => ∃ G2 acc2, Ext G1 H1 G2 H2 ∧ RG K H2 G2 ∧ G2 p = some (.lst acc2) ∧ lc st g tt te (wipe3 env vs) p (R p) (ds.drop (i + 1)) acc2 G2, ?_, ?_⟩
    · rintro H2 ⟨G2, acc2, a1, a2, a3, a4⟩
      exact ⟨ds.length - (i + 1), by omega, G2, acc2, rfl, hlt, a1, a2, a3, a4⟩
    · intro x H2 hy
      obtain ⟨d, q1, q2, q3, q4⟩ := iJ.yld i G' H' x H2 e' rg' (lc_st h') hlt hy
      rw [hd] at h'
      rw [List.getElem?_eq_getElem hlt] at q1
      obtain rfl := Option.some.inj q1
      have e4 := e'.trans q2
      refine ⟨_, wipe3 env vs, G', _, q3, (re.ext (e1.trans e4)).wipe vs, q4, h'.2.2, fun env2 σ2 G2 H3 bt e3 re3 rg3 h3 => ⟨(bt.wipe hjs).trans (wipe_wipe fun _ z => z), ?_⟩⟩
      refine upT_go re3 rg3 h3 nox0 fun c G3 H4 e5 rg4 h4 => ?_
      cases c with
      | false =>
        have h4' := h4
        rw [if_neg Bool.false_ne_true] at h4'
        exact ⟨G3, acc, (e4.trans e3).trans e5, rg4, lc_hd h4', h4'⟩
      | true =>
        rw [if_pos rfl] at h4
        rw [if_pos rfl]
        refine up_go (re3.ext e5) rg4 h4 nox0 fun y v G4 H5 e6 ry rg5 ⟨k1, k2, k3⟩ => ?_
        obtain ⟨ws, k4, k5⟩ := rg5 p _ k1
        have ew : Ext G4 H5 (gset G4 p (.lst (acc ++ [y]))) (upd H5 p (.lst (ws ++ [v]))) := .write k1
        refine ⟨ws, k4, by rw [k5.length]; exact k2, _, acc ++ [y], (((e4.trans e3).trans e5).trans e6).trans ew, ?_, gset_same, k3⟩
        exact rg5.write (go := .lst (acc ++ [y])) k1 ⟨_, upd_same, RepL.ext ew _ (k5.append (.one ry))⟩
  · left
    have ei : i = ds.length := by omega
    subst ei
    rw [List.drop_length] at h'
    obtain ⟨h1, h2, h3⟩ := h'
    obtain ⟨ws, k4, k5⟩ := rg' p _ h2
    exact ⟨iJ.stop G' H' e' rg' h1, fin p acc ws G' H' (e1.trans e') rg' h2 k4 k5 h3⟩
end L3

set_option Elab.async false
set_option linter.all false
set_option maxRecDepth 100000
namespace L3
open PySem PySem.Spec L2
open PyProof.Rows hiding St
section
variable {X : Cx} {W : WX} {elt tg iter : Expr} {ifs : List Expr} {scope : Scope} {pos spos : Pos} {it : I3} {g : G3} {tt : T3} {te : W3} {js : List Nat}
theorem PTs.imp {t t' : TT} (h : PTs X ifs t) (f : ∀ σ H Q, t' σ H Q → t σ H Q) : PTs X ifs t' := ⟨fun pins s σ H Q I q => h.run pins s σ H Q I (f _ _ _ q)⟩
theorem ts_nil : PTs X [] (upT X.K W tYes3) := PTs.imp pts_nil fun σ H Q ⟨env, G, R, Ex, re, rg, h, fe, fx⟩ => fe true G H .refl rg h
theorem ts_one {c : Expr} (h : PT X c (upT X.K W tt)) : PTs X [c] (upT X.K W tt) := pts_one h
theorem c_lc (own : List (Str × Nat)) (hc : X.calm = true) (hN : X.N.Nodup) (hi : PI X tg iter (upI X.K W it)) (ok : BlkOk X.N X.env.scope scope own) (hjs : ∀ i ∈ js, i ∈ own.map (·.2))
    (hg : ∀ (s : Shared) (H : Hp) (C : Addr) (cl : List (Str × Addr)) (fp : List Addr), PG (X.blk s H scope (compEnvC scope cl C X.env) fp) tg (upG X.K js g)) (ht : ∀ (s : Shared) (H : Hp) (C : Addr) (cl : List (Str × Addr)) (fp : List Addr), PTs (X.blk s H scope (compEnvC scope cl C X.env) fp) ifs (upT X.K W0 tt))
    (he : ∀ (s : Shared) (H : Hp) (C : Addr) (cl : List (Str × Addr)) (fp : List Addr), PE (X.blk s H scope (compEnvC scope cl C X.env) fp) elt (up X.K W0 te)) (hs : ∀ x, foldedSetIterable iter X.env x = pure x := by intro _; rfl) :
    PE X (.ListComp elt [⟨tg, iter, ifs, 0⟩] scope pos) (up X.K W (wLc it g tt te (own.map (·.2)))) := PE.imp (pe_lc hc hN hi ok hg ht he hs) fun σ H Q ⟨env, G, R, Ex, re, rg, h, fe, fx⟩ => by
  refine lc_up hjs re rg fx (fun p acc G2 => R (.lst acc) (gdel G2 p)) h fun p acc ws G' H' e r gp hp rl q => ?_
  exact fe (.lst acc) _ _ H' (e.trans .freeze) ⟨p, ws, rfl, gdel_same, hp, RepL.ext .freeze acc rl⟩ r.freeze q
theorem c_lcO (own : List (Str × Nat)) (hc : X.calm = true) (hN : X.N.Nodup) (hi : PI X tg iter (upI X.K W it)) (ok : BlkOk X.N X.env.scope scope own) (hjs : ∀ i ∈ js, i ∈ own.map (·.2))
    (hg : ∀ (s : Shared) (H : Hp) (C : Addr) (cl : List (Str × Addr)) (fp : List Addr), PG (X.blk s H scope (compEnvC scope cl C X.env) fp) tg (upG X.K js g)) (ht : ∀ (s : Shared) (H : Hp) (C : Addr) (cl : List (Str × Addr)) (fp : List Addr), PTs (X.blk s H scope (compEnvC scope cl C X.env) fp) ifs (upT X.K W0 tt))
    (he : ∀ (s : Shared) (H : Hp) (C : Addr) (cl : List (Str × Addr)) (fp : List Addr), PE (X.blk s H scope (compEnvC scope cl C X.env) fp) elt (up X.K W0 te)) (hs : ∀ x, foldedSetIterable iter X.env x = pure x := by intro _; rfl) :
    PE X (.ListComp elt [⟨tg, iter, ifs, 0⟩] scope pos) (up X.K W (wLcO it g tt te (own.map (·.2)))) := PE.imp (pe_lc hc hN hi ok hg ht he hs) fun σ H Q ⟨env, G, R, Ex, re, rg, h, fe, fx⟩ => by
  refine lc_up hjs re rg fx (fun p acc G2 => R (.ref p) G2) h fun p acc ws G' H' e r gp hp rl q => ?_
  exact fe (.ref p) _ _ H' e rfl r q
/-- name = [..] on one line, the name a plain local -/
theorem s_setLc (i : Nat) (own : List (Str × Nat)) {y : Str} {py : Pos} (hc : X.calm = true) (hN : X.N.Nodup) (hy : X.N[i]? = some y) (hyl : X.env.scope.names.lookup y = some .local)
    (hsw : swapsWith (.ListComp elt [⟨tg, iter, ifs, 0⟩] scope pos) (some (.Name y py)) spos.line X.env = pure true) (hi : PI X tg iter (upI X.K W it)) (ok : BlkOk X.N X.env.scope scope own) (hjs : ∀ i ∈ js, i ∈ own.map (·.2))
    (hg : ∀ (s : Shared) (H : Hp) (C : Addr) (cl : List (Str × Addr)) (fp : List Addr), PG (X.blk s H scope (compEnvC scope cl C X.env) fp) tg (upG X.K js g)) (ht : ∀ (s : Shared) (H : Hp) (C : Addr) (cl : List (Str × Addr)) (fp : List Addr), PTs (X.blk s H scope (compEnvC scope cl C X.env) fp) ifs (upT X.K W0 tt))
    (he : ∀ (s : Shared) (H : Hp) (C : Addr) (cl : List (Str × Addr)) (fp : List Addr), PE (X.blk s H scope (compEnvC scope cl C X.env) fp) elt (up X.K W0 te)) (hs : ∀ x, foldedSetIterable iter X.env x = pure x := by intro _; rfl) :
    PS X (.Assign [.Name y py] (.ListComp elt [⟨tg, iter, ifs, 0⟩] scope pos) spos) (upS X.K W (wSet i (wLc it g tt te (own.map (·.2))))) := PS.imp (ps_setLc hc hN hy hyl hsw hi ok hg ht he hs) fun D σ H ⟨env, G, E, re, rg, h, f⟩ => by
  refine lc_up hjs re rg f.ex (fun p acc G2 => E.nx (env.set i (some (.lst acc))) (gdel G2 p)) h fun p acc ws G' H' e r gp hp rl q => ?_
  exact f.nx _ _ _ H' (e.trans .freeze) (((re.ext e).ext .freeze).set (d := .lst acc) (v := .ref p) ⟨p, ws, rfl, gdel_same, hp, RepL.ext .freeze acc rl⟩ i) r.freeze q
theorem s_setLcO (i : Nat) (own : List (Str × Nat)) {y : Str} {py : Pos} (hc : X.calm = true) (hN : X.N.Nodup) (hy : X.N[i]? = some y) (hyl : X.env.scope.names.lookup y = some .local)
    (hsw : swapsWith (.ListComp elt [⟨tg, iter, ifs, 0⟩] scope pos) (some (.Name y py)) spos.line X.env = pure true) (hi : PI X tg iter (upI X.K W it)) (ok : BlkOk X.N X.env.scope scope own) (hjs : ∀ i ∈ js, i ∈ own.map (·.2))
    (hg : ∀ (s : Shared) (H : Hp) (C : Addr) (cl : List (Str × Addr)) (fp : List Addr), PG (X.blk s H scope (compEnvC scope cl C X.env) fp) tg (upG X.K js g)) (ht : ∀ (s : Shared) (H : Hp) (C : Addr) (cl : List (Str × Addr)) (fp : List Addr), PTs (X.blk s H scope (compEnvC scope cl C X.env) fp) ifs (upT X.K W0 tt))
    (he : ∀ (s : Shared) (H : Hp) (C : Addr) (cl : List (Str × Addr)) (fp : List Addr), PE (X.blk s H scope (compEnvC scope cl C X.env) fp) elt (up X.K W0 te)) (hs : ∀ x, foldedSetIterable iter X.env x = pure x := by intro _; rfl) :
    PS X (.Assign [.Name y py] (.ListComp elt [⟨tg, iter, ifs, 0⟩] scope pos) spos) (upS X.K W (wSet i (wLcO it g tt te (own.map (·.2))))) := PS.imp (ps_setLc hc hN hy hyl hsw hi ok hg ht he hs) fun D σ H ⟨env, G, E, re, rg, h, f⟩ => by
  refine lc_up hjs re rg f.ex (fun p acc G2 => E.nx (env.set i (some (.ref p))) G2) h fun p acc ws G' H' e r gp hp rl q => ?_
  exact f.nx _ _ _ H' e ((re.ext e).set (d := .ref p) (v := .ref p) rfl i) r q
end

/-! ### two clauses -/
/-- the second clause's own loop; N: what follows with the list so far -/
def lcIn (st : GH → Prop) (g : G3) (tt : T3) (te : W3) (env : Env3) (D0 : Addr) (N : List D → GH → Prop) : List D → List D → GH → Prop
  | [], acc, G => st G ∧ G D0 = some (.lst acc) ∧ N acc G
  | d :: r, acc, G => st G ∧ G D0 = some (.lst acc) ∧ g d env G fun env2 G2 => tt env2 G2 (fun c G3 => if c = true then te env2 G3 (fun y G4 => G4 D0 = some (.lst acc) ∧ acc.length < sizeLine ∧ lcIn st g tt te env D0 N r (acc ++ [y]) (gset G4 D0 (.lst (acc ++ [y])))) noX
      else lcIn st g tt te env D0 N r acc G3) noX
def lc2 (st : GH → Prop) (g : G3) (tt : T3) (it1 : I3) (g1 : G3) (tt1 : T3) (te : W3) (vs1 : List Nat) (env : Env3) (D0 : Addr) (R : List D → GH → Prop) : List D → List D → GH → Prop
  | [], acc, G => st G ∧ G D0 = some (.lst acc) ∧ R acc G
  | d :: r, acc, G => st G ∧ G D0 = some (.lst acc) ∧ g d env G fun env2 G2 => tt env2 G2 (fun c G3 => if c = true then it1 env2 G3 (fun es st1 G4 => lcIn st1 g1 tt1 te (wipe3 env2 vs1) D0 (fun acc2 G5 => lc2 st g tt it1 g1 tt1 te vs1 env D0 R r acc2 G5) es acc G4) noX
      else lc2 st g tt it1 g1 tt1 te vs1 env D0 R r acc G3) noX
def wLc2 (it : I3) (g : G3) (tt : T3) (it1 : I3) (g1 : G3) (tt1 : T3) (te : W3) (vs vs1 : List Nat) : W3 := fun env G R Ex => it env G (fun ds st G1 => ∀ p, G1 p = none → lc2 st g tt it1 g1 tt1 te vs1 (wipe3 env vs) p (fun acc G2 => R (.lst acc) (gdel G2 p)) ds [] (gset G1 p (.lst []))) Ex
theorem lcIn_st {st : GH → Prop} {g : G3} {tt : T3} {te : W3} {env : Env3} {D0 : Addr} {R : List D → GH → Prop} {ds acc : List D} {G : GH} (h : lcIn st g tt te env D0 R ds acc G) : st G ∧ G D0 = some (.lst acc) := by cases ds <;> exact ⟨h.1, h.2.1⟩
theorem lc2_st {st : GH → Prop} {g g1 : G3} {tt tt1 : T3} {it1 : I3} {te : W3} {vs1 : List Nat} {env : Env3} {D0 : Addr} {R : List D → GH → Prop} {ds acc : List D} {G : GH} (h : lc2 st g tt it1 g1 tt1 te vs1 env D0 R ds acc G) : st G ∧ G D0 = some (.lst acc) := by cases ds <;> exact ⟨h.1, h.2.1⟩
theorem lc2_up {K : PySem.W.Frag} {W : WX} {it it1 : I3} {g g1 : G3} {tt tt1 : T3} {te : W3} {vs vs1 js js1 : List Nat} {σ : St} {H : Hp} {Q : VK} {env : Env3} {G : GH} {Ex : X3} (hjs : ∀ i ∈ js, i ∈ vs) (hjs1 : ∀ i ∈ js1, i ∈ vs1)
    (re : REnv K H G env σ) (rg : RG K H G) (fx : FinX K W H G Ex) (R : Addr → List D → GH → Prop)
    (h : it env G (fun ds st G1 => ∀ p, G1 p = none → lc2 st g tt it1 g1 tt1 te vs1 (wipe3 env vs) p (R p) ds [] (gset G1 p (.lst []))) Ex)
    (fin : ∀ p acc ws G' H', Ext G H G' H' → RG K H' G' → G' p = some (.lst acc) → H' p = some (.lst ws) → RepL K H' G' acc ws → R p acc G' → Q (.ref p) H') :
    tLc2 (upI K W it) (upG K js g) (upT K W0 tt) (upI K W0 it1) (upG K js1 g1) (upT K W0 tt1) (up K W0 te) vs vs1 σ H Q := by
  refine ⟨env, G, _, Ex, re, rg, h, fx, fun J H1 G1 ds st e1 rg1 iJ h1 p hp => ?_⟩
  have gp := rg1.fresh hp
  have e2 : Ext G1 H1 (gset G1 p (.lst [])) (upd H1 p (.lst [])) := .allocG hp
  have rg2 : RG K (upd H1 p (.lst [])) (gset G1 p (.lst [])) := rg1.allocG (go := .lst []) hp ⟨[], upd_same, rfl⟩
  refine ⟨fun i m H' => ∃ G' acc, m = ds.length - i ∧ i ≤ ds.length ∧ Ext G1 H1 G' H' ∧ RG K H' G' ∧ lc2 st g tt it1 g1 tt1 te vs1 (wipe3 env vs) p (R p) (ds.drop i) acc G', ⟨ds.length, gset G1 p (.lst []), [], by simp, Nat.zero_le _, e2, rg2, h1 p gp⟩, ?_⟩
  rintro i m H' ⟨G', acc, rfl, hi, e', rg', h'⟩
  by_cases hlt : i < ds.length
  · right
    have hd : ds.drop i = ds[i] :: ds.drop (i + 1) := (List.getElem_cons_drop hlt).symm
    refine ⟨iJ.go i G' H' e' rg' (lc2_st h').1 hlt, fun H2 => ∃ G2 acc2, Ext G1 H1 G2 H2 ∧ RG K H2 G2 ∧ lc2 st g tt it1 g1 tt1 te vs1 (wipe3 env vs) p (R p) (ds.drop (i + 1)) acc2 G2, ?_, ?_⟩
    · rintro H2 ⟨G2, acc2, a1, a2, a4⟩
      exact ⟨ds.length - (i + 1), by omega, G2, acc2, rfl, hlt, a1, a2, a4⟩
    · intro x H2 hy
      obtain ⟨d, q1, q2, q3, q4⟩ := iJ.yld i G' H' x H2 e' rg' (lc2_st h').1 hlt hy
      rw [hd] at h'
      rw [List.getElem?_eq_getElem hlt] at q1
      obtain rfl := Option.some.inj q1
      have e4 := e'.trans q2
      refine ⟨_, wipe3 env vs, G', _, q3, (re.ext (e1.trans e4)).wipe vs, q4, h'.2.2, fun env2 σ2 G2 H3 bt e3 re3 rg3 h3 => ⟨(bt.wipe hjs).trans (wipe_wipe fun _ z => z), ?_⟩⟩
      refine upT_go re3 rg3 h3 nox0 fun c G3 H4 e5 rg4 h4 => ?_
      have e45 := (e4.trans e3).trans e5
      cases c with
      | false => exact ⟨G3, acc, e45, rg4, h4⟩
      | true =>
        rw [if_pos rfl] at h4
        rw [if_pos rfl]
        refine ⟨env2, G3, _, noX, re3.ext e5, rg4, h4, nox0, fun J1 H5 G4 es st1 e6 rg5 iJ1 h5 => ?_⟩
        have e46 := e45.trans e6
        refine ⟨fun j k H6 => ∃ G6 acc6, k = es.length - j ∧ j ≤ es.length ∧ Ext G4 H5 G6 H6 ∧ RG K H6 G6 ∧ lcIn st1 g1 tt1 te (wipe3 env2 vs1) p (fun acc2 G5 => lc2 st g tt it1 g1 tt1 te vs1 (wipe3 env vs) p (R p) (ds.drop (i + 1)) acc2 G5) (es.drop j) acc6 G6,
          ⟨es.length, G4, acc, by simp, Nat.zero_le _, .refl, rg5, h5⟩, ?_⟩
        rintro j k H6 ⟨G6, acc6, rfl, hj, e7, rg6, h6⟩
        by_cases hlj : j < es.length
        · right
          have hd1 : es.drop j = es[j] :: es.drop (j + 1) := (List.getElem_cons_drop hlj).symm
          refine ⟨iJ1.go j G6 H6 e7 rg6 (lcIn_st h6).1 hlj, fun H7 => ∃ G7 acc7, Ext G4 H5 G7 H7 ∧ RG K H7 G7 ∧ lcIn st1 g1 tt1 te (wipe3 env2 vs1) p (fun acc2 G5 => lc2 st g tt it1 g1 tt1 te vs1 (wipe3 env vs) p (R p) (ds.drop (i + 1)) acc2 G5) (es.drop (j + 1)) acc7 G7, ?_, ?_⟩
          · rintro H7 ⟨G7, acc7, a1, a2, a4⟩
            exact ⟨es.length - (j + 1), by omega, G7, acc7, rfl, hlj, a1, a2, a4⟩
          · intro x1 H7 hy1
            obtain ⟨d1, p1, p2, p3, p4⟩ := iJ1.yld j G6 H6 x1 H7 e7 rg6 (lcIn_st h6).1 hlj hy1
            rw [hd1] at h6
            rw [List.getElem?_eq_getElem hlj] at p1
            obtain rfl := Option.some.inj p1
            have e8 := e7.trans p2
            refine ⟨_, wipe3 env2 vs1, G6, _, p3, (re3.ext ((e5.trans e6).trans e8)).wipe vs1, p4, h6.2.2, fun env3 σ3 G7 H8 bt3 e9 re9 rg9 h9 => ⟨(bt3.wipe hjs1).trans (wipe_wipe fun _ z => z), ?_⟩⟩
            refine upT_go re9 rg9 h9 nox0 fun c1 G8 H9 e10 rg10 h10 => ?_
            cases c1 with
            | false => exact ⟨G8, acc6, (e8.trans e9).trans e10, rg10, h10⟩
            | true =>
              rw [if_pos rfl] at h10
              rw [if_pos rfl]
              refine up_go (re9.ext e10) rg10 h10 nox0 fun y v G9 H10 e11 ry rg11 ⟨k1, k2, k3⟩ => ?_
              obtain ⟨ws, k4, k5⟩ := rg11 p _ k1
              have ew : Ext G9 H10 (gset G9 p (.lst (acc6 ++ [y]))) (upd H10 p (.lst (ws ++ [v]))) := .write k1
              refine ⟨ws, k4, by rw [k5.length]; exact k2, _, acc6 ++ [y], (((e8.trans e9).trans e10).trans e11).trans ew, ?_, k3⟩
              exact rg11.write (go := .lst (acc6 ++ [y])) k1 ⟨_, upd_same, RepL.ext ew _ (k5.append (.one ry))⟩
        · left
          have ej : j = es.length := by omega
          subst ej
          rw [List.drop_length] at h6
          obtain ⟨p1, p2, p3⟩ := h6
          exact ⟨iJ1.stop G6 H6 e7 rg6 p1, G6, acc6, e46.trans e7, rg6, p3⟩
  · left
    have ei : i = ds.length := by omega
    subst ei
    rw [List.drop_length] at h'
    obtain ⟨h1, h2, h3⟩ := h'
    obtain ⟨ws, k4, k5⟩ := rg' p _ h2
    exact ⟨iJ.stop G' H' e' rg' h1, fin p acc ws G' H' (e1.trans e') rg' h2 k4 k5 h3⟩
section
variable {X : Cx} {W : WX} {elt tg iter tg1 iter1 : Expr} {ifs ifs1 : List Expr} {scope : Scope} {pos spos : Pos} {it it1 : I3} {g g1 : G3} {tt tt1 : T3} {te : W3} {js js1 vs1 : List Nat}
theorem c_lc2 (own : List (Str × Nat)) (vs1 : List Nat) (hc : X.calm = true) (hN : X.N.Nodup) (hi : PI X tg iter (upI X.K W it)) (ok : BlkOk X.N X.env.scope scope own) (hv : ∀ i ∈ vs1, i ∈ own.map (·.2)) (hjs : ∀ i ∈ js, i ∈ own.map (·.2)) (hjs1 : ∀ i ∈ js1, i ∈ vs1)
    (hg : ∀ (s : Shared) (H : Hp) (C : Addr) (cl : List (Str × Addr)) (fp : List Addr), PG (X.blk s H scope (compEnvC scope cl C X.env) fp) tg (upG X.K js g)) (ht : ∀ (s : Shared) (H : Hp) (C : Addr) (cl : List (Str × Addr)) (fp : List Addr), PTs (X.blk s H scope (compEnvC scope cl C X.env) fp) ifs (upT X.K W0 tt))
    (hi1 : ∀ (s : Shared) (H : Hp) (C : Addr) (cl : List (Str × Addr)) (fp : List Addr), PI (X.blk s H scope (compEnvC scope cl C X.env) fp) tg1 iter1 (upI X.K W0 it1))
    (hg1 : ∀ (s : Shared) (H : Hp) (C : Addr) (cl : List (Str × Addr)) (fp : List Addr), PG (X.blk s H scope (compEnvC scope cl C X.env) fp) tg1 (upG X.K js1 g1)) (ht1 : ∀ (s : Shared) (H : Hp) (C : Addr) (cl : List (Str × Addr)) (fp : List Addr), PTs (X.blk s H scope (compEnvC scope cl C X.env) fp) ifs1 (upT X.K W0 tt1))
    (he : ∀ (s : Shared) (H : Hp) (C : Addr) (cl : List (Str × Addr)) (fp : List Addr), PE (X.blk s H scope (compEnvC scope cl C X.env) fp) elt (up X.K W0 te)) (hs : ∀ x, foldedSetIterable iter X.env x = pure x := by intro _; rfl) (hs1 : ∀ env x, foldedSetIterable iter1 env x = pure x := by intro _ _; rfl) :
    PE X (.ListComp elt [⟨tg, iter, ifs, 0⟩, ⟨tg1, iter1, ifs1, 0⟩] scope pos) (up X.K W (wLc2 it g tt it1 g1 tt1 te (own.map (·.2)) vs1)) := PE.imp (pe_lc2 hc hN hi ok hv hg ht hi1 hg1 ht1 he hs hs1) fun σ H Q ⟨env, G, R, Ex, re, rg, h, fe, fx⟩ => by
  refine lc2_up hjs hjs1 re rg fx (fun p acc G2 => R (.lst acc) (gdel G2 p)) h fun p acc ws G' H' e r gp hp rl q => ?_
  exact fe (.lst acc) _ _ H' (e.trans .freeze) ⟨p, ws, rfl, gdel_same, hp, RepL.ext .freeze acc rl⟩ r.freeze q
end

/-! ### methods of lists -/
abbrev FM := D → List D → GH → K3 → Prop
def LiftM (K : PySem.W.Frag) (T : String) (r : V → List V → Hp → VK → Prop) (f : FM) (c : D → GH → Prop) : Prop :=
  (∀ (x : D) (a : V) (H : Hp) (G : GH), Rep K H G x a → RG K H G → c x G → tyV K T a H) ∧
  ∀ (x : D) (a : V) (xs : List D) (vs : List V) (H : Hp) (G : GH) (R : K3) (Q : VK), Rep K H G x a → RepL K H G xs vs → RG K H G → f x xs G R → FinE K H G R Q → r a vs H Q
def wM (f : FM) (c : D → GH → Prop) (o : W3) (ar : A3) : W3 := fun env G R Ex => o env G (fun x G1 => c x G1 ∧ ar env G1 (fun xs G2 => f x xs G2 R) Ex) Ex
def cL : D → GH → Prop := fun x G => (asL G x).isSome = true
def cS : D → GH → Prop := fun x _ => ∃ z, x = .str z
theorem tyL {K : PySem.W.Frag} (x : D) (a : V) (H : Hp) (G : GH) (r : Rep K H G x a) (g : RG K H G) (c : cL x G) : tyV K "list" a H := by
  obtain ⟨ds, h⟩ := Option.isSome_iff_exists.mp c
  obtain ⟨p, vs, rfl, sq, _⟩ := asL_at r g h
  exact .inl ⟨rfl, vs, sq⟩
theorem tyS {K : PySem.W.Frag} (x : D) (a : V) (H : Hp) (G : GH) (r : Rep K H G x a) (g : RG K H G) (c : cS x G) : tyV K "str" a H := by
  obtain ⟨z, rfl⟩ := c
  rw [show a = .str z from r]
  exact rfl
def cNo : D → GH → Prop := fun _ _ => False
section
variable {X : Cx} {W : WX} {o e : Expr} {es : List Expr} {wo : W3} {ar : A3} {nm : Str} {apos cpos : Pos} {T id : String} {r : V → List V → Hp → VK → Prop} {f : FM} {c : D → GH → Prop}
theorem c_bm (pa : PlainAttrs T) (slot : Slot T nm id) (hty : typeOf (.builtin id) = pure (.type "method_descriptor")) (hm : MtR X id r) (hl : LiftM X.K T r f c) (ho : PE X o (up X.K W wo)) (ha : PA X (e :: es) (upA X.K W ar))
    (hbase : attributeBase o nm X.env (eval o X.env) = eval o X.env := by rfl)
    (hfew : ((backTo cpos (starEach (e :: es) X.env)).all (fun x => !x.1) && (backToKw cpos (keywordEach [] X.env)).all (fun x => x.1.isSome)
      && decide ((e :: es).length + ([] : List Keyword).length + (if ([] : List Keyword).isEmpty then 0 else 1) < 30)) = true := by rfl)
    (hline : (apos.endLine == cpos.line) = true := by rfl) (hs : starEach (e :: es) X.env = (false, eval e X.env) :: starEach es X.env := by rfl) (hplain : (backTo cpos (starEach es X.env)).any (·.1) = false := by rfl) :
    PE X (.Call (.Attribute o nm apos) (e :: es) [] cpos) (up X.K W (wM f c wo ar)) := PE.imp (pe_bm pa slot hty hm ho ha hbase hfew hline hs hplain) fun σ H Q ⟨env, G, R, Ex, re, rg, h, fe, fx⟩ => by
  refine up_go re rg h fx fun x a G1 H1 e1 rx rg1 ⟨h1, h2⟩ => ⟨hl.1 x a H1 G1 rx rg1 h1, ?_⟩
  refine upA_go (re.ext e1) rg1 h2 (fx.ext e1) fun xs vs G2 H2 e2 rs rg2 h3 => ?_
  exact hl.2 x a xs vs H2 G2 R Q (rx.ext e2) rs rg2 h3 (fe.ext (e1.trans e2))
theorem c_bm0 (pa : PlainAttrs T) (slot : Slot T nm id) (hty : typeOf (.builtin id) = pure (.type "method_descriptor")) (hm : MtR X id r) (hl : LiftM X.K T r f c) (ho : PE X o (up X.K W wo))
    (hbase : attributeBase o nm X.env (eval o X.env) = eval o X.env := by rfl) (hline : (apos.endLine == cpos.line) = true := by rfl) : PE X (.Call (.Attribute o nm apos) [] [] cpos) (up X.K W (wM f c wo aNil)) :=
  PE.imp (pe_bm0 pa slot hty hm ho hbase hline) fun σ H Q ⟨env, G, R, Ex, re, rg, h, fe, fx⟩ => by
    refine up_go re rg h fx fun x a G1 H1 e1 rx rg1 ⟨h1, h2⟩ => ⟨hl.1 x a H1 G1 rx rg1 h1, ?_⟩
    exact hl.2 x a [] [] H1 G1 R Q rx rfl rg1 h2 (fe.ext e1)
end
def fAppend : FM := fun x xs G R => match x, xs with
  | .ref p, [y] => ∃ ds, G p = some (.lst ds) ∧ ds.length < sizeLine ∧ R .non (gset G p (.lst (ds ++ [y])))
  | _, _ => False
theorem m_append {K : PySem.W.Frag} : LiftM K "list" rAppend fAppend cL := ⟨tyL, by
  intro x a xs vs H G R Q rx rs g h fe
  unfold fAppend at h
  split at h
  · rename_i p y
    obtain ⟨ds, h1, h2, h3⟩ := h
    obtain ⟨v, rfl, rv⟩ := rs.one_inv
    obtain ⟨ws, k1, k2⟩ := g p _ h1
    have ew : Ext G H (gset G p (.lst (ds ++ [y]))) (upd H p (.lst (ws ++ [v]))) := .write h1
    exact ⟨p, ws, v, rx, rfl, k1, by rw [k2.length]; exact h2, fe .non _ _ _ ew rfl (g.write (go := .lst (ds ++ [y])) h1 ⟨_, upd_same, RepL.ext ew _ (k2.append (.one rv))⟩) h3⟩
  · exact h.elim⟩
def fExtend : FM := fun x xs G R => match x, xs with
  | .ref p, [y] => ∃ ds es, G p = some (.lst ds) ∧ asL1 G y = some es ∧ ds.length + es.length ≤ sizeLine ∧ R .non (gset G p (.lst (ds ++ es)))
  | _, _ => False
theorem m_extend {K : PySem.W.Frag} : LiftM K "list" rExtend fExtend cL := ⟨tyL, by
  intro x a xs vs H G R Q rx rs g h fe
  unfold fExtend at h
  split at h
  · rename_i p y
    obtain ⟨ds, es, h1, h4, h2, h3⟩ := h
    obtain ⟨v, rfl, rv⟩ := rs.one_inv
    obtain ⟨ws, k1, k2⟩ := g p _ h1
    obtain ⟨b, us, rfl, k3, k4⟩ := asL1_at rv g h4
    have ew : Ext G H (gset G p (.lst (ds ++ es))) (upd H p (.lst (ws ++ us))) := .write h1
    exact ⟨p, b, ws, us, rx, rfl, k1, k3, by rw [k2.length, k4.length]; exact h2, fe .non _ _ _ ew rfl (g.write (go := .lst (ds ++ es)) h1 ⟨_, upd_same, RepL.ext ew _ (k2.append k4)⟩) h3⟩
  · exact h.elim⟩
theorem RepL.erase {K : PySem.W.Frag} {H : Hp} {G : GH} : ∀ {ds : List D} {vs : List V} (n : Nat), RepL K H G ds vs → RepL K H G (ds.eraseIdx n) (vs.eraseIdx n)
  | [], _, n, t => by rw [show _ = _ from t]; exact rfl
  | _ :: ds, _, 0, ⟨w, r, q, a, t⟩ => by rw [q]; exact t
  | _ :: ds, _, n + 1, ⟨w, r, q, a, t⟩ => by rw [q]; exact ⟨w, _, rfl, a, RepL.erase n t⟩
def fPopAt : FM := fun x xs G R => match x, xs with
  | .ref p, [.int i] => ∃ ds k y, G p = some (.lst ds) ∧ -(2 ^ 63) ≤ i ∧ i < 2 ^ 63 ∧ seqIndex? i ds.length = some k ∧ ds[k]? = some y ∧ R y (gset G p (.lst (ds.eraseIdx k)))
  | _, _ => False
theorem m_popAt {K : PySem.W.Frag} : LiftM K "list" rPopAt fPopAt cL := ⟨tyL, by
  intro x a xs vs H G R Q rx rs g h fe
  unfold fPopAt at h
  split at h
  · rename_i p i
    obtain ⟨ds, k, y, h1, h2, h3, h4, h5, h6⟩ := h
    obtain ⟨v, rfl, rv⟩ := rs.one_inv
    obtain ⟨ws, k1, k2⟩ := g p _ h1
    obtain ⟨u, k3, k4⟩ := k2.get h5
    have ew : Ext G H (gset G p (.lst (ds.eraseIdx k))) (upd H p (.lst (ws.eraseIdx k))) := .write h1
    exact ⟨p, ws, i, k, u, rx, by rw [show v = _ from rv], k1, h2, h3, by rw [k2.length]; exact h4, k3, fe y _ _ _ ew (k4.ext ew) (g.write (go := .lst (ds.eraseIdx k)) h1 ⟨_, upd_same, RepL.ext ew _ (k2.erase k)⟩) h6⟩
  · exact h.elim⟩
def fPop : FM := fun x xs G R => match x, xs with
  | .ref p, [] => ∃ ds y, G p = some (.lst ds) ∧ ds[ds.length - 1]? = some y ∧ R y (gset G p (.lst ds.dropLast))
  | _, _ => False
theorem m_pop {K : PySem.W.Frag} : LiftM K "list" rPop fPop cL := ⟨tyL, by
  intro x a xs vs H G R Q rx rs g h fe
  unfold fPop at h
  split at h
  · rename_i p
    obtain ⟨ds, y, h1, h5, h6⟩ := h
    obtain rfl : vs = [] := rs
    obtain ⟨ws, k1, k2⟩ := g p _ h1
    obtain ⟨u, k3, k4⟩ := k2.get h5
    have ew : Ext G H (gset G p (.lst ds.dropLast)) (upd H p (.lst ws.dropLast)) := .write h1
    refine ⟨p, ws, u, rx, rfl, k1, by rw [k2.length]; exact k3, fe y _ _ _ ew (k4.ext ew) (g.write (go := .lst ds.dropLast) h1 ⟨_, upd_same, RepL.ext ew _ ?_⟩) h6⟩
    rw [List.dropLast_eq_take, List.dropLast_eq_take, k2.length]
    exact k2.take _
  · exact h.elim⟩
/-- xs.index(x), found -/
def fIndex : FM := fun x xs G R => ∃ ds y j z, asL G x = some ds ∧ xs = [y] ∧ flatD y = true ∧ ds.all flatD = true ∧ ds[j]? = some z ∧ eqF z y = true ∧ (∀ m z', m < j → ds[m]? = some z' → eqF z' y = false) ∧ R (.int (j : Nat)) G
theorem m_index {K : PySem.W.Frag} : LiftM K "list" (rIndex K) fIndex cL := ⟨tyL, by
  rintro x a xs vs H G R Q rx rs g ⟨ds, y, j, z, h1, rfl, h2, h3, h4, h5, h6, h7⟩ fe
  obtain ⟨p, ws, rfl, sq, rl⟩ := asL_at rx g h1
  obtain ⟨v, rfl, rv⟩ := rs.one_inv
  obtain ⟨u, k1, k2⟩ := rl.get h4
  have fz : flatD z = true := List.all_eq_true.mp h3 z (List.mem_of_getElem? h4)
  refine ⟨p, ws, v, j, u, rfl, rfl, sq, flat_V rv h2, flatL_V rl h3, k1, by rw [eqF_V k2 rv fz h2]; exact h5, fun m z' hm hz => ?_, fe (.int _) _ G H .refl rfl g h7⟩
  obtain ⟨d, q1, q2⟩ := rl.getV hz
  rw [eqF_V q2 rv (List.all_eq_true.mp h3 d (List.mem_of_getElem? q1)) h2]
  exact h6 m d hm q1⟩
def fInsert : FM := fun x xs G R => match x, xs with
  | .ref p, [.int i, y] => ∃ ds, G p = some (.lst ds) ∧ ds.length < sizeLine ∧ 0 ≤ i ∧ i < 2 ^ 63 ∧ R .non (gset G p (.lst (ds.take i.toNat ++ [y] ++ ds.drop i.toNat)))
  | _, _ => False
def rInsert3 : V → List V → Hp → VK → Prop := fun x vs H Q => ∃ (l : Addr) (xs : List V) (i : Int) (y : V), x = .ref l ∧ vs = [.int i, y] ∧ H l = some (.lst xs) ∧ xs.length < sizeLine ∧ 0 ≤ i ∧ i < 2 ^ 63 ∧ Q .non (upd H l (.lst (xs.take i.toNat ++ [y] ++ xs.drop i.toNat)))
theorem m_insert {K : PySem.W.Frag} : LiftM K "list" rInsert3 fInsert cL := ⟨tyL, by
  intro x a xs vs H G R Q rx rs g h fe
  unfold fInsert at h
  split at h
  · rename_i p i y
    obtain ⟨ds, h1, h2, h3, h4, h5⟩ := h
    obtain ⟨v, u, q, rv, v2, u2, q2, rv2, q3⟩ := rs
    have q3 : u2 = [] := q3
    subst q3 q2 q
    obtain ⟨ws, k1, k2⟩ := g p _ h1
    have ew : Ext G H (gset G p (.lst (ds.take i.toNat ++ [y] ++ ds.drop i.toNat))) (upd H p (.lst (ws.take i.toNat ++ [v2] ++ ws.drop i.toNat))) := .write h1
    refine ⟨p, ws, i, v2, rx, by rw [show v = _ from rv], k1, by rw [k2.length]; exact h2, h3, h4, fe .non _ _ _ ew rfl (g.write (go := .lst (ds.take i.toNat ++ [y] ++ ds.drop i.toNat)) h1 ⟨_, upd_same, RepL.ext ew _ ?_⟩) h5⟩
    exact ((k2.take _).append (.one rv2)).append (k2.drop _)
  · exact h.elim⟩
end L3

set_option Elab.async false
set_option linter.all false
set_option maxRecDepth 100000
namespace L3
open PySem PySem.Spec L2
open PyProof.Rows hiding St

/-! ### the law's own call -/
section
variable {P : Program} {w : World} {K : PySem.W.Frag} {mg mb : Str → Option Value} {k : Nat} {fa a : Addr} {x nm : Str} {S : SP3} {s : Shared} {vs : List Value} {ns : List Int}
/-- what of the heap is tracked at the start: the script, unless the written part holds it -/
def scriptH (K : PySem.W.Frag) (a : Addr) (o : Obj) (xs : List V) : Hp := fun b => if b = a ∧ K.lookup a = none then some (.frz o (.lst xs)) else none
theorem enterG (kin : K.In s.heap) (gl : s.heap.Ns mainGlobals mg) (bu : s.heap.Ns builtinsNs mb) (bo : ∀ y : Str, y ≠ "__name__" → mb y = bootBuiltins y) (nl : s.heap.NoLimit) (ge : s.gens = #[])
    (sc : s.heap.get? a = some { cls := .type "list", data := .seq vs.toArray }) (iv : IntsAre vs ns) (len : ns.length ≤ sizeLine) (room : Room k callerA)
    (F : ∀ base : Heap, Good P w K mg base nm [x] k S) (nam : mg nm = some (.ref fa))
    (hS : ∀ (G : GH) (R : K3) (Ex : X3), (∀ G', R (.bl true) G') → S [.lsx (ns.map D.int)] G R Ex) :
    codeAny (model P w) callerA (.call (.ref fa) ⟨[.ref a], []⟩) (fun r s' => r = .ok (.ret (.bool true)) ∧ OldK s.heap s'.heap ∧ s'.os = s.os ∧ AllBare s'.gens) s := by
  generalize eo : ({ cls := .type "list", data := .seq vs.toArray } : Obj) = ob at sc
  have rv := vals_ints iv
  have lv : vs.length = ns.length := iv.length
  generalize eH : scriptH K a ob (ns.map V.int) = H
  have H1 : ∀ b u, H b = some u → b = a ∧ K.lookup a = none ∧ u = .frz ob (.lst (ns.map V.int)) := fun b u e => by
    rw [← eH] at e
    unfold scriptH at e
    by_cases q : b = a ∧ K.lookup a = none
    · rw [if_pos q] at e
      cases e
      exact ⟨q.1, q.2, rfl⟩
    · rw [if_neg q] at e; cases e
  have H0 : ∀ b, b ≠ a → H b = none := fun b n => by
    cases q : H b with
    | none => rfl
    | some u => exact absurd (H1 b u q).1 n
  have ok : HOk P w H s.heap := fun b u e => by
    obtain ⟨q1, _, q2⟩ := H1 b u e
    rw [q1, q2]
    refine ⟨sc, by rw [List.length_map]; exact len, vs, 0, rv, ?_⟩
    rw [sc, ← eo]
  have dictFree : ∀ {b : Addr} {o : Obj} {es : Array DictEntry} {n : Nat}, s.heap.get? b = some o → o.data = .dict es n → H b = none := fun {b o es n} e d => H0 b fun q => by
    rw [q, sc] at e
    cases e
    rw [← eo] at d
    cases (show Data.seq vs.toArray _ = Data.dict es n from d)
  have nsG : ∀ {b : Addr} {m : Str → Option Value}, s.heap.Ns b m → (hidT s.heap H).Ns b m := fun ⟨o, es, n, e, d, r⟩ => ⟨o, es, n, hidT_get e (dictFree e d), d, r⟩
  have kinG : K.In (hidT s.heap H) := fun b o e => hidT_get (kin b o e) (by
    cases q : H b with
    | none => rfl
    | some u =>
      obtain ⟨q1, q2, _⟩ := H1 b u q
      rw [q1, q2] at e; cases e)
  have md : Mod K mg (hidT s.heap H) := ⟨kinG, nsG gl, ⟨mb, nsG bu, bo⟩, let ⟨mc, p, q⟩ := nl; ⟨mc, nsG p, q⟩⟩
  have env : Env0 P w K mg (hidT s.heap H) callerA [] s H := ⟨rfl, md, fun _ _ e => of_hidT e, Nat.le_of_eq (hidT_size _ _), trivial, fun b hb => absurd (show b ∈ ([] : List Addr) from hb) List.not_mem_nil, ok, .of_eq ge⟩
  have rep : RepL K H (fun _ => none) [D.lsx (ns.map D.int)] [V.ref a] := .one ⟨a, ns.map V.int, rfl, by
    cases q : K.lookup a with
    | none => exact .inl ⟨rfl, .inr ⟨ob, by rw [← eH]; exact if_pos ⟨rfl, q⟩⟩⟩
    | some o =>
      have e := kin a o q
      rw [sc] at e
      cases e
      refine .inr ⟨ob, vs.toArray, 0, q, by rw [← eo], by rw [← eo], ?_, by rw [List.size_toArray, lv]; exact len, by simpa using rv⟩
      rw [← eo], RepL.ints⟩
  have want : sp3 K 1 S [V.ref a] H (fun v _ => v = .bl true) (fun _ _ _ => False) := ⟨_, fun _ => none, fun d _ => d = .bl true, fun _ _ _ _ => False, rfl, rep, (fun _ _ z => by cases z), hS _ _ _ fun _ => rfl, fun d v _ _ _ r _ e => by
    rw [e] at r
    exact r, fun _ _ _ _ _ _ _ _ _ _ _ z => z.elim⟩
  obtain ⟨f, fd, hm, _, bt, FG⟩ := (F (hidT s.heap H)).ex
  obtain rfl : fa = f := by
    rw [nam] at hm
    cases hm
    rfl
  refine codeAny_mono (FG.run callerA [] s H ⟨[.ref a], []⟩ [.ref a] [.ref a] _ _ room rfl env (bt s [.ref a] kin rfl) (.cons rfl .nil) want) fun r s' h => ?_
  rcases r with e | fl
  · obtain ⟨_, _, _, _, _, _, _, _, _, _, _, _, z⟩ := h
    exact z.elim
  · cases fl with
    | next => exact h.elim
    | brk => exact h.elim
    | cont => exact h.elim
    | ret u =>
      obtain ⟨v, H', os, bare, un, ok', ru, q⟩ := h
      obtain rfl : v = .bl true := q
      obtain rfl : u = Value.bool true := ru
      refine ⟨rfl, OldK.of_keep fun b o e => ?_, os, bare⟩
      cases q : H b with
      | none => exact un.keep b o e q (fun z => absurd (show b ∈ ([] : List Addr) from z) List.not_mem_nil) (by simp)
      | some u =>
        obtain ⟨_, _, rfl⟩ := H1 b u q
        obtain ⟨e1, _⟩ := ok b _ q
        obtain ⟨e2, _⟩ := ok' b _ (un.frzs b _ _ q)
        rw [e] at e1
        cases e1
        exact e2
end

/-! ### what the top leaves, asked by one Bool -/
/-- the methods of classes, their code -/
def clsA (g : Addr → Option Obj) (as : List Addr) : List Addr := as.flatMap fun a => match g a with
  | some ⟨_, _, .cls cd, _⟩ => He.growD g (He.growD g [cd.ns])
  | _ => []
/-- n = 0: two steps and the methods of the classes -/
def asM (g : Addr → Option Obj) : Nat → List Addr
  | 0 => cStatics :: (He.asD g 2 ++ clsA g (He.asD g 2)).eraseDups
  | n + 1 => He.asD g (n + 1)
def frM (n : Nat) (g : Addr → Option Obj) : PySem.W.Frag := He.frG g (sysModules :: asM g n)
abbrev AlM : Type := Bool × List He.FnW
def obsK (fn : List He.DefD) (ex : PySem.W.Frag → Bool) (K : PySem.W.Frag) : AlM := (ex K && fn.all fun d => d.ok K, fn.map fun d => He.fnW K d.at_)
def valM (fn : List He.DefD) : AlM := (true, fn.map He.DefD.val)
structure SaysM (fn : List He.DefD) (ex : PySem.W.Frag → Bool) (K : PySem.W.Frag) : Prop where
  eq : obsK fn ex K = valM fn
def obsM (n : Nat) (fn : List He.DefD) (ex : PySem.W.Frag → Bool) (g : Addr → Option Obj) : AlM := obsK fn ex (frM n g)
def hookM (n : Nat) (fn : List He.DefD) (ex : PySem.W.Frag → Bool) : PySem.W.Hook where
  α := AlM
  obs := fun s => obsM n fn ex s.heap.get?
  val := fun _ => valM fn
  says := fun _ h => ∃ K : PySem.W.Frag, K.In h ∧ SaysM fn ex K
  of := fun _ _ e => ⟨_, He.frG_in, ⟨e⟩⟩
  keeps := fun _ _ _ ⟨K, hK, c⟩ k => ⟨K, PySem.W.Frag.In.keeps hK k, c⟩
theorem obsM_eq {n : Nat} {fn : List He.DefD} {ex : PySem.W.Frag → Bool} {g : Addr → Option Obj} {s : Shared} (h : ∀ a, g a = s.heap.get? a) : obsM n fn ex g = (hookM n fn ex).obs s := by
  obtain rfl : g = s.heap.get? := funext h
  rfl
section
variable {fn : List He.DefD} {ex : PySem.W.Frag → Bool} {K : PySem.W.Frag}
theorem SaysM.both (c : SaysM fn ex K) : ex K = true ∧ (fn.all fun d => d.ok K) = true := Bool.and_eq_true_iff.mp (congrArg (fun z : AlM => z.1) c.eq)
theorem SaysM.more (c : SaysM fn ex K) : ex K = true := c.both.1
theorem SaysM.funD (c : SaysM fn ex K) (i : Nat) {d : He.DefD} (h : fn[i]? = some d := by rfl) : ∃ fd, FunD K d.name d.qual d.params d.body d.scope (d.dvs K) (d.kws K) (He.fAd K d.at_) fd := by
  have e : fn.map (fun d => He.fnW K d.at_) = fn.map He.DefD.val := congrArg (fun z : AlM => z.2) c.eq
  have e2 : (fn.map fun d => He.fnW K d.at_)[i]? = (fn.map He.DefD.val)[i]? := by rw [e]
  rw [List.getElem?_map, List.getElem?_map, h] at e2
  exact He.DefD.funD (Option.some.inj e2) (List.all_eq_true.mp c.both.2 d (List.mem_of_getElem? h))
end
/-- a plain def of the module -/
def dfn (nm : Str) (st : Stmt) : He.DefD := ⟨(nm, none), nm, nm, defArgs st, defBody st, defScope st, [], []⟩
section
variable {fn : List He.DefD} {ex : PySem.W.Frag → Bool} {K : PySem.W.Frag} {mg : Str → Option Value} {h : Heap}
theorem SaysM.defAt (c : SaysM fn ex K) (X : K.In h) (g : h.Ns mainGlobals mg) (i : Nat) {nm : Str} {st : Stmt} {ps : List Str} (hi : fn[i]? = some (dfn nm st)) (hg : PySem.W.nsIn K mainGlobals nm = some (some (.ref (He.ga K nm))))
    (hb : ∀ (kV doc pm : Value) (an : Option Addr) (cdv ct : Value) (us : List Value), us.length = ps.length → bindArgs (PySem.W.fnOf nm nm (defArgs st) (defBody st) (defScope st) .none kV doc pm an cdv ct) ⟨us, []⟩ = pure (ps.zip us)) : DefAt K mg nm st ps := by
  obtain ⟨fd, F⟩ := c.funD i hi
  have b : Binds K fd ps [] := FunD.bindsN F hb
  have m : mg nm = some (.ref (He.ga K nm)) := PySem.W.mg_of X g hg
  obtain ⟨oc, od, dV, kV, doc, pm, an, cdv, ct, osl, e, lk, hcd, hD, _⟩ := F.ex
  have kp := F.kp
  have hd : dV = .none := by
    rcases hD with ⟨_, a⟩ | ⟨a, _⟩
    · exact a
    · exact absurd rfl a
  subst hd
  exact ⟨_, fd, m, ⟨⟨oc, od, kV, doc, pm, an, cdv, ct, osl, e, lk, hcd⟩, kp⟩, b⟩
end

/-! ### facts -/
mutual
def repB (K : PySem.W.Frag) : D → Value → Bool
  | .non, .none => true
  | .bl b, .bool c => b == c
  | .int i, .int j _ => decide (i = j)
  | .str x, .str y _ => decide (x = y)
  | .tup ds, .ref a => (match K.lookup a with
    | some ⟨.type c, _, .seq its _, _⟩ => decide (c = "tuple") && (decide (its.size ≤ sizeLine) && repBs K ds its.toList)
    | _ => false)
  | .lsx ds, .ref a => (match K.lookup a with
    | some ⟨.type c, none, .seq its _, _⟩ => decide (c = "list") && (decide (its.size ≤ sizeLine) && repBs K ds its.toList)
    | _ => false)
  | _, _ => false
def repBs (K : PySem.W.Frag) : List D → List Value → Bool
  | [], [] => true
  | d :: ds, u :: us => repB K d u && repBs K ds us
  | _, _ => false
end
mutual
theorem repB_ok {K : PySem.W.Frag} : ∀ (d : D) (u : Value), repB K d u = true → ∃ v, RelV v u ∧ ∀ H G, Rep K H G d v
  | .non, u, h => by
    cases u <;> simp only [repB, Bool.false_eq_true] at h
    exact ⟨.non, rfl, fun _ _ => rfl⟩
  | .bl b, u, h => by
    cases u <;> simp only [repB, Bool.false_eq_true] at h
    rename_i c
    obtain rfl : b = c := eq_of_beq h
    exact ⟨.bl b, rfl, fun _ _ => rfl⟩
  | .int i, u, h => by
    cases u <;> simp only [repB, Bool.false_eq_true] at h
    rename_i j t
    obtain rfl : i = j := of_decide_eq_true h
    exact ⟨.int i, ⟨t, rfl⟩, fun _ _ => rfl⟩
  | .str x, u, h => by
    cases u <;> simp only [repB, Bool.false_eq_true] at h
    rename_i y t
    obtain rfl : x = y := of_decide_eq_true h
    exact ⟨.str x, ⟨t, rfl⟩, fun _ _ => rfl⟩
  | .tup ds, u, h => by
    cases u <;> simp only [repB, Bool.false_eq_true] at h
    rename_i a
    split at h
    · rename_i c od its n sl e
      rw [Bool.and_eq_true, Bool.and_eq_true] at h
      obtain ⟨h1, h2, h3⟩ := h
      obtain ⟨vs, r, k⟩ := repBs_ok ds its.toList h3
      exact ⟨.ref a, rfl, fun H G => ⟨a, vs, rfl, .inr ⟨_, its, n, e, congrArg Value.type (of_decide_eq_true h1), rfl, of_decide_eq_true h2, r⟩, k H G⟩⟩
    · cases h
  | .lsx ds, u, h => by
    cases u <;> simp only [repB, Bool.false_eq_true] at h
    rename_i a
    split at h
    · rename_i c its n sl e
      rw [Bool.and_eq_true, Bool.and_eq_true] at h
      obtain ⟨h1, h2, h3⟩ := h
      obtain ⟨vs, r, k⟩ := repBs_ok ds its.toList h3
      exact ⟨.ref a, rfl, fun H G => ⟨a, vs, rfl, .inr ⟨_, its, n, e, congrArg Value.type (of_decide_eq_true h1), rfl, rfl, of_decide_eq_true h2, r⟩, k H G⟩⟩
    · cases h
  | .lst _, u, h => by cases u <;> simp only [repB, Bool.false_eq_true] at h
  | .ty _, u, h => by cases u <;> simp only [repB, Bool.false_eq_true] at h
  | .dct _ _, u, h => by cases u <;> simp only [repB, Bool.false_eq_true] at h
  | .ins _ _ _, u, h => by cases u <;> simp only [repB, Bool.false_eq_true] at h
  | .ref _, u, h => by cases u <;> simp only [repB, Bool.false_eq_true] at h
  | .tpf _, u, h => by cases u <;> simp only [repB, Bool.false_eq_true] at h
  | .exc _ _ _ _, u, h => by cases u <;> simp only [repB, Bool.false_eq_true] at h
  | .lam _ _ _ _ _, u, h => by cases u <;> simp only [repB, Bool.false_eq_true] at h
theorem repBs_ok {K : PySem.W.Frag} : ∀ (ds : List D) (us : List Value), repBs K ds us = true → ∃ vs, Vals vs us ∧ ∀ H G, RepL K H G ds vs
  | [], us, h => by
    cases us with
    | nil => exact ⟨[], .nil, fun _ _ => rfl⟩
    | cons _ _ => simp only [repBs, Bool.false_eq_true] at h
  | d :: ds, us, h => by
    cases us with
    | nil => simp only [repBs, Bool.false_eq_true] at h
    | cons u us =>
      simp only [repBs, Bool.and_eq_true] at h
      obtain ⟨v, r, k⟩ := repB_ok d u h.1
      obtain ⟨vs, r2, k2⟩ := repBs_ok ds us h.2
      exact ⟨v :: vs, .cons r r2, fun H G => ⟨v, vs, rfl, k H G, k2 H G⟩⟩
end
/-- an exception class of the module: no __init__ of its own, a ValueError -/
structure ExcT (K : PySem.W.Frag) (mg : Str → Option Value) (x : Str) (C : Addr) : Prop where
  gC : mg x = some (.ref C)
  q : PySem.W.excIn K C He.veBase "ValueError.__new__" = true
  kC : PySem.W.keepIn K (.ref C) = true
  sb : PySem.W.subIn K (.ref C) (.type "BaseException") = some true
  tp : PySem.W.typeIn K (.ref C) = some (.type "type")
  c : ExcC K C
def sysB (K : PySem.W.Frag) : Bool := match K.lookup sysModules with
  | some ⟨_, _, .dict _ _, _⟩ => true
  | _ => false
theorem sysB_ok {K : PySem.W.Frag} (h : sysB K = true) : ∃ o es n, K.lookup sysModules = some o ∧ o.data = .dict es n := by
  unfold sysB at h
  split at h
  · rename_i c d es n sl e
    exact ⟨_, es, n, e, rfl⟩
  · cases h
inductive Fc where
  | glo (x : Str)
  | free (x : Str)
  | dat (x : Str) (d : D)
  | exc (x : Str)
  | exm (x y : Str) (b : Bool)
  | kit (x y : Str) (b : Bool)
  | kitB (x : Str) (n : String) (b : Bool)
  | sys
  | own (b : PySem.W.Frag → Bool)
def Fc.ok (K : PySem.W.Frag) : Fc → Bool
  | .glo x => He.eqO (PySem.W.nsIn K mainGlobals x) (some (some (.ref (He.ga K x))))
  | .free x => He.eqO (PySem.W.nsIn K mainGlobals x) (some none)
  | .dat x d => (match PySem.W.nsIn K mainGlobals x with
    | some (some u) => repB K d u
    | _ => false)
  | .exc x => He.eqO (PySem.W.nsIn K mainGlobals x) (some (some (.ref (He.ga K x)))) && (PySem.W.excIn K (He.ga K x) He.veBase "ValueError.__new__" && (PySem.W.keepIn K (.ref (He.ga K x)) &&
      (decide (PySem.W.subIn K (.ref (He.ga K x)) (.type "BaseException") = some true) && (decide (PySem.W.typeIn K (.ref (He.ga K x)) = some (.type "type")) &&
      (He.eqO (PySem.W.findIn K (.ref (He.ga K x)) "__getattribute__") (some (some (.builtin "BaseException.__getattribute__"))) && (He.eqO (PySem.W.findIn K (.ref (He.ga K x)) "__getattr__") (some none) &&
      (PySem.W.hasDictIn K (He.ga K x) && (He.eqO (PySem.W.findIn K (.ref (He.ga K x)) "__class__") (some (some (.builtin "object.__class__"))) &&
      (He.eqO (PySem.W.specialIn K (.builtin "object.__class__") "__get__") (some (some (.builtin "getset_descriptor.__get__"))) && (decide (PySem.W.takesIn K (.builtin "object.__class__") = some true) &&
      decide (PySem.W.mroIn K (He.ga K x) (.type "object") = some true)))))))))))
  | .exm x y b => decide (PySem.W.exmOne K (.ref (He.ga K x)) (.ref (He.ga K y)) = some b)
  | .kit x y b => decide (PySem.W.kitOne K (.ref (He.ga K x)) (.ref (He.ga K y)) = some b)
  | .kitB x n b => decide (PySem.W.kitOne K (.ref (He.ga K x)) (.type n) = some b)
  | .sys => sysB K
  | .own b => b K
section
variable {K : PySem.W.Frag} {h : Heap} {mg : Str → Option Value}
theorem Fc.glo_ok {x : Str} (c : (Fc.glo x).ok K = true) : PySem.W.nsIn K mainGlobals x = some (some (.ref (He.ga K x))) := He.eqO_ok c
theorem Fc.free_ok (X : K.In h) (G : h.Ns mainGlobals mg) {x : Str} (c : (Fc.free x).ok K = true) : mg x = none := PySem.W.mg_none_of X G (He.eqO_ok c)
theorem Fc.dat_ok (X : K.In h) (G : h.Ns mainGlobals mg) {x : Str} {d : D} (c : (Fc.dat x d).ok K = true) : ∃ u v, mg x = some u ∧ RelV v u ∧ ∀ H G, Rep K H G d v := by
  simp only [Fc.ok] at c
  split at c
  · rename_i u e
    obtain ⟨v, r, k⟩ := repB_ok d u c
    exact ⟨u, v, PySem.W.mg_of X G e, r, k⟩
  · cases c
theorem Fc.exc_ok (X : K.In h) (G : h.Ns mainGlobals mg) {x : Str} (c : (Fc.exc x).ok K = true) : ExcT K mg x (He.ga K x) := by
  simp only [Fc.ok] at c
  simp only [Bool.and_eq_true] at c
  obtain ⟨c1, c2, c3, c4, c5, c6, c7, c8, c9, c10, c11, c12⟩ := c
  exact ⟨PySem.W.mg_of X G (He.eqO_ok c1), c2, c3, of_decide_eq_true c4, of_decide_eq_true c5, He.eqO_ok c6, He.eqO_ok c7, of_decide_eq_true c4, c8, He.eqO_ok c9, He.eqO_ok c10, of_decide_eq_true c11, of_decide_eq_true c12⟩
theorem Fc.exm_ok {x y : Str} {b : Bool} (c : (Fc.exm x y b).ok K = true) : PySem.W.exmOne K (.ref (He.ga K x)) (.ref (He.ga K y)) = some b := of_decide_eq_true c
theorem Fc.kit_ok {x y : Str} {b : Bool} (c : (Fc.kit x y b).ok K = true) : PySem.W.kitOne K (.ref (He.ga K x)) (.ref (He.ga K y)) = some b := of_decide_eq_true c
theorem Fc.kitB_ok {x : Str} {n : String} {b : Bool} (c : (Fc.kitB x n b).ok K = true) : PySem.W.kitOne K (.ref (He.ga K x)) (.type n) = some b := of_decide_eq_true c
end
def exOf (fs : List Fc) (K : PySem.W.Frag) : Bool := fs.all fun f => f.ok K
/-- what the top left: the walk's one premise -/
structure Top (fn : List He.DefD) (fs : List Fc) (K : PySem.W.Frag) (mg : Str → Option Value) : Prop where
  ex : ∃ h : Heap, K.In h ∧ h.Ns mainGlobals mg
  c : SaysM fn (exOf fs) K
section
variable {fn : List He.DefD} {fs : List Fc} {K : PySem.W.Frag} {mg : Str → Option Value}
theorem Top.fc (T : Top fn fs K mg) (i : Nat) {f : Fc} (h : fs[i]? = some f := by rfl) : f.ok K = true := List.all_eq_true.mp T.c.more f (List.mem_of_getElem? h)
theorem Top.free (T : Top fn fs K mg) (i : Nat) {x : Str} (h : fs[i]? = some (.free x) := by rfl) : mg x = none := let ⟨_, X, G⟩ := T.ex; Fc.free_ok X G (T.fc i h)
theorem Top.dat (T : Top fn fs K mg) (i : Nat) {x : Str} {d : D} (h : fs[i]? = some (.dat x d) := by rfl) : ∃ u v, mg x = some u ∧ RelV v u ∧ ∀ H G, Rep K H G d v := let ⟨_, X, G⟩ := T.ex; Fc.dat_ok X G (T.fc i h)
theorem Top.exc (T : Top fn fs K mg) (i : Nat) {x : Str} (h : fs[i]? = some (.exc x) := by rfl) : ExcT K mg x (He.ga K x) := let ⟨_, X, G⟩ := T.ex; Fc.exc_ok X G (T.fc i h)
theorem Top.def_ (T : Top fn fs K mg) (i j : Nat) {nm : Str} {st : Stmt} {ps : List Str} (hi : fn[i]? = some (dfn nm st)) (hj : fs[j]? = some (.glo nm))
    (hb : ∀ (kV doc pm : Value) (an : Option Addr) (cdv ct : Value) (us : List Value), us.length = ps.length → bindArgs (PySem.W.fnOf nm nm (defArgs st) (defBody st) (defScope st) .none kV doc pm an cdv ct) ⟨us, []⟩ = pure (ps.zip us)) : DefAt K mg nm st ps :=
  let ⟨_, X, G⟩ := T.ex; T.c.defAt X G i hi (Fc.glo_ok (T.fc j hj)) hb
theorem Top.own (T : Top fn fs K mg) (i : Nat) {b : PySem.W.Frag → Bool} (h : fs[i]? = some (.own b) := by rfl) : b K = true := T.fc i h
theorem Top.sysM (T : Top fn fs K mg) (i : Nat) (h : fs[i]? = some .sys := by rfl) : sysB K = true := T.fc i h
end
/-- the goal of the head's end, from the law's own promise -/
theorem walk_ofM {l : PySem.W.OpenLaw} {n k : Nat} {q : Program} {loose : List Str} {XP : (Str → Option Value) → Heap → Prop} {d : DefRec} {x nm : Str} {fn : List He.DefD} {fs : List Fc} {S : PySem.W.Frag → SP3}
    (hn : l.most = some n) (hn2 : n ≤ sizeLine) (hdf : d.params.defaults = []) (hr : Room k callerA) (hnm : d.name = nm)
    (F : ∀ (w : World) (K : PySem.W.Frag) (mg : Str → Option Value) (base : Heap), Top fn fs K mg → Good l.prog w K mg base nm [x] k (S K))
    (fin : ∀ (K : PySem.W.Frag) (mg : Str → Option Value) (ns : List Int), Top fn fs K mg → ns.length ≤ n → (∀ z ∈ ns, Builtin.Int.intBits z ≤ 1048576) → ∀ (G : GH) (R : K3) (Ex : X3), (∀ G', R (.bl true) G') → S K [.lsx (ns.map D.int)] G R Ex) :
    PySem.W.WalkO q loose XP (fun _ h => ∃ K : PySem.W.Frag, K.In h ∧ SaysM fn (exOf fs) K) l.row.toRowW d [] (fun f vs => PySem.call f vs) := by
  refine Att.attach_callB hn hdf fun w s0 s1 mg mb fa o pm cd doc a vs ns G Y ho hd hcd hmg hobj hints hlen hbits hgen => ?_
  obtain ⟨K, KX, c⟩ := Y
  have T : Top fn fs K mg := ⟨⟨_, KX, G.T.g⟩, c⟩
  exact enterG KX G.T.g G.T.b G.T.builtins G.T.nolimit hgen hobj hints (Nat.le_trans hlen hn2) hr (fun base => F w K mg base T) (by rw [← hnm]; exact hmg) fun G R Ex h => fin K mg ns T hlen hbits G R Ex h
section
theorem c_dat {X : Cx} {W : WX} {x : Str} {d : D} {pos : Pos} (hm : ∃ u v, X.mg x = some u ∧ RelV v u ∧ ∀ H G, Rep X.K H G d v) (hg : Gl X x := by rfl) (hd : (x == ("__debug__" : Str)) = false := by decide) : PE X (.Name x pos) (up X.K W (wC d)) :=
  let ⟨_, _, h1, h2, h3⟩ := hm; c_glob h1 h2 h3 hg hd
theorem c_cls {X : Cx} {W : WX} {x : Str} {C : Addr} {pos : Pos} (hm : ExcT X.K X.mg x C) (hg : Gl X x := by rfl) (hd : (x == ("__debug__" : Str)) = false := by decide) : PE X (.Name x pos) (up X.K W (wC (.ref C))) :=
  c_glob (v := .ref C) hm.gC rfl (fun _ _ => rfl) hg hd
end
end L3

set_option Elab.async false
set_option linter.all false
set_option maxRecDepth 100000
namespace L3
open PySem PySem.Spec L2
open PyProof.Rows hiding St

/-! ### raise X() -/
section
variable {X : Cx} {W : WX} {x : Str} {C : Addr} {p pos pos' : Pos}
theorem pmk_own0 (T : ExcT X.K X.mg x C) (hg : Gl X x) (hdb : (x == ("__debug__" : Str)) = false) : PMk X (.Call (.Name x p) [] [] pos) (fun _ H Q => Q (.ref C) none H) := by
  intro pins s σ H Q I h
  refine wpAny_Call_Name_kw (ld_glob I hg T.gC ?_ hdb)
  refine PySem.W.callWith_K0 I.kIn T.kC ?_
  obtain ⟨bm, N, nm, qn, bs, hdct, sn, sub, ab, col, dd, k0, k1, k2, k3, k5, mN, hC, hN, hni, tl⟩ := exc_obj I.kIn T.q
  refine wpAny_call_exc_subT PySem.F.excBase_ValueError tl hC hN hni (fun h' e hm => ?_) (Nat.zero_le _)
  exact mk_of I hm (raises_own T.sb T.tp) h (I.hok.gone hm.new)
def wRaise (C : Addr) : S3 := fun E env G => E.ex (.ref C) none env G
theorem s_raise (T : ExcT X.K X.mg x C) (hc : X.calm = true) (tk : Takes X W) (hg : Gl X x := by rfl) (hdb : (x == ("__debug__" : Str)) = false := by decide) :
    PS X (.Raise (some (.Call (.Name x p) [] [] pos)) none pos') (upS X.K W (wRaise C)) := PS.imp (ps_raise hc tk (pmk_own0 T hg hdb)) fun D σ H ⟨env, G, E, re, rg, h, f⟩ =>
  f.ex (.ref C) none none env σ G H .refl re rg rfl h
end

/-- p, pinned, is the exception that is held: class, no dict -/
structure Held (X : Cx) (a : Addr) (cls : Value) : Prop where
  ex : ∃ oe : Obj, (a, oe) ∈ X.pn ∧ oe.cls = cls ∧ oe.dict = none ∧ ∃ vs, oe.data = .fields vs
/-! ### try: body, except x as n: suite -/
/-- c the class; i the slot of n; an exception without fields -/
def wTry (K : PySem.W.Frag) (c : Value) (i : Nat) (wb : S3) (ws : Addr → Value → S3) : S3 := fun E env G =>
  wb { E with ex := fun cls fs env1 G1 => ∃ b, PySem.W.exmOne K cls c = some b ∧
    (b = true → fs = none ∧ ∀ a, G1 a = none → ws a cls { nx := fun env2 G2 => E.nx (env2.set i none) G2, rt := E.rt, bk := fun env2 G2 => E.bk (env2.set i none) G2, ct := fun env2 G2 => E.ct (env2.set i none) G2, ex := noX } (env1.set i (some (.ref a))) G1) ∧
    (b = false → E.ex cls fs env1 G1) } env G
section
variable {X : Cx} {W : WX} {x n : Str} {c : Value} {body suite : List Stmt} {b0 : Stmt} {np pos pos' : Pos} {wb : S3} {ws : Addr → Value → S3}
theorem s_try (i : Nat) (hs : X.stack = X.env :: X.outer) (hf : X.env.frame = some X.env.locals) (hN : X.N.Nodup) (hi : X.N[i]? = some n) (hln : X.env.kindOf n = some .local) (hc : Names X x c) (tk : Takes X W)
    (hb : ∀ (W1 : WX) (pn : List (Addr × Obj)) (xe : Value → Shared → Prop), Takes (X.tr pn xe) W1 → PassesOwn (model X.prog X.w) X.A X.env xe → PSs (X.tr pn xe) body (upS X.K W1 wb))
    (hsu : ∀ (a : Addr) (oe : Obj) (cls : Value) (pn : List (Addr × Obj)), Held (X.suite a ((a, oe) :: pn)) a cls → PSs (X.suite a ((a, oe) :: pn)) (b0 :: suite) (upS X.K W0 (ws a cls))) :
    PS X (.Try body [.ExceptHandler (some (.Name x np)) (some n) (b0 :: suite) pos'] [] [] pos) (upS X.K W (wTry X.K c i wb ws)) := by
  refine PS.imp (ps_try_as (tb := fun W1 => upS X.K W1 wb) (ts := fun a cls d D σ H => d = none ∧ upS X.K W0 (ws a cls) D σ H) hs hf hN hi hln hc tk hb fun a oe cls d pn hz hf => ?_) fun D σ H ⟨env, G, E, re, rg, h, f⟩ => ?_
  · refine ⟨fun pins s σ H D I ⟨hd, hh⟩ => ?_⟩
    exact (hsu a oe cls pn ⟨⟨oe, List.mem_cons_self, hz.1, by rw [hz.2]; exact hd, hf⟩⟩).run pins s σ H D I hh
  refine upS_go re rg h ⟨f.nx, f.rt, f.bk, f.ct, fun cls fs d env1 σ1 G1 H1 e1 re1 rg1 rx ⟨b, h1, h2, h3⟩ => ⟨b, h1, fun hb1 a ha => ?_, fun hb1 => f.ex cls fs d env1 σ1 G1 H1 e1 re1 rg1 rx (h3 hb1)⟩⟩
  obtain ⟨q, k2⟩ := h2 hb1
  subst q
  have g1 := k2 a (rg1.fresh ha)
  have f1 := f.ext e1
  refine ⟨rx, upS_go (re1.set (d := .ref a) (v := .ref a) rfl i) rg1 g1 ⟨fun env2 σ2 G2 H2 e2 re2 rg2 q => ?_, f1.rt, fun env2 σ2 G2 H2 e2 re2 rg2 q => ?_, fun env2 σ2 G2 H2 e2 re2 rg2 q => ?_, nox0⟩⟩
  · exact f1.nx _ _ G2 H2 e2 (re2.unset i) rg2 q
  · exact f1.bk _ _ G2 H2 e2 (re2.unset i) rg2 q
  · exact f1.ct _ _ G2 H2 e2 (re2.unset i) rg2 q
end

/-! ### the exception in hand: isinstance, defs called with it -/
def rIsH (K : PySem.W.Frag) (a : Addr) (cls : Value) : List V → Hp → VK → Prop := fun xs H Q => ∃ (D : Addr) (c : V) (cv : Value) (b : Bool), cls = .ref D ∧ ExcC K D ∧ xs = [.ref a, c] ∧ ClsV c cv ∧ PySem.W.kitOne K (.ref D) cv = some b ∧ Q (.bl b) H
theorem call_isH {X : Cx} {a : Addr} {cls : Value} (h : Held X a cls) : CallR X (.builtin "isinstance") (rIsH X.K a cls) := by
  rintro pins s σ H xs us Q I r ⟨D, c, cv, b, rfl, C, rfl, hcv, e, q⟩
  obtain ⟨u1, u2, rfl, r1, r2⟩ := vals2 r
  obtain rfl : u1 = Value.ref a := r1
  obtain rfl := hcv.eq r2
  obtain ⟨⟨oc, od, dt, sl⟩, m, h1, h2, vs, h3⟩ := h.ex
  dsimp only at h1 h2 h3
  subst h1 h2 h3
  have hget := (I.pin _ (List.mem_append_left _ m)).1
  refine PySem.W.kia_one (PySem.W.handS_kitx_exc C.hg C.hk C.hs C.hd C.ha C.hn C.ht C.hm) I.kIn (s := s) (x := .ref a) ⟨hget, rfl, rfl, trivial⟩ e (fun z => nomatch z) fun tk => ?_
  exact ⟨.bl b, H, I.kept (t' := tk) fun _ _ z => z, rfl, q⟩
def fIsH (K : PySem.W.Frag) (a : Addr) (cls : Value) : FA := fun xs G R => match xs with
  | [.ref b, c] => b = a ∧ ∃ D u r, cls = .ref D ∧ ExcC K D ∧ clsD c = some u ∧ PySem.W.kitOne K (.ref D) u = some r ∧ R (.bl r) G
  | _ => False
theorem lift_isH {K : PySem.W.Frag} {a : Addr} {cls : Value} : LiftC K (rIsH K a cls) (fIsH K a cls) := by
  intro xs vs H G R Q r g h fe
  unfold fIsH at h
  split at h
  · obtain ⟨rfl, D, u, b, h0, hC, h1, h2, h3⟩ := h
    obtain ⟨v1, r1, e1, a1, v2, r2, e2, a2, e3⟩ := r
    have e3 : r2 = [] := e3
    subst e3 e2 e1
    exact ⟨D, v2, u, b, h0, hC, by rw [show v1 = _ from a1], clsD_V a2 h1, h2, fe (.bl b) _ G H .refl rfl g h3⟩
  · exact h.elim

/-- a def's promise within an except suite; p: the exception's object -/
structure FnE (P : Program) (w : World) (K : PySem.W.Frag) (mg : Str → Option Value) (base : Heap) (k : Nat) (f : Addr) (fd : FuncData) (ps : List Str) (sp : Addr → Value → Sp) : Prop where
  len : ∀ a c vs H Q E, sp a c vs H Q E → vs.length = ps.length
  run : ∀ (A : Around) (outer : List Env) (s : Shared) (H : Hp) (args : Args) (us : List Value) (vs : List V) (Q : VK) (E : XK) (p : Addr × Obj) (c : Value), L2H.RoomH k A → A.guards = some [] → (p.2.cls = c ∧ p.2.dict = none ∧ ∃ fs, p.2.data = .fields fs) →
    L2H.PinOk outer H s p → Env0 P w K mg base A outer s H → BindsTo s fd args (ps.zip us) → Vals vs us → sp p.1 c vs H Q E → codeAny (model P w) A (.call (.ref f) args) (CR (L2.CX P w) outer P w H s Q E) s
section
variable {P : Program} {w : World} {K : PySem.W.Frag} {mg : Str → Option Value} {base : Heap}
theorem fn_E {k : Nat} {f : Addr} {nm ql : Str} {pa : Arguments} {bd : List Stmt} {sc : Scope} {dV kV dc pm cv ct oc : Value} {an od : Option Addr} {sl : Array (Option Value)} {N ps : List Str} {sp : Addr → Value → Sp}
    (lk : K.lookup f = some ⟨oc, od, .func (PySem.W.fnOf nm ql pa bd sc dV kV dc pm an cv ct), sl⟩) (hc : PySem.W.codeIn K cv ql = true) (S : FnScope N ps sc)
    (len : ∀ a c vs H Q E, sp a c vs H Q E → vs.length = ps.length)
    (hb : ∀ (A : Around) (outer : List Env) (s : Shared) (H : Hp) (vs : List V) (Q : VK) (E : XK) (p : Addr × Obj) (c : Value), A.guards = some [] → L2H.RoomH k (A.deeper (envOfC ql sc s.heap.objs.size f cv)) → (p.2.cls = c ∧ p.2.dict = none ∧ ∃ fs, p.2.data = .fields fs) → sp p.1 c vs H Q E →
      ∃ t, PSs (L2H.cxH (L2.CX P w) P w K mg base N ql sc f cv A outer s H E p) bd t ∧ t { nx := fun _ H' => Q .non H', rt := Q } (start N vs) H) :
    FnE P w K mg base (k + 1) f (PySem.W.fnOf nm ql pa bd sc dV kV dc pm an cv ct) ps sp := by
  constructor
  · exact len
  intro A outer s H args us vs Q E p c hr hg hp pin e0 bt rv hs
  have there := fun b o e => (e0.bs b o e).1
  have kin := e0.mod.kin.keeps there
  refine codeAny_call_function hr.depth (kin _ _ lk) rfl S.co S.gen rfl (PySem.W.codeRec_of kin hc) (bt _ _ _ _ ?_)
  have kinds : ∀ y ∈ ps.zip us, sc.names.lookup y.1 = some .local ∨ (sc.names.lookup y.1 = some .cell ∧ ((cellsFrom (s.heap.objs.size + 1) sc.names []).lookup y.1).isSome = true) := by
    rintro ⟨n, v⟩ hy
    cases S.par n (List.of_mem_zip hy).1 with
    | inl q => exact .inl q
    | inr q => exact .inr ⟨q, PySem.W.cellsFrom_some _ _ _ (.inl q)⟩
  refine wpAny_newFunctionEnv_cells S.kind kinds fun env he s1 x => ?_
  subst he
  have nolim := e0.mod.nolimit.keeps there
  refine ⟨nolim.keeps x.toInCall.keep, codeAny_func ?_⟩
  obtain ⟨t, ht, hq⟩ := hb A outer s H vs Q E p c hg (hr.deeper _) hp hs
  have I := L2H.inv_startH (CX := L2.CX P w) (w := w) (E := E) (N := N) S pin e0 (len _ _ _ _ _ _ hs) rv x
  refine wpAny_mono (ht.run [] s1 _ H _ I hq) (fun fl s' o => ?_) fun _ _ o => o
  cases fl with
  | next =>
    obtain ⟨σ', H', J, q⟩ := o
    exact ⟨.non, H', J.os, J.bare, J.base, J.hok, rfl, q⟩
  | ret u =>
    obtain ⟨v, σ', H', J, r', q⟩ := o
    exact ⟨v, H', J.os, J.bare, J.base, J.hok, r', q⟩
  | brk =>
    obtain ⟨_, _, _, q⟩ := o
    exact (show False from q).elim
  | cont =>
    obtain ⟨_, _, _, q⟩ := o
    exact (show False from q).elim
end
abbrev SE3 := Addr → Value → SP3
structure GoodE (P : Program) (w : World) (K : PySem.W.Frag) (mg : Str → Option Value) (base : Heap) (nm : Str) (ps : List Str) (k : Nat) (S : SE3) : Prop where
  ex : ∃ f fd, mg nm = some (.ref f) ∧ PySem.W.keepIn K (.ref f) = true ∧ Binds K fd ps [] ∧ FnE P w K mg base k f fd ps (fun a c => sp3 K ps.length (S a c))
abbrev cxE (P : Program) (w : World) (K : PySem.W.Frag) (mg : Str → Option Value) (base : Heap) (N : List Str) (nm : Str) (sc : Scope) (f : Addr) (cd : Value) (A : Around) (outer : List Env) (s : Shared) (H : Hp) (E : XK) (p : Addr × Obj) : Cx :=
  L2H.cxH (L2.CX P w) P w K mg base N nm sc f cd A outer s H E p
section
variable {P : Program} {w : World} {K : PySem.W.Frag} {mg : Str → Option Value} {base : Heap}
theorem goodE_of {nm : Str} {st : Stmt} {N ps : List Str} {k : Nat} {S : SE3} (d : DefAt K mg nm st ps) (sc : FnScope N ps (defScope st))
    (hb : ∀ (f : Addr) (cd : Value) (A : Around) (outer : List Env) (s : Shared) (H : Hp) (E : XK) (p : Addr × Obj) (c : Value),
      Held (cxE P w K mg base N nm (defScope st) f cd A outer s H E p) p.1 c → (cxE P w K mg base N nm (defScope st) f cd A outer s H E p).A.guards = some [] → L2H.RoomH k (cxE P w K mg base N nm (defScope st) f cd A outer s H E p).A →
      ∃ u : S3, PSs (cxE P w K mg base N nm (defScope st) f cd A outer s H E p) (defBody st) (upS K W0 u) ∧ ∀ ds G R, ds.length = ps.length → S p.1 c ds G R noX → u { nx := fun _ G => R .non G, rt := R, ex := noX } (start3 N ds) G)
    (hx : ∀ a c ds G R Ex, S a c ds G R Ex → S a c ds G R noX) :
    GoodE P w K mg base nm ps (k + 1) S := by
  obtain ⟨f, fd, hm, F, hbd⟩ := d.ex
  have kp := F.kp
  obtain ⟨oc, od, kV, doc, pm, an, cdv, ct, osl, rfl, lk, hcd⟩ := F.ex
  have hlen : ∀ a c vs H Q E, sp3 K ps.length (S a c) vs H Q E → vs.length = ps.length := fun a c vs H Q E ⟨ds, G, R, Ex, h1, h2, _⟩ => h2.length.trans h1
  refine ⟨f, _, hm, kp, hbd, fn_E lk hcd sc hlen fun A outer s H vs Q E p c hg hr hp hs => ?_⟩
  obtain ⟨u, hu, hw⟩ := hb f cdv A outer s H E p c ⟨⟨p.2, List.mem_singleton.mpr rfl, hp.1, hp.2.1, hp.2.2⟩⟩ hg hr
  refine ⟨_, hu, ?_⟩
  obtain ⟨ds, G, R, Ex, h1, h2, h3, h4, h5, h6⟩ := hs
  refine ⟨start3 N ds, G, _, ?_, h3, hw ds G R h1 (hx _ _ _ _ _ _ h4), ⟨fun env σ G' H' e re rg q => h5 .non .non G' H' e rfl rg q, h5, fun _ _ _ _ _ _ _ z => z.elim, fun _ _ _ _ _ _ _ z => z.elim, nox0⟩⟩
  unfold start3 L2.start
  rw [h2.length]
  exact REnv.start h2 (REnv.nones _)
end
section
variable {X : Cx} {W : WX} {k : Nat} {x : Str} {ps : List Str} {S : SE3} {p pos : Pos} {e : Expr} {es : List Expr} {ar : A3} {we : W3} {a : Addr} {c : Value}
theorem c_callE (F : GoodE X.prog X.w X.K X.mg X.base x ps k S) (hl : Held X a c) (hr : L2H.RoomH k X.A) (hgd : X.A.guards = some []) (tk : Takes X W) (ha : PA X (e :: es) (upA X.K W ar)) (hg : Gl X x := by rfl)
    (hdb : (x == ("__debug__" : Str)) = false := by decide) (he : starEach (e :: es) X.env = (false, eval e X.env) :: starEach es X.env := by rfl) (hpl : (backTo pos (starEach es X.env)).any (·.1) = false := by rfl) :
    PE X (.Call (.Name x p) (e :: es) [] pos) (up X.K W (wCall ps.length (S a c) ar)) := by
  obtain ⟨f, fd, hm, hk, hb, FG⟩ := F.ex
  obtain ⟨oe, hmem, hz1, hz2, hfl⟩ := hl.ex
  refine ⟨fun pins s σ H Q I h => ?_⟩
  obtain ⟨env, G, R, Ex, re, rg, h, fe, fx⟩ := h
  refine wpAny_Call_Name_kw (ld_glob I hg hm ?_ hdb)
  refine PySem.W.callWith_K (h₀ := X.base) I.ok.mod.kin hk (thn (ha.run pos pins s σ H _ I (upA_go re rg h fx (Q := fun vs H1 => sp3 X.K ps.length (S a c) vs H1 Q (WE W σ)) fun ds vs G1 H1 e1 rd rg1 h1 => ?_)) fun us s1 ⟨vs, H1, I1, r, q⟩ => ⟨I1.kIn, ?_⟩) he hpl
  · exact ⟨ds, G1, R, _, h1.1, rd, rg1, h1.2, fe.ext e1, fun c fs d env' σ' G2 H2 e2 re2 rg2 rx ex => fx c fs d env σ G2 H2 (e1.trans e2) (re.ext (e1.trans e2)) rg2 rx ex⟩
  · have hl : us.length = ps.length := by rw [← r.length]; exact FG.len _ _ _ _ _ _ q
    have b := hb s1 us I1.kIn (by rw [List.append_nil]; exact hl)
    rw [List.append_nil] at b
    have P1 := I1.pin (a, oe) (List.mem_append_left _ hmem)
    have pinok : L2H.PinOk X.stack H1 s1 (a, oe) := ⟨P1.1, P1.2.1, fun hm => (List.mem_cons.mp (I1.stkSub a hm)).elim P1.2.2.1 P1.2.2.2.1, P1.2.2.2.2⟩
    refine wpAny_call (codeAny_mono (FG.run X.A X.stack s1 H1 ⟨us, []⟩ us vs Q (WE W σ) (a, oe) c hr hgd ⟨hz1, hz2, hfl⟩ pinok I1.env0 b r q) fun r s' hq => ?_)
    cases r with
    | error e => exact passAt tk σ pins H1 s1 e s' I1 hq
    | ok fl =>
      cases fl with
      | ret u => exact I1.after hq
      | next => exact False.elim hq
      | brk => exact False.elim hq
      | cont => exact False.elim hq
end
end L3

set_option Elab.async false
set_option linter.all false
set_option maxRecDepth 100000
namespace L3
open PySem PySem.Spec L2
open PyProof.Rows hiding St

/-! ### repr -/
def keyPy : Key → PyData
  | .inl i => .int i
  | .inr x => .str x
mutual
def toPr : D → PyData
  | .non => .none
  | .bl b => .bool b
  | .int i => .int i
  | .str x => .str x
  | .tup xs => .tuple (toPrL xs)
  | .lst xs => .list (toPrL xs)
  | .lsx xs => .list (toPrL xs)
  | .dct ks xs => .dict ((ks.map keyPy).zip (toPrL xs))
  | .ty _ => .none
  | .ins _ _ _ => .none
  | .ref _ => .none
  | .tpf _ => .none
  | .exc _ _ _ _ => .none
  | .lam _ _ _ _ _ => .none
def toPrL : List D → List PyData
  | [] => []
  | d :: r => toPr d :: toPrL r
end
mutual
def rdD : D → Bool
  | .non => true
  | .bl _ => true
  | .int _ => true
  | .str _ => true
  | .tup xs => rdDL xs
  | .lst xs => rdDL xs
  | .lsx xs => rdDL xs
  | .dct _ xs => rdDL xs
  | _ => false
def rdDL : List D → Bool
  | [] => true
  | d :: r => rdD d && rdDL r
end
section
variable {X : Cx} {pins : List (Addr × Obj)} {σ : St} {H : Hp} {s : Shared} {G : GH}
theorem key_reads {h : Heap} {P : Program} {w : World} (k : Key) (v : Value) (e : (mixKind P w).is k v = true) : Reads h v (keyPy k) [] := by
  rcases keyIs_shape (show keyIs k v = true from e) with ⟨i, t, rfl, rfl⟩ | ⟨x, t, rfl, rfl⟩
  · exact .int i t
  · exact .str x t
theorem not_sys (I : Inv X pins σ H s) (sy : sysB X.K = true) {a : Addr} {o : Obj} {vs : Array Value} {n : Nat} (e : s.heap.get? a = some o) (d : o.data = .seq vs n) : sysModules ≠ a := by
  intro z
  obtain ⟨o', es, m, h1, h2⟩ := sysB_ok sy
  have h3 := I.kIn _ _ h1
  rw [z, e] at h3
  cases h3
  rw [d] at h2
  cases h2
mutual
theorem Rep.reads (I : Inv X pins σ H s) (sy : sysB X.K = true) : ∀ (d : D) {v : V} {u : Value}, Rep X.K H G d v → RelV v u → rdD d = true → ∃ as, Reads s.heap u (toPr d) as ∧ sysModules ∉ as
  | .non, v, u, r, q, _ => by
    obtain rfl : v = V.non := r
    obtain rfl : u = Value.none := q
    exact ⟨[], .none, List.not_mem_nil⟩
  | .bl b, v, u, r, q, _ => by
    obtain rfl : v = V.bl b := r
    obtain rfl : u = Value.bool b := q
    exact ⟨[], .bool b, List.not_mem_nil⟩
  | .int i, v, u, r, q, _ => by
    obtain rfl : v = V.int i := r
    obtain ⟨t, rfl⟩ := q
    exact ⟨[], .int i t, List.not_mem_nil⟩
  | .str x, v, u, r, q, _ => by
    obtain rfl : v = V.str x := r
    obtain ⟨t, rfl⟩ := q
    exact ⟨[], .str x t, List.not_mem_nil⟩
  | .tup xs, v, u, ⟨a, vs, e, k, t⟩, q, h => by
    subst e
    obtain rfl : u = Value.ref a := q
    obtain ⟨its, rv, ⟨o, ho, hc, n, hd⟩, _⟩ := I.tuple k.sq
    obtain ⟨as, r1, r2⟩ := RepL.readsAll I sy xs t rv h
    exact ⟨as, .tuple ho hc hd r1, r2⟩
  | .lst xs, v, u, ⟨a, vs, e, g, k, t⟩, q, h => by
    subst e
    obtain rfl : u = Value.ref a := q
    obtain ⟨its, rv, ⟨o, n, ho, hc, _, hd⟩, _⟩ := I.list (show SqL X.K H a vs from .inl (.inl k))
    obtain ⟨as, r1, r2⟩ := RepL.readsAll I sy xs t rv h
    exact ⟨a :: as, .list ho hc hd r1, fun m => (List.mem_cons.mp m).elim (not_sys I sy ho hd) r2⟩
  | .lsx xs, v, u, ⟨a, vs, e, k, t⟩, q, h => by
    subst e
    obtain rfl : u = Value.ref a := q
    obtain ⟨its, rv, ⟨o, n, ho, hc, _, hd⟩, _⟩ := I.list k.sq
    obtain ⟨as, r1, r2⟩ := RepL.readsAll I sy xs t rv h
    exact ⟨a :: as, .list ho hc hd r1, fun m => (List.mem_cons.mp m).elim (not_sys I sy ho hd) r2⟩
  | .dct ks xs, v, u, ⟨a, kvs, e, g, k, hk, t⟩, q, h => by
    subst e
    obtain rfl : u = Value.ref a := q
    obtain ⟨hz, hsys, ws, kv, hd⟩ := (show ObjOk X.prog X.w H s.heap a (.dK kvs) from I.hok a _ k)
    obtain ⟨as, r1, r2⟩ := RepL.pairs I sy xs (kvs := kvs) (ws := ws) t kv h
    rw [← hk]
    have ne : sysModules ≠ a := fun z => by
      rw [← z] at hsys
      exact absurd hsys (by simp)
    exact ⟨a :: as, PyProof.V.reads_dictOf key_reads hd r1, fun m => (List.mem_cons.mp m).elim ne r2⟩
  | .ty _, _, _, _, _, h => by cases h
  | .ins _ _ _, _, _, _, _, h => by cases h
  | .ref _, _, _, _, _, h => by cases h
  | .tpf _, _, _, _, _, h => by cases h
  | .exc _ _ _ _, _, _, _, _, h => by cases h
  | .lam _ _ _ _ _, _, _, _, _, h => by cases h
theorem RepL.readsAll (I : Inv X pins σ H s) (sy : sysB X.K = true) : ∀ (ds : List D) {vs : List V} {us : List Value}, RepL X.K H G ds vs → Vals vs us → rdDL ds = true → ∃ as, ReadsAll s.heap us (toPrL ds) as ∧ sysModules ∉ as
  | [], vs, us, t, q, _ => by
    obtain rfl : vs = [] := t
    cases q
    exact ⟨[], .nil, List.not_mem_nil⟩
  | d :: ds, vs, us, ⟨v, r, e, a, t⟩, q, h => by
    subst e
    have h' : (rdD d && rdDL ds) = true := h
    rw [Bool.and_eq_true] at h'
    cases q with
    | cons q1 q2 =>
      obtain ⟨as, r1, n1⟩ := Rep.reads I sy d a q1 h'.1
      obtain ⟨bs, r2, n2⟩ := RepL.readsAll I sy ds t q2 h'.2
      exact ⟨as ++ bs, .cons r1 r2, fun m => (List.mem_append.mp m).elim n1 n2⟩
theorem RepL.pairs (I : Inv X pins σ H s) (sy : sysB X.K = true) : ∀ (ds : List D) {kvs : List (Key × V)} {ws : List (Key × Value)}, RepL X.K H G ds (kvs.map (·.2)) → KV kvs ws → rdDL ds = true →
    ∃ as, PyProof.V.PairsRead s.heap keyPy ws (((kvs.map (·.1)).map keyPy).zip (toPrL ds)) as ∧ sysModules ∉ as
  | [], kvs, ws, t, q, _ => by
    have e : kvs = [] := by simpa using (show kvs.map (·.2) = [] from t)
    subst e
    cases q
    exact ⟨[], .nil, List.not_mem_nil⟩
  | d :: ds, kvs, ws, ⟨v, r, e, a, t⟩, q, h => by
    have h' : (rdD d && rdDL ds) = true := h
    rw [Bool.and_eq_true] at h'
    match kvs, ws, q, e with
    | p :: kvs, w :: ws, .cons q1 q2, e =>
      rw [List.map_cons] at e
      injection e with e1 e2
      subst e1 e2
      obtain ⟨as, r1, n1⟩ := Rep.reads I sy d a q1.2 h'.1
      obtain ⟨bs, r2, n2⟩ := RepL.pairs I sy ds t q2 h'.2
      refine ⟨as ++ bs, ?_, fun m => (List.mem_append.mp m).elim n1 n2⟩
      obtain ⟨w1, w2⟩ := w
      obtain ⟨p1, p2⟩ := p
      obtain rfl : p1 = w1 := q1.1
      exact .cons r1 r2
end
end
/-- what repr can show -/
structure ReprOk (d : D) : Prop where
  rd : rdD d = true
  sh : (toPr d).showable = true
  dp : (toPr d).depth ≤ 150
  sz : (toPr d).shown.length ≤ sizeLine
/-- repr(x), x a tuple -/
def fRepr : FA := fun xs G R => ∃ ds, xs = [.tup ds] ∧ ReprOk (.tup ds) ∧ R (.str (toPr (.tup ds)).shown) G
def rRepr (K : PySem.W.Frag) : List V → Hp → VK → Prop := fun vs H Q => ∃ (G : GH) (ds : List D) (v : V), vs = [v] ∧ Rep K H G (.tup ds) v ∧ ReprOk (.tup ds) ∧ Q (.str (toPr (.tup ds)).shown) H
theorem call_repr3 {X : Cx} (sy : sysB X.K = true) (hg : X.A.guards = some []) (hu : X.A.units + 190 < cLine) : CallR X (.builtin "repr") (rRepr X.K) := by
  rintro pins s σ H xs us Q I r ⟨G, ds, v, rfl, rp, ok, q⟩
  cases r with
  | cons r1 r2 =>
    cases r2
    obtain ⟨as, rd, ns⟩ := Rep.reads I sy (.tup ds) rp r1 ok.rd
    obtain ⟨a, vs, rfl, _⟩ := rp
    cases r1
    refine repr_of_reads' rd ok.sh (fun _ => ns) hg (by have := ok.dp; omega) (fun _ _ e => e) (fun h' u tk k => ?_) ok.sz
    exact ⟨.str _, H, I.kept k, ⟨u, rfl⟩, q⟩
theorem lift_repr {K : PySem.W.Frag} : LiftC K (rRepr K) fRepr := by
  rintro xs vs H G R Q r g ⟨ds, rfl, ok, h⟩ fe
  obtain ⟨v, rfl, a⟩ := r.one_inv
  exact ⟨G, ds, v, rfl, a, ok, fe (.str _) _ G H .refl rfl g h⟩

/-! ### xs.count(x), t.index(x) -/
def countF (y : D) (ds : List D) : Nat := ds.countP fun z => eqF z y
theorem countP_V {K : PySem.W.Frag} {H : Hp} {G : GH} {y : D} {v : V} (ry : Rep K H G y v) (fy : flatD y = true) : ∀ {ds : List D} {vs : List V} {us : List Value}, RepL K H G ds vs → Vals vs us → ds.all flatD = true → us.countP (eqU v) = countF y ds
  | [], _, _, t, q, _ => by
    cases (show _ = [] from t)
    cases q
    rfl
  | d :: ds, _, _, ⟨w, r, e, a, t⟩, q, h => by
    subst e
    rw [List.all_cons, Bool.and_eq_true] at h
    cases q with
    | cons q1 q2 =>
      unfold countF
      rw [List.countP_cons, List.countP_cons, countP_V ry fy t q2 h.2, eqU_of q1 (flat_V a h.1), eqF_V a ry h.1 fy]
      rfl
def fCount : FM := fun x xs G R => ∃ ds y, asL G x = some ds ∧ xs = [y] ∧ flatD y = true ∧ ds.all flatD = true ∧ R (.int (countF y ds : Nat)) G
def rCount3 (K : PySem.W.Frag) : V → List V → Hp → VK → Prop := fun x xs H Q => ∃ (G : GH) (a : Addr) (vs : List V) (ds : List D) (y : D) (v : V), x = .ref a ∧ xs = [v] ∧ SqL K H a vs ∧ RepL K H G ds vs ∧ Rep K H G y v ∧ flatD y = true ∧ ds.all flatD = true ∧ Q (.int (countF y ds : Nat)) H
theorem mt_count3 {X : Cx} : MtR X "list.count" (rCount3 X.K) := by
  rintro pins s σ H x xs v us Q I rx rxs ⟨G, a, vs, ds, y, yv, rfl, rfl, sq, rl, ry, fy, fd, q⟩
  cases rx
  cases rxs with
  | cons r1 r2 =>
    rename_i uy _
    cases r2
    obtain ⟨its, rv, ⟨⟨cls, dd, data, sl⟩, n, ho, hc, hdn, hd⟩, hlen⟩ := I.list sq
    simp only at hc hd
    subst hc hd
    refine call_meets PySem.F.slot_list_count ⟨_, ho, rfl⟩ PySem.F.entry_list_count (PySem.F.args_list_count_2 _ _) (SeqAt.list_countAt a its.toArray n dd sl uy (eqU yv)) ⟨ho, fun z hz => ?_, ?_⟩
    · exact mem_eqAt r1 (flat_V ry fy) rv (flatL_V rl fd) z (by simpa using hz)
    · exact ⟨.int (countF y ds : Nat), H, I.tok _, ⟨_, by rw [List.toList_toArray, countP_V ry fy rl rv fd]⟩, q⟩
theorem m_count {K : PySem.W.Frag} : LiftM K "list" (rCount3 K) fCount cL := ⟨tyL, by
  rintro x a xs vs H G R Q rx rs g ⟨ds, y, h1, rfl, h2, h3, h4⟩ fe
  obtain ⟨p, ws, rfl, sq, rl⟩ := asL_at rx g h1
  obtain ⟨v, rfl, rv⟩ := rs.one_inv
  exact ⟨G, p, ws, ds, y, v, rfl, rfl, sq, rl, rv, h2, h3, fe (.int _) _ G H .refl rfl g h4⟩⟩
/-- t.index(x), found -/
def cT3 : D → GH → Prop := fun x _ => (asT x).isSome = true
def fIndexT : FM := fun x xs G R => ∃ ds y j z, asT x = some ds ∧ xs = [y] ∧ flatD y = true ∧ ds.all flatD = true ∧ ds[j]? = some z ∧ eqF z y = true ∧ (∀ m z', m < j → ds[m]? = some z' → eqF z' y = false) ∧ R (.int (j : Nat)) G
def rIndexT (K : PySem.W.Frag) : V → List V → Hp → VK → Prop := fun x xs H Q => ∃ (a : Addr) (ys : List V) (y : V) (j : Nat) (z : V), x = .ref a ∧ xs = [y] ∧ SqT K H a ys ∧ flatV y = true ∧ ys.all flatV = true ∧ ys[j]? = some z ∧ eqV z y = true ∧ (∀ m z', m < j → ys[m]? = some z' → eqV z' y = false) ∧ Q (.int (j : Nat)) H
theorem mt_indexT {X : Cx} : MtR X "tuple.index" (rIndexT X.K) := by
  rintro pins s σ H x xs v us Q I rx rxs ⟨a, ys, y, j, z, rfl, rfl, sq, fy, fys, hz, hzj, hno, q⟩
  cases rx
  cases rxs with
  | cons r1 r2 =>
    rename_i uy _
    cases r2
    obtain ⟨its, rv, ⟨⟨cls, dd, data, sl⟩, ho, hc, n, hd⟩, hlen⟩ := I.tuple sq
    simp only at hc hd
    subst hc hd
    obtain ⟨u, hu, ru⟩ := rv.get hz
    obtain ⟨hjl, hje⟩ := List.getElem?_eq_some_iff.mp hu
    have hvl := rv.length
    have hj : j < its.toArray.size := by simpa using hjl
    have at_ : ∀ (m : Nat) (hm : m < its.toArray.size), SeqAt.EqAt X.A.in1 s its.toArray[m] uy (eqU y its.toArray[m]) := fun m hm => mem_eqAt r1 fy rv fys _ (by simp)
    refine call_meets PySem.F.slot_tuple_index ⟨_, ho, rfl⟩ PySem.F.entry_tuple_index (PySem.F.args_tuple_index_2 _ _)
      (SeqAt.tuple_index2_found a its.toArray n dd sl uy (fun m => eqU y (its.toArray.getD m .none)) j hj (Nat.zero_le _) hj ?_ ?_) ⟨ho, fun m hm => ?_, ?_⟩
    · have e1 : its.toArray.getD j .none = u := by simp [hu]
      rw [e1, eqU_of ru (flat_at fys hz)]
      exact hzj
    · intro m hm _ hmj
      have hml : m < its.length := by simpa using hm
      have hmy : m < ys.length := by omega
      have hy' : ys[m]? = some ys[m] := List.getElem?_eq_getElem hmy
      obtain ⟨u2, hu2, ru2⟩ := rv.get hy'
      have e1 : its.toArray.getD m .none = u2 := by simp [hu2]
      rw [e1, eqU_of ru2 (flat_at fys hy')]
      exact hno m _ hmj hy'
    · have hm' : m < its.length := by simpa using hm
      have e1 : its.toArray.getD m .none = its.toArray[m] := by simp [Array.getD, hm']
      rw [e1]
      exact at_ m hm
    · exact ⟨.int (j : Nat), H, I.tok _, ⟨_, rfl⟩, q⟩
/-- o.m(..), o such a tuple -/
def wMT (f : FM) (o : W3) (ar : A3) : W3 := fun env G R Ex => o env G (fun x G1 => ∃ ds, x = .tpf ds ∧ ar env G1 (fun xs G2 => f (.tup ds) xs G2 R) Ex) Ex
theorem tpf_tup {K : PySem.W.Frag} {H : Hp} {G : GH} {ds : List D} {v : V} (r : Rep K H G (.tpf ds) v) : Rep K H G (.tup ds) v :=
  let ⟨a, vs, o, q, g, h, z, t⟩ := r; ⟨a, vs, q, .inl ⟨g, .inr ⟨o, h⟩⟩, t⟩
/-- a name whose value is such a tuple, taken as a plain tuple -/
def wVarT (i : Nat) : W3 := fun env G R _ => ∃ ds, at3 env i = some (.tpf ds) ∧ R (.tup ds) G
section
variable {X : Cx} {W : WX} {o e : Expr} {es : List Expr} {wo : W3} {ar : A3} {nm : Str} {apos cpos pos : Pos} {id : String} {r : V → List V → Hp → VK → Prop} {f : FM}
theorem c_varT (i : Nat) {x : Str} {pos : Pos} (hN : X.N[i]? = some x := by rfl) (hv : Vis X.env.scope x := by first | exact Or.inl rfl | exact Or.inr (Or.inl rfl) | exact Or.inr (Or.inr rfl)) (hd : (x == ("__debug__" : Str)) = false := by decide)
    (hcd : (x == ("__classdict__" : Str)) = false := by decide) : PE X (.Name x pos) (up X.K W (wVarT i)) :=
  PE.imp (pe_var hN hv hd hcd) fun σ H Q ⟨env, G, R, Ex, re, rg, ⟨ds, h1, h2⟩, fe, fx⟩ => let ⟨v, e, r⟩ := re.get h1; ⟨v, e, fe (.tup ds) v G H .refl (tpf_tup r) rg h2⟩
theorem c_bmT (pa : PlainAttrs "tuple") (slot : Slot "tuple" nm id) (hty : typeOf (.builtin id) = pure (.type "method_descriptor")) (hm : MtR X id r)
    (hl : ∀ (x : D) (a : V) (xs : List D) (vs : List V) (H : Hp) (G : GH) (R : K3) (Q : VK), Rep X.K H G x a → RepL X.K H G xs vs → RG X.K H G → f x xs G R → FinE X.K H G R Q → r a vs H Q) (ho : PE X o (up X.K W wo)) (ha : PA X (e :: es) (upA X.K W ar))
    (hbase : attributeBase o nm X.env (eval o X.env) = eval o X.env := by rfl)
    (hfew : ((backTo cpos (starEach (e :: es) X.env)).all (fun x => !x.1) && (backToKw cpos (keywordEach [] X.env)).all (fun x => x.1.isSome)
      && decide ((e :: es).length + ([] : List Keyword).length + (if ([] : List Keyword).isEmpty then 0 else 1) < 30)) = true := by rfl)
    (hline : (apos.endLine == cpos.line) = true := by rfl) (hs : starEach (e :: es) X.env = (false, eval e X.env) :: starEach es X.env := by rfl) (hplain : (backTo cpos (starEach es X.env)).any (·.1) = false := by rfl) :
    PE X (.Call (.Attribute o nm apos) (e :: es) [] cpos) (up X.K W (wMT f wo ar)) := by
  refine ⟨fun pins s σ H Q I h => ?_⟩
  obtain ⟨env, G, R, Ex, re, rg, h, fe, fx⟩ := h
  let mid : VK := fun x H1 => ∃ G1 ds, Ext G H G1 H1 ∧ Rep X.K H1 G1 (.tpf ds) x ∧ RG X.K H1 G1 ∧ ar env G1 (fun xs G2 => f (.tup ds) xs G2 R) Ex
  have first := ho.run pins s σ H mid I (up_go re rg h fx fun x a G1 H1 e1 rx rg1 ⟨ds, hx, h1⟩ => ⟨G1, ds, e1, by rw [← hx]; exact rx, rg1, h1⟩)
  refine wpAny_Call_method_late hbase hfew hline rfl (thn first fun v s1 ⟨x, H1, I1, r1, G1, ds, e1, rx, rg1, h1⟩ => ?_)
  have rx' := rx
  obtain ⟨a, vs, ob, hx, g, hH, hz, rl⟩ := rx'
  subst hx
  obtain rfl : v = Value.ref a := r1
  obtain ⟨k1, _, its, rv, o', k2, k3, k4⟩ := (show ObjOk X.prog X.w H1 s1.heap a (.frz ob (.tup vs)) from I1.hok a _ hH)
  rw [k1] at k2
  cases k2
  refine ⟨"tuple", id, pa, slot, hty, ⟨ob, k1, k3⟩, fun b eb => by cases eb; exact ⟨ob, k1, hz⟩, ?_⟩
  have hA := ha.run cpos pins s1 σ H1 (fun us H2 => r (.ref a) us H2 Q) I1 (upA_go (re.ext e1) rg1 h1 (fx.ext e1) fun xs us G2 H2 e2 rs rg2 h2 => hl (.tup ds) (.ref a) xs us H2 G2 R Q (tpf_tup (rx.ext e2)) rs rg2 h2 (fe.ext (e1.trans e2)))
  rw [hs] at hA ⊢
  refine Calls.callWith_builtin (by show (false || (backTo cpos (starEach es X.env)).any (·.1)) = false; rw [hplain] <;> rfl) (Calls.evalArgs_plain ?_)
  exact thn hA fun us s2 ⟨ws, H2, I2, r2, q2⟩ => hm pins s2 σ H2 (.ref a) ws (.ref a) us Q I2 rfl r2 q2
end
theorem m_indexT {K : PySem.W.Frag} (x : D) (a : V) (xs : List D) (vs : List V) (H : Hp) (G : GH) (R : K3) (Q : VK) (rx : Rep K H G x a) (rs : RepL K H G xs vs) (g : RG K H G) (h : fIndexT x xs G R) (fe : FinE K H G R Q) : rIndexT K a vs H Q := by
  obtain ⟨ds, y, j, z, h1, rfl, h2, h3, h4, h5, h6, h7⟩ := h
  obtain ⟨p, ws, rfl, sq, rl⟩ := asT_at rx h1
  obtain ⟨v, rfl, rv⟩ := rs.one_inv
  obtain ⟨u, k1, k2⟩ := rl.get h4
  have fz : flatD z = true := List.all_eq_true.mp h3 z (List.mem_of_getElem? h4)
  refine ⟨p, ws, v, j, u, rfl, rfl, sq, flat_V rv h2, flatL_V rl h3, k1, by rw [eqF_V k2 rv fz h2]; exact h5, fun m z' hm hz => ?_, fe (.int _) _ G H .refl rfl g h7⟩
  obtain ⟨d, q1, q2⟩ := rl.getV hz
  rw [eqF_V q2 rv (List.all_eq_true.mp h3 d (List.mem_of_getElem? q1)) h2]
  exact h6 m d hm q1
/-- tuple(xs), its object known -/
def fTupleF : FA := fun xs G R => ∃ x ds, xs = [x] ∧ asL G x = some ds ∧ R (.tpf ds) G
theorem call_tupleF {X : Cx} : CallR X (.type "tuple") (fun xs H Q => ∃ p ys, xs = [.ref p] ∧ SqL X.K H p ys ∧ ∀ l o, H l = none → o.dict = none → Q (.ref l) (upd H l (.frz o (.tup ys)))) := by
  rintro pins s σ H xs us Q I r ⟨p, ys, rfl, hq, q⟩
  obtain ⟨u, rfl, rx⟩ := vals1 r
  cases rx
  obtain ⟨its, rv, pl, hz⟩ := I.list hq
  have hlen := rv.length
  refine call_tuple_list pl.isList (fun h' kp => ?_) (by simp only [List.size_toArray] <;> omega)
  have I1 : Inv X pins σ H { s with heap := h' } := I.kept (t' := s.toks) kp
  have at_ : (h'.push { cls := .type "tuple", data := .seq its.toArray }).get? h'.objs.size = some { cls := .type "tuple", data := .seq its.toArray } := Heap.get?_push_size _ rfl
  have I2 := I1.laid (t' := s.toks) (o := .frz { cls := .type "tuple", data := .seq its.toArray } (.tup ys)) (fun b o e => Heap.get?_push_of_some _ e) (Nat.le_refl _) ⟨at_, hz, its, rv, IsTup.new _ _⟩
  exact ⟨.ref h'.objs.size, _, I2, rfl, q _ _ (I1.hok.fresh (Nat.le_refl _)) rfl⟩
theorem lift_tupleF {K : PySem.W.Frag} : LiftC K (fun xs H Q => ∃ p ys, xs = [.ref p] ∧ SqL K H p ys ∧ ∀ l o, H l = none → o.dict = none → Q (.ref l) (upd H l (.frz o (.tup ys)))) fTupleF := by
  rintro xs vs H G R Q r g ⟨x, ds, rfl, h1, h2⟩ fe
  obtain ⟨v, rfl, a⟩ := r.one_inv
  obtain ⟨p, ws, rfl, sq, rl⟩ := asL_at a g h1
  refine ⟨p, ws, rfl, sq, fun l o hl ho => ?_⟩
  have e : Ext G H G (upd H l (.frz o (.tup ws))) := .alloc hl (g.fresh hl)
  exact fe (.tpf ds) _ G _ e ⟨l, ws, o, rfl, g.fresh hl, upd_same, ho, RepL.ext e ds rl⟩ (g.alloc hl) h2
end L3

set_option Elab.async false
set_option linter.all false
set_option maxRecDepth 100000
namespace L3
open PySem PySem.Spec L2
open PyProof.Rows hiding St

/-! ### list(range(n)) -/
def rgD (n : Int) : List D := (List.range n.toNat).map fun i : Nat => D.int (i : Int)
theorem rg_rep {K : PySem.W.Frag} {H : Hp} {G : GH} (n : Int) : RepL K H G (rgD n) (rgV 0 n) := by
  have e1 : rgD n = ((List.range n.toNat).map fun i : Nat => (i : Int)).map D.int := by
    unfold rgD
    rw [List.map_map]
    rfl
  have e2 : rgV 0 n = ((List.range n.toNat).map fun i : Nat => (i : Int)).map V.int := by
    unfold rgV
    rw [List.map_map, Int.sub_zero]
    apply List.map_congr_left
    intro i _
    show V.int (0 + (i : Int)) = V.int (i : Int)
    rw [Int.zero_add]
  rw [e1, e2]
  exact RepL.ints
def wLRg (w : W3) : W3 := fun env G R Ex => w env G (fun x G1 => ∃ n, x = .int n ∧ 0 ≤ n ∧ n ≤ 16777216 ∧ R (.lst (rgD n)) G1) Ex
def wLRgO (w : W3) : W3 := fun env G R Ex => w env G (fun x G1 => ∃ n, x = .int n ∧ 0 ≤ n ∧ n ≤ 16777216 ∧ ∀ p, G1 p = none → R (.ref p) (gset G1 p (.lst (rgD n)))) Ex
section
variable {X : Cx} {W : WX} {a : Expr} {wa : W3} {p q pos pos2 : Pos}
theorem c_lrg (hc : X.calm = true) (hm : X.mg "list" = none) (hm2 : X.mg "range" = none) (ha : PE X a (up X.K W wa)) (hg : Gl X "list" := by rfl) (hg2 : Gl X "range" := by rfl)
    (na : starEach [a] X.env = (false, eval a X.env) :: starEach [] X.env := by rfl) (nb : starEach [.Call (.Name "range" q) [a] [] pos2] X.env = (false, eval (.Call (.Name "range" q) [a] [] pos2) X.env) :: starEach [] X.env := by rfl) :
    PE X (.Call (.Name "list" p) [.Call (.Name "range" q) [a] [] pos2] [] pos) (up X.K W (wLRg wa)) := PE.imp (pe_listRg hc hg hm (prg_1 hg2 hm2 ha na) nb) fun σ H Q ⟨env, G, R, Ex, re, rg, h, fe, fx⟩ => by
  refine up_go re rg h fx fun x v G1 H1 e1 rx rg1 ⟨n, h1, h2, h3, h4⟩ => ?_
  subst h1
  exact ⟨n, rx, RgOk.of_le (Int.le_refl 0) h3 (by omega) h2, fin_lst (rg_rep n) rg1 (fe.ext e1) h4⟩
theorem c_lrgO (hc : X.calm = true) (hm : X.mg "list" = none) (hm2 : X.mg "range" = none) (ha : PE X a (up X.K W wa)) (hg : Gl X "list" := by rfl) (hg2 : Gl X "range" := by rfl)
    (na : starEach [a] X.env = (false, eval a X.env) :: starEach [] X.env := by rfl) (nb : starEach [.Call (.Name "range" q) [a] [] pos2] X.env = (false, eval (.Call (.Name "range" q) [a] [] pos2) X.env) :: starEach [] X.env := by rfl) :
    PE X (.Call (.Name "list" p) [.Call (.Name "range" q) [a] [] pos2] [] pos) (up X.K W (wLRgO wa)) := PE.imp (pe_listRg hc hg hm (prg_1 hg2 hm2 ha na) nb) fun σ H Q ⟨env, G, R, Ex, re, rg, h, fe, fx⟩ => by
  refine up_go re rg h fx fun x v G1 H1 e1 rx rg1 ⟨n, h1, h2, h3, h4⟩ => ?_
  subst h1
  exact ⟨n, rx, RgOk.of_le (Int.le_refl 0) h3 (by omega) h2, fin_lstO (rg_rep n) rg1 (fe.ext e1) h4⟩
end

/-! ### {k: v} -/
def keyD : D → Option Key
  | .int i => some (.inl i)
  | .str x => some (.inr x)
  | _ => none
def wDict1 (wk wv : W3) : W3 := fun env G R Ex => ∀ p, G p = none → wk env (gset G p (.dct [] [])) (fun k G1 => wv env G1 (fun y G2 => ∃ key, keyD k = some key ∧ G2 p = some (.dct [] []) ∧ R (.dct [key] [y]) (gdel G2 p)) Ex) Ex
theorem key_V {K : PySem.W.Frag} {H : Hp} {G : GH} {k : D} {key : Key} {v : V} (r : Rep K H G k v) (h : keyD k = some key) : v = kV key := by
  cases k <;> simp only [keyD] at h <;> cases h
  · rw [show v = _ from r]; rfl
  · rw [show v = _ from r]; rfl
theorem c_dict1 {X : Cx} {W : WX} {k v : Expr} {wk wv : W3} {pos : Pos} (hk : PE X k (up X.K W wk)) (hv : PE X v (up X.K W wv)) : PE X (.Dict [some k] [v] pos) (up X.K W (wDict1 wk wv)) :=
  PE.imp (pe_disp (pps_cons hk hv pps_nil) rfl rfl (by simp) (by simp)) fun σ H Q ⟨env, G, R, Ex, re, rg, h, fe, fx⟩ p hp => by
    have e0 : Ext G H (gset G p (.dct [] [])) (upd H p (.dK [])) := .allocG hp
    have rg0 : RG X.K (upd H p (.dK [])) (gset G p (.dct [] [])) := rg.allocG (go := .dct [] []) hp ⟨[], upd_same, rfl, rfl⟩
    refine up_go (re.ext e0) rg0 (h p (rg.fresh hp)) (fx.ext e0) fun x a G1 H1 e1 rx rg1 h1 => ?_
    refine up_go ((re.ext e0).ext e1) rg1 h1 ((fx.ext e0).ext e1) fun y b G2 H2 e2 ry rg2 ⟨key, h2, h3, h4⟩ => ?_
    obtain ⟨kvs0, k1, k2, _⟩ := rg2 p _ h3
    have k3 : kvs0 = [] := by simpa using k2
    subst k3
    have ew : Ext G2 H2 (gset G2 p (.dct [key] [y])) (upd H2 p (.dK [(key, b)])) := .write h3
    have rgw : RG X.K (upd H2 p (.dK [(key, b)])) (gset G2 p (.dct [key] [y])) := rg2.write (go := .dct [key] [y]) h3 ⟨[(key, b)], upd_same, rfl, ⟨b, [], rfl, ry.ext ew, rfl⟩⟩
    have el : gdel (gset G2 p (.dct [key] [y])) p = gdel G2 p := by
      funext c
      unfold gdel gset
      split <;> rfl
    refine ⟨k1, [(key, b)], ?_, by simp, ?_⟩
    · rw [key_V (rx.ext e2) h2]; rfl
    · rw [← el] at h4
      have ef : Ext (gset G2 p (.dct [key] [y])) (upd H2 p (.dK [(key, b)])) (gdel (gset G2 p (.dct [key] [y])) p) (upd H2 p (.dK [(key, b)])) := .freeze
      exact fe (.dct [key] [y]) (.ref p) _ _ (((e0.trans e1).trans e2).trans (ew.trans ef)) ⟨p, [(key, b)], rfl, gdel_same, upd_same, rfl, ⟨b, [], rfl, (ry.ext ew).ext ef, rfl⟩⟩ rgw.freeze h4

/-! ### len(set(xs)) -/
theorem len_le {L M : List Int} (h : L.Nodup) (s : ∀ x ∈ L, x ∈ M) : L.length ≤ M.length := by
  induction L generalizing M with
  | nil => exact Nat.zero_le _
  | cons a L ih =>
    have ha := s a List.mem_cons_self
    obtain ⟨h1, h2⟩ := List.nodup_cons.mp h
    have q := ih (M := M.erase a) h2 fun x hx => (List.mem_erase_of_ne fun (e : x = a) => h1 (e ▸ hx)).mpr (s x (List.mem_cons_of_mem _ hx))
    have p : 0 < M.length := List.length_pos_of_mem ha
    rw [List.length_erase_of_mem ha] at q
    rw [List.length_cons]
    omega
theorem nodup_of_len {L : List Int} : ∀ {M : List Int}, L.Nodup → (∀ x ∈ L, x ∈ M) → (∀ x ∈ M, x ∈ L) → M.length ≤ L.length → M.Nodup
  | [], _, _, _, _ => List.nodup_nil
  | a :: M, h, s, s', hl => by
    rw [List.length_cons] at hl
    have ha : a ∉ M := fun hm => by
      have := len_le h fun x hx => show x ∈ M from (List.mem_cons.mp (s x hx)).elim (fun e => e ▸ hm) id
      omega
    have haL := s' a List.mem_cons_self
    refine List.nodup_cons.mpr ⟨ha, nodup_of_len (L := L.erase a) (h.erase a) (fun x hx => ?_) (fun x hx => ?_) ?_⟩
    · have hx' := List.mem_of_mem_erase hx
      have ne : x ≠ a := fun e => by
        rw [e] at hx
        exact (h.not_mem_erase hx).elim
      exact (List.mem_cons.mp (s x hx')).resolve_left ne
    · exact (List.mem_erase_of_ne fun (e : x = a) => ha (e ▸ hx)).mpr (s' x (List.mem_cons_of_mem _ hx))
    · rw [List.length_erase_of_mem haL]
      omega
/-- c: how many distinct ones -/
def Cnt (ns : List Int) (c : Nat) : Prop := c ≤ ns.length ∧ (c = ns.length ↔ ns.Nodup)
theorem cnt_of {L ns : List Int} (h : L.Nodup) (s : ∀ x, x ∈ L ↔ x ∈ ns) : Cnt ns L.length :=
  ⟨len_le h fun x hx => (s x).mp hx, fun e => nodup_of_len h (fun x hx => (s x).mp hx) (fun x hx => (s x).mpr hx) (Nat.le_of_eq e.symm), fun hn => Nat.le_antisymm (len_le h fun x hx => (s x).mp hx) (len_le hn fun x hx => (s x).mpr hx)⟩
theorem met_nodup (val : Nat → Int) : ∀ i, (firstMet val i).Nodup
  | 0 => List.nodup_nil
  | i + 1 => by
    rw [firstMet_succ]
    unfold step_dedup
    have ih := met_nodup val i
    split
    · exact ih
    · rename_i hn
      refine List.nodup_append.mpr ⟨ih, by simp, fun a ha b hb e => hn ?_⟩
      rw [List.mem_singleton] at hb
      subst hb
      exact List.any_eq_true.mpr ⟨a, ha, beq_iff_eq.mpr e⟩
theorem met_mem (ns : List Int) (x : Int) : x ∈ firstMet (fun i => ns.getD i 0) ns.length ↔ x ∈ ns := by
  have e := firstMet_any (fun i => ns.getD i 0) ns.length x
  have m : (List.range ns.length).map (fun i => ns.getD i 0) = ns := by
    apply List.ext_getElem
    · simp
    · intro i h1 h2
      simp [h2]
  rw [m] at e
  have q : ∀ l : List Int, l.any (· == x) = true ↔ x ∈ l := fun l => by simp [List.any_eq_true]
  rw [← q, ← q, e]
def wLenSet (w : W3) : W3 := fun env G R Ex => w env G (fun x G1 => ∃ ds ns, asS G1 x = some ds ∧ intsD ds = some ns ∧ ns.length ≤ 4000 ∧ ∀ c : Nat, Cnt ns c → R (.int (c : Int)) G1) Ex
theorem c_lenSet {X : Cx} {W : WX} {a : Expr} {wa : W3} {p p2 q pos : Pos} (hc : X.calm = true) (hm : X.mg "len" = none) (hm2 : X.mg "set" = none) (ha : PE X a (up X.K W wa)) (hg : Gl X "len" := by rfl) (hg2 : Gl X "set" := by rfl)
    (na : starEach [a] X.env = (false, eval a X.env) :: starEach [] X.env := by rfl) : PE X (.Call (.Name "len" p) [.Call (.Name "set" p2) [a] [] q] [] pos) (up X.K W (wLenSet wa)) := by
  refine ⟨fun pins s σ H Q I h => ?_⟩
  obtain ⟨env, G, R, Ex, re, rg, h, fe, fx⟩ := h
  refine Call_ (ld_blt I hg hm boot_len ?_)
  refine callWith_builtin1 (args_cons ?_ rfl) rfl rfl
  refine Call_ (ld_blt I hg2 hm2 boot_set ?_)
  let mid : VK := fun x H1 => ∃ (l : Addr) (ns : List Int), x = .ref l ∧ (SqL X.K H1 l (ns.map V.int) ∨ SqT X.K H1 l (ns.map V.int)) ∧ ns.length ≤ 4000 ∧ ∀ c : Nat, Cnt ns c → Q (.int (c : Int)) H1
  have run := ha.run pins s σ H mid I (up_go re rg h fx fun x v G1 H1 e1 rx rg1 ⟨ds, ns, h1, h2, h3, h4⟩ => by
    obtain ⟨l, vs, rfl, sq, rl⟩ := asS_at rx rg1 h1
    refine ⟨l, ns, rfl, ?_, h3, fun c hcn => fe (.int c) _ G1 H1 e1 rfl rg1 (h4 c hcn)⟩
    rw [← ints_V rl h2]
    exact sq)
  refine callWith_type1 (args_cons (thn run fun v s1 ⟨x, H1, I1, r1, l, ns, e, hq, hl, q1⟩ => args_nil ?_) na) na rfl
  subst e
  cases r1
  have fin : ∀ (h' : Heap) (tk c : Nat), (∀ b o, s1.heap.get? b = some o → h'.get? b = some o) → Cnt ns c → (∃ (o : Obj) (es : Array (Int × Value)) (ep : Nat) (t : SetTable), h'.get? s1.heap.objs.size = some o ∧ o.ExactSet ∧ o.data = .set es ep t ∧ t.fits es.size = true ∧ es.size = c) →
      wpAny (model X.prog X.w) X.A (call (.builtin "len") [.ref s1.heap.objs.size]) (EP X pins σ Q) X.xe { s1 with heap := h', toks := tk } := by
    rintro h' tk c k hcn ⟨o, es, ep, t, ho, hex, hd, hf, hn⟩
    have I2 : Inv X pins σ H1 { s1 with heap := h', toks := tk } := I1.kept k
    have hb := hcn.1
    refine call_len_set ho hex hd hf (by rw [hn]; omega) ⟨.int (c : Int), H1, I2.tok _, ⟨_, by rw [hn]⟩, q1 c hcn⟩
  rcases hq with hq | hq
  · obtain ⟨its, r, pl, hz⟩ := I1.list hq
    have hlen : its.toArray.size = ns.length := by rw [List.size_toArray, ← r.length, List.length_map]
    refine call_set_list (I1.ok.hd hc) pl.isList (ns := ns) (by simpa using RZ.intsAre_vals r) (by rw [hlen]; unfold scanBound; omega) fun h' tk hS hk => args_nil ?_
    rw [hlen] at hS
    obtain ⟨o, es, ep, t, ho, hex, hd, _, _, _, hf, hn⟩ := hS
    exact fin h' tk _ (fun b o e => hk b o (Heap.lt_size e) e) (cnt_of (met_nodup _ _) (met_mem ns)) ⟨o, es, ep, t, ho, hex, hd, hf, hn⟩
  · obtain ⟨its, r, pt, hz⟩ := I1.tuple hq
    refine call_set_tupI ns (I1.ok.hd hc) (show s1.heap.IsTuple l its.toArray from pt) (by simpa using RZ.intsAre_vals r) (by unfold scanBound; omega) fun h' tk c hS _ k => args_nil ?_
    obtain ⟨o, es, ep, t, ho, hex, hd, _, hnd, hmem, _, hf, hn, _⟩ := hS
    have hcn : Cnt ns c := by
      have hl : (es.toList.map keyOf).length = c := by rw [List.length_map, Array.length_toList, hn]
      rw [← hl]
      exact cnt_of hnd fun x => by rw [← hmem x]; simp
    exact fin h' tk c k hcn ⟨o, es, ep, t, ho, hex, hd, hf, hn⟩

/-! ### sorted(t), t a tuple of ints -/
section
variable {prog : Program} {w : World} {A : Around} {E : Value → Shared → Prop} {s : Shared}
theorem collect_tup {l : Addr} {vs : List Value} {Q : List Value → Shared → Prop} (hl : s.heap.IsTuple l vs.toArray) (hsz : vs.length ≤ sizeLine)
    (h : Q vs { s with heap := (s.heap.push (seqObj "list" #[] 0)).update s.heap.objs.size (Obj.mapSeq (· ++ vs.toArray)) }) : wpAny (model prog w) A (collect (.ref l)) Q E s := by
  obtain ⟨o, ho, hc, n, hd⟩ := id hl
  unfold collect; refine wpAny_bind (wpAny_runValue (codeAny_builtin entry_proto_collect' ?_))
  show wpAny _ _ (do again (.builtin "list.__iadd__" ⟨[← newList [], .ref l], []⟩)) _ _ s; refine wpAny_bind (wpAny_newList (wpAny_pure ⟨Code.quiet_builtin _ (by decide +kernel), codeAny_builtin entry_list_iadd' ?_⟩))
  have big : (s.heap.push (seqObj "list" #[] 0)).get? l = some o := Heap.get?_push_of_some _ ho
  have self : (s.heap.push (seqObj "list" #[] 0)).get? s.heap.objs.size = some (seqObj "list" #[] 0) := Heap.get?_push_size _ rfl
  show wpAny _ _ (Builtin.List.listExtendWith (.ref s.heap.objs.size) (.ref l) (.ref s.heap.objs.size)) _ _ { s with heap := s.heap.push (seqObj "list" #[] 0) }; unfold Builtin.List.listExtendWith
  refine wpAny_bind (wpAny_typeOf (T := "tuple") ⟨o, big, hc⟩ ?_)
  have ht : (Value.type "tuple" == Value.type "tuple") = true := by rfl
  rw [if_pos (by rw [ht]; simp)]; refine wpAny_bind (listItems_at big hd (wpAny_bind (listItems_at (xs := #[]) (n := 0) self rfl ?_)))
  rw [if_neg (by simp)]
  have room : (#[] ++ vs.toArray).size ≤ sizeLine + 1 := by simp only [Array.size_append, List.size_toArray, List.length_nil]; omega
  refine wpAny_bind (listUpdate_at (xs := #[]) (n := 0) self rfl (wpAny_pure ?_) (Nat.zero_le _) room)
  show wpAny (model prog w) A (do
      match (← load s.heap.objs.size).data with
      | .seq xs _ => pure xs.toList
      | _ => unsupported "internal:collect") Q E { s with heap := (s.heap.push (seqObj "list" #[] 0)).update s.heap.objs.size (Obj.mapSeq (· ++ vs.toArray)) }
  refine wpAny_bind (wpAny_load (get?_update_seq self _) ?_)
  show wpAny _ _ (pure ((#[] : Array Value) ++ vs.toArray).toList) Q E _
  have same : ((#[] : Array Value) ++ vs.toArray).toList = vs := by simp
  rw [same]
  exact wpAny_pure h
theorem sorted_tup {l : Addr} {vs : List Value} {ns : List Int} {Q : Value → Shared → Prop} (hl : s.heap.IsTuple l vs.toArray) (hz : vs.length ≤ sizeLine) (hi : IntsAre vs ns)
    (h : ∀ (out : List Value) (ns' : List Int), IntsAre out ns' → ns'.Perm ns → ns'.Pairwise (· ≤ ·) → Q (.ref (s.heap.objs.size + 1)) { s with heap := sortedAll s.heap vs out.toArray }) :
    wpAny (model prog w) A (call (.builtin "sorted") [.ref l]) Q E s := by
  refine Calls.call_function_entry kind_sorted plain_sorted entry_sorted (args_sorted1 _) ?_; unfold Builtin.«sorted»; refine wpAny_bind (m := checkCount "sorted" 1 1 _) (wpAny_pure (wpAny_bind (collect_tup hl hz (wpAny_bind (wpAny_newList ?_ hz)))))
  have hsz : ((s.heap.push (seqObj "list" #[] 0)).update s.heap.objs.size (Obj.mapSeq (· ++ vs.toArray))).objs.size = s.heap.objs.size + 1 := by rw [Heap.size_update, size_push'] <;> rfl
  have at_ : (((s.heap.push (seqObj "list" #[] 0)).update s.heap.objs.size (Obj.mapSeq (· ++ vs.toArray))).push (seqObj "list" vs.toArray 0)).get? (s.heap.objs.size + 1) = some (seqObj "list" vs.toArray 0) := by
    rw [← hsz] <;> exact Heap.get?_push_size _ rfl
  show wpAny _ _ _ _ _ { s with heap := ((s.heap.push (seqObj "list" #[] 0)).update s.heap.objs.size (Obj.mapSeq (· ++ vs.toArray))).push (seqObj "list" vs.toArray 0) }; rw [hsz]
  refine wpAny_bind (wpAny_holding (wpAny_call_entry slot_list_sort ⟨_, at_, rfl⟩ entry_list_sort (SrtO.list_sort_ord SrtO.swo_int at_ hz (fun h2 => SrtO.ints_sortable hi h2) fun out h1 h2 => ⟨_, rfl, ?_⟩) (args_list_sort _)))
  obtain ⟨k1, k2, k3⟩ := SrtO.ints_out hi h1 h2
  exact wpAny_pure ⟨_, rfl, h out _ k1 k2 k3⟩
end
def rSorted3 (K : PySem.W.Frag) : List V → Hp → VK → Prop := fun vs H Q => ∃ (a : Addr) (ns : List Int), vs = [V.ref a] ∧ (SqL K H a (ns.map V.int) ∨ SqT K H a (ns.map V.int)) ∧
  ∀ (ns' : List Int) (p : Addr), ns'.Perm ns → ns'.Pairwise (· ≤ ·) → H p = none → Q (.ref p) (upd H p (.lst (ns'.map V.int)))
theorem call_sorted3 {X : Cx} : CallR X (.builtin "sorted") (rSorted3 X.K) := by
  rintro pins s σ H vs us Q I r ⟨a, ns, rfl, hs, q⟩
  rcases hs with hs | hs
  · exact cr_sortedI pins s σ H _ us Q I r ⟨a, ns, rfl, hs, q⟩
  · obtain ⟨its, rv, hl, hz⟩ := I.tuple hs
    rw [Vals.ref1 r]
    have hi : IntsAre its ns := RZ.intsAre_vals rv
    refine sorted_tup (show s.heap.IsTuple a its.toArray from hl) (by rw [← rv.length]; exact hz) hi fun out ns' k1 k2 k3 => ?_
    obtain ⟨ep, he'⟩ := sortedAll_at s.heap its out.toArray
    have hlen : (ns'.map V.int).length ≤ sizeLine := by
      rw [List.length_map, k2.length_eq]
      rw [List.length_map] at hz
      exact hz
    refine ⟨.ref _, upd H (s.heap.objs.size + 1) (.lst (ns'.map V.int)), I.laid (t' := s.toks) (fun _ _ => sortedAll_old) (Nat.le_succ _) ⟨hlen, out, ep, vals_of_ints k1, he'⟩, rfl, q _ _ k2 k3 (I.hok.fresh (Nat.le_succ _))⟩
def fSorted3 : FA := fun xs G R => ∃ x ds ns, xs = [x] ∧ asS G x = some ds ∧ intsD ds = some ns ∧ ∀ ns' : List Int, ns'.Perm ns → ns'.Pairwise (· ≤ ·) → R (.lst (ns'.map D.int)) G
theorem lift_sorted3 {K : PySem.W.Frag} : LiftC K (rSorted3 K) fSorted3 := by
  rintro xs vs H G R Q r g ⟨x, ds, bs, rfl, h1, h2, h3⟩ fe
  obtain ⟨v, rfl, a⟩ := r.one_inv
  obtain ⟨p, ws, rfl, sq, rl⟩ := asS_at a g h1
  exact ⟨p, bs, rfl, by rw [← ints_V rl h2]; exact sq, fun ns' q p1 p2 hq => fin_lst RepL.ints g fe (h3 ns' p1 p2) q hq⟩
/-- nothing but the arguments: f() -/
theorem c_call0 {X : Cx} {W : WX} {k : Nat} {x : Str} {S : SP3} {p pos : Pos} (F : Good X.prog X.w X.K X.mg X.base x [] k S) (hr : Room k X.A) (hgd : X.A.guards = some []) (tk : Takes X W) (hg : Gl X x := by rfl) (hdb : (x == ("__debug__" : Str)) = false := by decide) :
    PE X (.Call (.Name x p) [] [] pos) (up X.K W (wCall 0 S aNil)) := by
  obtain ⟨f, fd, hm, hk, hb, FG⟩ := F.ex
  refine ⟨fun pins s σ H Q I ⟨env, G, R, Ex, re, rg, h, fe, fx⟩ => ?_⟩
  refine wpAny_Call_Name_kw (ld_glob I hg hm ?_ hdb)
  refine PySem.W.callWith_K0 I.kIn hk ?_
  have b := hb s [] I.kIn rfl
  refine wpAny_call (codeAny_mono (FG.run X.A X.stack s H ⟨[], []⟩ [] [] Q (WE W σ) hr hgd I.env0 b .nil ⟨[], G, R, _, rfl, rfl, rg, h.2, fe, fun c fs d env' σ' G2 H2 e2 re2 rg2 rx ex => fx c fs d env σ G2 H2 e2 (re.ext e2) rg2 rx ex⟩) fun r s' hq => ?_)
  cases r with
  | error e => exact passAt tk σ pins H s e s' I hq
  | ok fl =>
    cases fl with
    | ret u => exact I.after hq
    | next => exact False.elim hq
    | brk => exact False.elim hq
    | cont => exact False.elim hq
/-- {} -/
def wDNew : W3 := fun env G R _ => R (.dct [] []) G
theorem c_dnew {X : Cx} {W : WX} {pos : Pos} : PE X (.Dict [] [] pos) (up X.K W wDNew) := PE.imp pe_dnewK fun σ H Q ⟨env, G, R, Ex, re, rg, h, fe, fx⟩ p hp =>
  fe (.dct [] []) (.ref p) G _ (.alloc hp (rg.fresh hp)) ⟨p, [], rfl, rg.fresh hp, upd_same, rfl, rfl⟩ (rg.alloc hp) h
theorem room190 {k : Nat} {A : Around} (r : Room k A) : A.units + 190 < cLine := by have := r.un; omega
theorem roomH190 {k : Nat} {A : Around} (r : L2H.RoomH k A) : A.units + 190 < cLine := by have := r.un; omega
theorem roomH64 {k : Nat} {A : Around} (r : L2H.RoomH k A) : A.units + 64 < cLine := by have := r.un; omega
/-- a def that is not reached -/
theorem good_no {P : Program} {w : World} {K : PySem.W.Frag} {mg : Str → Option Value} {base : Heap} {nm : Str} {st : Stmt} {ps : List Str} (k : Nat) (d : DefAt K mg nm st ps) : Good P w K mg base nm ps k (fun _ _ _ _ => False) := by
  obtain ⟨f, fd, hm, F, hb⟩ := d.ex
  refine ⟨f, fd, hm, F.kp, hb, ⟨fun vs H Q E h => ?_, fun A outer s H args us vs Q E _ _ _ _ _ h => ?_⟩⟩
  · obtain ⟨_, _, _, _, _, _, _, z, _⟩ := h
    exact z.elim
  · obtain ⟨_, _, _, _, _, _, _, z, _⟩ := h
    exact z.elim
theorem roomS {X : Cx} {k : Nat} {a : Addr} {pn : List (Addr × Obj)} (r : Room k X.A) : L2H.RoomH k (X.suite a pn).A := ⟨r.dp, r.un⟩
/-- a list that was changed, read for the last time: from then on it is as it is -/
def wVarZ (i : Nat) : W3 := fun env G R _ => ∃ p ds, at3 env i = some (.ref p) ∧ G p = some (.lst ds) ∧ R (.lst ds) (gdel G p)
theorem c_varZ {X : Cx} {W : WX} (i : Nat) {x : Str} {pos : Pos} (hN : X.N[i]? = some x := by rfl) (hv : Vis X.env.scope x := by first | exact Or.inl rfl | exact Or.inr (Or.inl rfl) | exact Or.inr (Or.inr rfl)) (hd : (x == ("__debug__" : Str)) = false := by decide)
    (hcd : (x == ("__classdict__" : Str)) = false := by decide) : PE X (.Name x pos) (up X.K W (wVarZ i)) :=
  PE.imp (pe_var hN hv hd hcd) fun σ H Q ⟨env, G, R, Ex, re, rg, ⟨p, ds, h1, h2, h3⟩, fe, fx⟩ => by
    obtain ⟨v, e, r⟩ := re.get h1
    obtain rfl : v = V.ref p := r
    obtain ⟨vs, k1, k2⟩ := rg p _ h2
    exact ⟨_, e, fe (.lst ds) (.ref p) (gdel G p) H .freeze ⟨p, vs, rfl, gdel_same, k1, RepL.ext .freeze ds k2⟩ rg.freeze h3⟩
end L3

set_option Elab.async false
set_option linter.all false
set_option maxRecDepth 100000
namespace L3
open PySem PySem.Spec L2
open PyProof.Rows hiding St

/-! ### readings, made plain -/
theorem fun_eq {α : Type} {p q : α → Prop} (h : ∀ x, p x ↔ q x) : p = q := funext fun x => propext (h x)
def isIntD : D → Bool
  | .int _ => true
  | _ => false
def isBlD : D → Bool
  | .bl _ => true
  | _ => false
def isTupD : D → Bool
  | .tup _ => true
  | _ => false
def isLstD : D → Bool
  | .lst _ => true
  | .lsx _ => true
  | _ => false
def isStrD : D → Bool
  | .str _ => true
  | _ => false
/-- the class of a thing that is no changeable object -/
def ty0 : D → Option String
  | .non => some "NoneType"
  | .bl _ => some "bool"
  | .int _ => some "int"
  | .str _ => some "str"
  | .tup _ => some "tuple"
  | .lst _ => some "list"
  | .lsx _ => some "list"
  | .dct _ _ => some "dict"
  | _ => none
theorem tyD_0 {G : GH} {x : D} {n : String} (h : ty0 x = some n) : tyD G x = some (.type n) := by
  cases x <;> simp only [ty0, Option.some.injEq] at h <;> first | (subst h; rfl) | cases h
theorem ty0_of {x : D} (h : rdD x = true) : ∃ n, ty0 x = some n := by
  cases x <;> first | exact ⟨_, rfl⟩ | cases h
theorem isi_gen {K : PySem.W.Frag} {G : GH} {R : K3} {x : D} {n m : String} {b : Bool} (h : ty0 x = some m) (k : kitB m n = some b) : fIsi K [x, .ty n] G R ↔ R (.bl b) G := by
  have k1 : PySem.W.kitOne K (.type m) (.type n) = some b := kit_ty k
  have t := tyD_0 (G := G) h
  constructor
  · intro q
    obtain ⟨t', u, b', q1, q2, q3, q4⟩ := (show ∃ t u b, tyD G x = some t ∧ clsD (.ty n) = some u ∧ PySem.W.kitOne K t u = some b ∧ R (.bl b) G from q)
    rw [t] at q1
    cases q1
    cases q2
    rw [k1] at q3
    cases q3
    exact q4
  · intro q
    exact (show ∃ t u b, tyD G x = some t ∧ clsD (.ty n) = some u ∧ PySem.W.kitOne K t u = some b ∧ R (.bl b) G from ⟨_, _, _, t, rfl, k1, q⟩)
theorem isi_int {K : PySem.W.Frag} {G : GH} {R : K3} {x : D} (h : rdD x = true) : fIsi K [x, .ty "int"] G R = R (.bl (isIntD x || isBlD x)) G := by
  apply propext
  cases x <;> first | (cases h; done) | exact isi_gen (b := true) rfl (by decide +kernel) | exact isi_gen (b := false) rfl (by decide +kernel)
theorem isi_bool {K : PySem.W.Frag} {G : GH} {R : K3} {x : D} (h : rdD x = true) : fIsi K [x, .ty "bool"] G R = R (.bl (isBlD x)) G := by
  apply propext
  cases x <;> first | (cases h; done) | exact isi_gen (b := true) rfl (by decide +kernel) | exact isi_gen (b := false) rfl (by decide +kernel)
theorem isi_tup {K : PySem.W.Frag} {G : GH} {R : K3} {x : D} (h : rdD x = true) : fIsi K [x, .ty "tuple"] G R = R (.bl (isTupD x)) G := by
  apply propext
  cases x <;> first | (cases h; done) | exact isi_gen (b := true) rfl (by decide +kernel) | exact isi_gen (b := false) rfl (by decide +kernel)
theorem isi_lst {K : PySem.W.Frag} {G : GH} {R : K3} {x : D} (h : rdD x = true) : fIsi K [x, .ty "list"] G R = R (.bl (isLstD x)) G := by
  apply propext
  cases x <;> first | (cases h; done) | exact isi_gen (b := true) rfl (by decide +kernel) | exact isi_gen (b := false) rfl (by decide +kernel)
theorem isi_str {K : PySem.W.Frag} {G : GH} {R : K3} {x : D} (h : rdD x = true) : fIsi K [x, .ty "str"] G R = R (.bl (isStrD x)) G := by
  apply propext
  cases x <;> first | (cases h; done) | exact isi_gen (b := true) rfl (by decide +kernel) | exact isi_gen (b := false) rfl (by decide +kernel)
theorem isi_two {K : PySem.W.Frag} {G : GH} {R : K3} {x : D} {n m t : String} {b c : Bool} (h : ty0 x = some t) (k1 : kitB t n = some b) (k2 : kitB t m = some c) : fIsi K [x, .tup [.ty n, .ty m]] G R ↔ R (.bl (b || c)) G := by
  have e1 : PySem.W.kitOne K (.type t) (.type n) = some b := kit_ty k1
  have e2 : PySem.W.kitOne K (.type t) (.type m) = some c := kit_ty k2
  have ka : PySem.W.kitAny K (.type t) [.type n, .type m] = some (b || c) := kitAny_cons e1 (fun hb => kitAny_cons (r := b || c) e2 (fun hc => by rw [kitAny_nil, hb, hc]; rfl) (fun hc => by rw [hc, Bool.or_true])) (fun hb => by rw [hb, Bool.true_or])
  have ty := tyD_0 (G := G) h
  constructor
  · intro q
    obtain ⟨t', us, b', q1, q2, q3, q4⟩ := (show ∃ t us b, tyD G x = some t ∧ [D.ty n, D.ty m].mapM clsD = some us ∧ PySem.W.kitAny K t us = some b ∧ R (.bl b) G from q)
    rw [ty] at q1
    cases q1
    rw [show [D.ty n, D.ty m].mapM clsD = some [Value.type n, Value.type m] from rfl] at q2
    cases q2
    rw [ka] at q3
    cases q3
    exact q4
  · intro q
    exact (show ∃ t us b, tyD G x = some t ∧ [D.ty n, D.ty m].mapM clsD = some us ∧ PySem.W.kitAny K t us = some b ∧ R (.bl b) G from ⟨_, _, _, ty, rfl, ka, q⟩)
theorem isi_tl {K : PySem.W.Frag} {G : GH} {R : K3} {x : D} (h : rdD x = true) : fIsi K [x, .tup [.ty "tuple", .ty "list"]] G R = R (.bl (isTupD x || isLstD x)) G := by
  apply propext
  cases x <;> first | (cases h; done) | exact isi_two (b := true) (c := false) rfl (by decide +kernel) (by decide +kernel) | exact isi_two (b := false) (c := true) rfl (by decide +kernel) (by decide +kernel) | exact isi_two (b := false) (c := false) rfl (by decide +kernel) (by decide +kernel)
theorem isi_is {K : PySem.W.Frag} {G : GH} {R : K3} {x : D} (h : rdD x = true) : fIsi K [x, .tup [.ty "int", .ty "str"]] G R = R (.bl (isIntD x || isBlD x || isStrD x)) G := by
  apply propext
  cases x <;> first | (cases h; done) | exact isi_two (b := true) (c := false) rfl (by decide +kernel) (by decide +kernel) | exact isi_two (b := false) (c := true) rfl (by decide +kernel) (by decide +kernel) | exact isi_two (b := false) (c := false) rfl (by decide +kernel) (by decide +kernel)
section
variable {G : GH} {R : K3} {xs ys : List D} {i j : Int} {x y z : D}
theorem len_tup : fLen [.tup xs] G R = R (.int xs.length) G := by
  apply propext
  constructor
  · rintro ⟨ds, e, h⟩
    cases e
    exact h
  · intro h
    exact ⟨xs, rfl, h⟩
theorem len_lst : fLen [.lst xs] G R = R (.int xs.length) G := by
  apply propext
  constructor
  · rintro ⟨ds, e, h⟩
    cases e
    exact h
  · intro h
    exact ⟨xs, rfl, h⟩
theorem len_lsx : fLen [.lsx xs] G R = R (.int xs.length) G := by
  apply propext
  constructor
  · rintro ⟨ds, e, h⟩
    cases e
    exact h
  · intro h
    exact ⟨xs, rfl, h⟩
theorem len_ref {p : Addr} (g : G p = some (.lst xs)) : fLen [.ref p] G R = R (.int xs.length) G := by
  have e : asS G (.ref p) = some xs := by
    show (match G p with | some (.lst xs) => some xs | _ => none) = some xs
    rw [g]
  apply propext
  constructor
  · rintro ⟨ds, e', h⟩
    rw [e] at e'
    cases e'
    exact h
  · intro h
    exact ⟨xs, e, h⟩
theorem eqI : fEq (.int i) (.int j) G R = R (.bl (i == j)) G := by
  apply propext
  exact ⟨fun h => h.2.2, fun h => ⟨rfl, rfl, h⟩⟩
theorem neI : fNe (.int i) (.int j) G R = R (.bl (!(i == j))) G := by
  apply propext
  exact ⟨fun h => h.2.2, fun h => ⟨rfl, rfl, h⟩⟩
theorem asL_ref {p : Addr} (g : G p = some (.lst xs)) : asL G (.ref p) = some xs := by
  show (match G p with | some (.lst xs) => some xs | _ => none) = some xs
  rw [g]
theorem asS_ref {p : Addr} (g : G p = some (.lst xs)) : asS G (.ref p) = some xs := asL_ref g
theorem asL1_ref {p : Addr} (g : G p = some (.lst xs)) : asL1 G (.ref p) = some xs := by
  show (match G p with | some (.lst xs) => some xs | _ => none) = some xs
  rw [g]
theorem ix_tup {d : D} (h : atD xs i = some d) : fIx (.tup xs) (.int i) G R = R d G := by
  apply propext
  constructor
  · rintro ⟨ds, e, q1, q2, q3⟩
    cases q1
    rw [h] at q2
    cases q2
    exact q3
  · intro q
    exact ⟨xs, d, rfl, h, q⟩
theorem ix_lst {d : D} (h : atD xs i = some d) : fIx (.lst xs) (.int i) G R = R d G := by
  apply propext
  constructor
  · rintro ⟨ds, e, q1, q2, q3⟩
    cases q1
    rw [h] at q2
    cases q2
    exact q3
  · intro q
    exact ⟨xs, d, rfl, h, q⟩
theorem ix_ref {d : D} {p : Addr} (g : G p = some (.lst xs)) (h : atD xs i = some d) : fIx (.ref p) (.int i) G R = R d G := by
  apply propext
  constructor
  · rintro ⟨ds, e, q1, q2, q3⟩
    rw [asS_ref g] at q1
    cases q1
    rw [h] at q2
    cases q2
    exact q3
  · intro q
    exact ⟨xs, d, asS_ref g, h, q⟩
theorem atD_nat {n : Nat} {d : D} (h : xs[n]? = some d) : atD xs (n : Int) = some d := by
  have hl : n < xs.length := (List.getElem?_eq_some_iff.mp h).1
  unfold atD L2.atI L2.ixN
  rw [if_pos (Int.natCast_nonneg n), if_pos (Int.ofNat_lt.mpr hl)]
  show xs[(n : Int).toNat]? = some d
  rw [Int.toNat_natCast, h]
end

/-! ### comprehensions that compute one thing of each item -/
section
variable {st : GH → Prop} {g : G3} {te : W3} {tt : T3} {env : Env3} {G : GH}
theorem gset_out {p q : Addr} {o : GO} (h : G p = none) (k : G q ≠ none) : gset G p o q = G q := gset_ne fun e => k (by rw [e]; exact h)
/-- the list's own place does not show -/
def Over (G G' : GH) : Prop := ∀ q, G q ≠ none → G' q = G q
theorem over_gset {p : Addr} {o : GO} (h : G p = none) : Over G (gset G p o) := fun q k => gset_out h k
theorem lc_map {p : Addr} {R : List D → GH → Prop} (f : D → D) (hp : G p = none) (hst : ∀ G', Over G G' → st G') : ∀ (ds acc : List D),
    (∀ d ∈ ds, ∀ (acc : List D) (Q : K3), Q (f d) (gset G p (.lst acc)) → g d env (gset G p (.lst acc)) fun env2 G2 => te env2 G2 Q noX) → acc.length + ds.length ≤ sizeLine →
    R (acc ++ ds.map f) (gset G p (.lst (acc ++ ds.map f))) → lc st g tYes3 te env p R ds acc (gset G p (.lst acc))
  | [], acc, _, _, fin => ⟨hst _ (over_gset hp), gset_same, by
    rw [List.map_nil, List.append_nil] at fin
    exact fin⟩
  | d :: ds, acc, step, len, fin => by
    rw [List.length_cons] at len
    refine ⟨hst _ (over_gset hp), gset_same, ?_⟩
    refine step d List.mem_cons_self acc _ ⟨gset_same, by omega, ?_⟩
    rw [gset_gset]
    refine lc_map f hp hst ds (acc ++ [f d]) (fun d' h' => step d' (List.mem_cons_of_mem _ h')) (by rw [List.length_append, List.length_singleton]; omega) ?_
    rw [List.append_assoc]
    exact fin
/-- the list is kept as it is from then on -/
theorem lcm {R : K3} {ds : List D} (f : D → D) (hst : ∀ G', Over G G' → st G') (len : ds.length ≤ sizeLine)
    (step : ∀ d ∈ ds, ∀ (p : Addr) (acc : List D) (Q : K3), G p = none → Q (f d) (gset G p (.lst acc)) → g d env (gset G p (.lst acc)) fun env2 G2 => te env2 G2 Q noX)
    (fin : R (.lst (ds.map f)) G) : ∀ p, G p = none → lc st g tYes3 te env p (fun acc G2 => R (.lst acc) (gdel G2 p)) ds [] (gset G p (.lst [])) := fun p hp =>
  lc_map f hp hst ds [] (fun d hd acc Q q => step d hd p acc Q hp q) (by simpa using len) (by
    rw [List.nil_append, gdel_gset hp]
    exact fin)
theorem lcmO {R : K3} {ds : List D} (f : D → D) (hst : ∀ G', Over G G' → st G') (len : ds.length ≤ sizeLine)
    (step : ∀ d ∈ ds, ∀ (p : Addr) (acc : List D) (Q : K3), G p = none → Q (f d) (gset G p (.lst acc)) → g d env (gset G p (.lst acc)) fun env2 G2 => te env2 G2 Q noX)
    (fin : ∀ p, G p = none → R (.ref p) (gset G p (.lst (ds.map f)))) : ∀ p, G p = none → lc st g tYes3 te env p (fun _ G2 => R (.ref p) G2) ds [] (gset G p (.lst [])) := fun p hp =>
  lc_map f hp hst ds [] (fun d hd acc Q q => step d hd p acc Q hp q) (by simpa using len) (by
    rw [List.nil_append]
    exact fin p hp)
/-- with a test -/
theorem lc_filter {p : Addr} {R : List D → GH → Prop} (t : D → Bool) (f : D → D) (hp : G p = none) (hst : ∀ G', Over G G' → st G') : ∀ (ds acc : List D),
    (∀ d ∈ ds, ∀ (acc : List D) (Q : K3) (N : GH → Prop), (t d = true → Q (f d) (gset G p (.lst acc))) → (t d = false → N (gset G p (.lst acc))) → g d env (gset G p (.lst acc)) fun env2 G2 => tt env2 G2 (fun c G3 => if c = true then te env2 G3 Q noX else N G3) noX) → acc.length + ds.length ≤ sizeLine →
    R (acc ++ (ds.filter t).map f) (gset G p (.lst (acc ++ (ds.filter t).map f))) → lc st g tt te env p R ds acc (gset G p (.lst acc))
  | [], acc, _, _, fin => ⟨hst _ (over_gset hp), gset_same, by
    rw [List.filter_nil, List.map_nil, List.append_nil] at fin
    exact fin⟩
  | d :: ds, acc, step, len, fin => by
    rw [List.length_cons] at len
    refine ⟨hst _ (over_gset hp), gset_same, ?_⟩
    refine step d List.mem_cons_self acc _ _ (fun ht => ⟨gset_same, by omega, ?_⟩) (fun ht => ?_)
    · rw [gset_gset]
      refine lc_filter t f hp hst ds (acc ++ [f d]) (fun d' h' => step d' (List.mem_cons_of_mem _ h')) (by rw [List.length_append, List.length_singleton]; omega) ?_
      rw [List.filter_cons_of_pos ht, List.map_cons] at fin
      rw [List.append_assoc]
      exact fin
    · refine lc_filter t f hp hst ds acc (fun d' h' => step d' (List.mem_cons_of_mem _ h')) (by omega) ?_
      rw [List.filter_cons_of_neg (by rw [ht]; exact Bool.false_ne_true)] at fin
      exact fin
end
section
variable {G : GH} {R : K3} {xs : List D} {a b c d e : D} {p : Addr}
theorem ix0 : fIx (.tup (a :: xs)) (.int 0) G R = R a G := ix_tup (atD_nat (n := 0) rfl)
theorem ix1 : fIx (.tup (a :: b :: xs)) (.int 1) G R = R b G := ix_tup (atD_nat (n := 1) rfl)
theorem ix2 : fIx (.tup (a :: b :: c :: xs)) (.int 2) G R = R c G := ix_tup (atD_nat (n := 2) rfl)
theorem ixl0 : fIx (.lst (a :: xs)) (.int 0) G R = R a G := ix_lst (atD_nat (n := 0) rfl)
theorem ixl1 : fIx (.lst (a :: b :: xs)) (.int 1) G R = R b G := ix_lst (atD_nat (n := 1) rfl)
theorem ixl2 : fIx (.lst (a :: b :: c :: xs)) (.int 2) G R = R c G := ix_lst (atD_nat (n := 2) rfl)
theorem ixr0 (g : G p = some (.lst (a :: xs))) : fIx (.ref p) (.int 0) G R = R a G := ix_ref g (atD_nat (n := 0) rfl)
theorem ixr1 (g : G p = some (.lst (a :: b :: xs))) : fIx (.ref p) (.int 1) G R = R b G := ix_ref g (atD_nat (n := 1) rfl)
theorem ixr2 (g : G p = some (.lst (a :: b :: c :: xs))) : fIx (.ref p) (.int 2) G R = R c G := ix_ref g (atD_nat (n := 2) rfl)
theorem ixr3 (g : G p = some (.lst (a :: b :: c :: d :: xs))) : fIx (.ref p) (.int 3) G R = R d G := ix_ref g (atD_nat (n := 3) rfl)
theorem ixr4 (g : G p = some (.lst (a :: b :: c :: d :: e :: xs))) : fIx (.ref p) (.int 4) G R = R e G := ix_ref g (atD_nat (n := 4) rfl)
end
section
variable {G : GH} {R : K3} {xs : List D} {a b c : D}
theorem len_t0 : fLen [.tup []] G R = R (.int 0) G := len_tup
theorem len_t1 : fLen [.tup [a]] G R = R (.int 1) G := len_tup
theorem len_t2 : fLen [.tup [a, b]] G R = R (.int 2) G := len_tup
theorem len_t3 : fLen [.tup [a, b, c]] G R = R (.int 3) G := len_tup
theorem len_l0 : fLen [.lst []] G R = R (.int 0) G := len_lst
theorem len_l1 : fLen [.lst [a]] G R = R (.int 1) G := len_lst
theorem more2 : (((xs.length + 1 + 1 + 1 : Nat) : Int) == 2) = false := by
  rw [beq_eq_false_iff_ne]
  omega
theorem more3 : (((xs.length + 1 + 1 + 1 + 1 : Nat) : Int) == 3) = false := by
  rw [beq_eq_false_iff_ne]
  omega
end
/-! ### sane data: ints of a machine's word, nothing changeable -/
def wordB (i : Int) : Bool := decide (i.natAbs < 2 ^ 63)
mutual
def saneD : D → Bool
  | .non => true
  | .bl _ => true
  | .int i => wordB i
  | .str _ => true
  | .tup xs => saneL xs
  | .lst xs => saneL xs
  | .lsx xs => saneL xs
  | .dct _ xs => saneL xs
  | _ => false
def saneL : List D → Bool
  | [] => true
  | d :: r => saneD d && saneL r
end
mutual
theorem sane_rd : ∀ (d : D), saneD d = true → rdD d = true
  | .non, _ => rfl
  | .bl _, _ => rfl
  | .int _, _ => rfl
  | .str _, _ => rfl
  | .tup xs, h => saneL_rd xs h
  | .lst xs, h => saneL_rd xs h
  | .lsx xs, h => saneL_rd xs h
  | .dct _ xs, h => saneL_rd xs h
  | .ty _, h => by cases h
  | .ins _ _ _, h => by cases h
  | .ref _, h => by cases h
  | .tpf _, h => by cases h
  | .exc _ _ _ _, h => by cases h
  | .lam _ _ _ _ _, h => by cases h
theorem saneL_rd : ∀ (ds : List D), saneL ds = true → rdDL ds = true
  | [], _ => rfl
  | d :: ds, h => by
    have h' : (saneD d && saneL ds) = true := h
    rw [Bool.and_eq_true] at h'
    show (rdD d && rdDL ds) = true
    rw [sane_rd d h'.1, saneL_rd ds h'.2]
    rfl
end
theorem saneL_iff {ds : List D} : saneL ds = true ↔ ∀ d ∈ ds, saneD d = true := by
  induction ds with
  | nil => simp [saneL]
  | cons a ds ih => simp [saneL, ih]
theorem rdDL_iff {ds : List D} : rdDL ds = true ↔ ∀ d ∈ ds, rdD d = true := by
  induction ds with
  | nil => simp [rdDL]
  | cons a ds ih => simp [rdDL, ih]
theorem sane_int {i : Int} (h : saneD (.int i) = true) : -(2 ^ 63) < i ∧ i < 2 ^ 63 := by
  have h' : i.natAbs < 2 ^ 63 := of_decide_eq_true h
  omega
theorem sane_tup {xs : List D} (h : saneD (.tup xs) = true) : ∀ d ∈ xs, saneD d = true := saneL_iff.mp h
section
variable {g : G3} {te : W3} {env env' : Env3} {G : GH} {R : K3} {Ex : X3} {ds : List D} {vs : List Nat}
theorem wLc_tup (i : Nat) (f : D → D) (h : at3 env i = some (.tup ds)) (he : wipe3 env vs = env') (hl : ds.length ≤ sizeLine)
    (step : ∀ d ∈ ds, ∀ (p : Addr) (acc : List D) (Q : K3), G p = none → Q (f d) (gset G p (.lst acc)) → g d env' (gset G p (.lst acc)) fun env2 G2 => te env2 G2 Q noX)
    (fin : R (.lst (ds.map f)) G) : wLc (iTpl (wVar i)) g tYes3 te vs env G R Ex := by
  refine ⟨.tup ds, h, ds, rfl, ?_⟩
  rw [he]
  exact lcm f (fun _ _ => trivial) hl step fin
theorem wLc_lst (i : Nat) (f : D → D) (h : at3 env i = some (.lst ds)) (he : wipe3 env vs = env') (hl : ds.length ≤ sizeLine)
    (step : ∀ d ∈ ds, ∀ (p : Addr) (acc : List D) (Q : K3), G p = none → Q (f d) (gset G p (.lst acc)) → g d env' (gset G p (.lst acc)) fun env2 G2 => te env2 G2 Q noX)
    (fin : R (.lst (ds.map f)) G) : wLc (iLst (wVar i)) g tYes3 te vs env G R Ex := by
  refine ⟨.lst ds, h, ds, rfl, ?_⟩
  rw [he]
  exact lcm f (fun _ _ => trivial) hl step fin
theorem wLc_lsx (i : Nat) (f : D → D) (h : at3 env i = some (.lsx ds)) (he : wipe3 env vs = env') (hl : ds.length ≤ sizeLine)
    (step : ∀ d ∈ ds, ∀ (p : Addr) (acc : List D) (Q : K3), G p = none → Q (f d) (gset G p (.lst acc)) → g d env' (gset G p (.lst acc)) fun env2 G2 => te env2 G2 Q noX)
    (fin : R (.lst (ds.map f)) G) : wLc (iLst (wVar i)) g tYes3 te vs env G R Ex := by
  refine ⟨.lsx ds, h, ds, rfl, ?_⟩
  rw [he]
  exact lcm f (fun _ _ => trivial) hl step fin
theorem wLc_ref (i : Nat) {q : Addr} (f : D → D) (h : at3 env i = some (.ref q)) (hq : G q = some (.lst ds)) (he : wipe3 env vs = env') (hl : ds.length ≤ sizeLine)
    (step : ∀ d ∈ ds, ∀ (p : Addr) (acc : List D) (Q : K3), G p = none → Q (f d) (gset G p (.lst acc)) → g d env' (gset G p (.lst acc)) fun env2 G2 => te env2 G2 Q noX)
    (fin : R (.lst (ds.map f)) G) : wLc (iLst (wVar i)) g tYes3 te vs env G R Ex := by
  refine ⟨.ref q, h, ds, asL_ref hq, ?_⟩
  rw [he]
  exact lcm f (fun G' o => (o q (by rw [hq]; simp)).trans hq) hl step fin
end
theorem all_lst {bs : List Bool} {ds : List D} {G : GH} {R : K3} (h : bools ds = some bs) : fAll [.lst ds] G R = R (.bl (bs.all id)) G := by
  apply propext
  constructor
  · rintro ⟨x, es, cs, e1, e2, e3, q⟩
    cases e1
    cases e2
    rw [h] at e3
    cases e3
    exact q
  · intro q
    exact ⟨_, ds, bs, rfl, rfl, h, q⟩
theorem any_lst {bs : List Bool} {ds : List D} {G : GH} {R : K3} (h : bools ds = some bs) : fAny [.lst ds] G R = R (.bl (bs.any id)) G := by
  apply propext
  constructor
  · rintro ⟨x, es, cs, e1, e2, e3, q⟩
    cases e1
    cases e2
    rw [h] at e3
    cases e3
    exact q
  · intro q
    exact ⟨_, ds, bs, rfl, rfl, h, q⟩
theorem bools_of {p : D → Bool} {ds : List D} : bools (ds.map fun d => D.bl (p d)) = some (ds.map p) := by
  have e : (ds.map fun d => D.bl (p d)) = (ds.map p).map D.bl := by
    rw [List.map_map]
    rfl
  rw [e, bools_map]
theorem add_lst {xs ys : List D} {G : GH} {R : K3} (h : xs.length + ys.length ≤ sizeLine) (q : R (.lst (xs ++ ys)) G) : fAdd (.lst xs) (.lst ys) G R := ⟨xs, ys, rfl, rfl, h, q⟩
/-! ### two clauses -/
section
variable {st st1 : GH → Prop} {g g1 : G3} {te : W3} {it1 : I3} {env : Env3} {G : GH} {vs1 : List Nat}
theorem lcIn_map {p : Addr} {N : List D → GH → Prop} (f : D → D) (hp : G p = none) (hst : ∀ G', Over G G' → st1 G') : ∀ (es acc : List D),
    (∀ d ∈ es, ∀ (acc : List D) (Q : K3), Q (f d) (gset G p (.lst acc)) → g1 d env (gset G p (.lst acc)) fun env2 G2 => te env2 G2 Q noX) → acc.length + es.length ≤ sizeLine →
    N (acc ++ es.map f) (gset G p (.lst (acc ++ es.map f))) → lcIn st1 g1 tYes3 te env p N es acc (gset G p (.lst acc))
  | [], acc, _, _, fin => ⟨hst _ (over_gset hp), gset_same, by
    rw [List.map_nil, List.append_nil] at fin
    exact fin⟩
  | d :: ds, acc, step, len, fin => by
    rw [List.length_cons] at len
    refine ⟨hst _ (over_gset hp), gset_same, ?_⟩
    refine step d List.mem_cons_self acc _ ⟨gset_same, by omega, ?_⟩
    rw [gset_gset]
    refine lcIn_map f hp hst ds (acc ++ [f d]) (fun d' h' => step d' (List.mem_cons_of_mem _ h')) (by rw [List.length_append, List.length_singleton]; omega) ?_
    rw [List.append_assoc]
    exact fin
theorem lc2_map {p : Addr} {R : List D → GH → Prop} (h : D → List D) (hp : G p = none) (hst : ∀ G', Over G G' → st G') : ∀ (ds acc : List D),
    (∀ d ∈ ds, ∀ (acc : List D) (N : List D → GH → Prop), acc.length + (h d).length ≤ sizeLine → N (acc ++ h d) (gset G p (.lst (acc ++ h d))) →
      g d env (gset G p (.lst acc)) fun env2 G2 => it1 env2 G2 (fun es st1 G4 => lcIn st1 g1 tYes3 te (wipe3 env2 vs1) p N es acc G4) noX) → acc.length + (ds.flatMap h).length ≤ sizeLine →
    R (acc ++ ds.flatMap h) (gset G p (.lst (acc ++ ds.flatMap h))) → lc2 st g tYes3 it1 g1 tYes3 te vs1 env p R ds acc (gset G p (.lst acc))
  | [], acc, _, _, fin => ⟨hst _ (over_gset hp), gset_same, by
    rw [List.flatMap_nil, List.append_nil] at fin
    exact fin⟩
  | d :: ds, acc, step, len, fin => by
    rw [List.flatMap_cons, List.length_append] at len
    rw [List.flatMap_cons, ← List.append_assoc] at fin
    refine ⟨hst _ (over_gset hp), gset_same, ?_⟩
    refine step d List.mem_cons_self acc _ (by omega) ?_
    exact lc2_map h hp hst ds (acc ++ h d) (fun d' h' => step d' (List.mem_cons_of_mem _ h')) (by rw [List.length_append]; omega) fin
theorem wLc2_tup {R : K3} {Ex : X3} {env' : Env3} {ds : List D} {vs : List Nat} (i : Nat) (h : D → List D) (hv : at3 env i = some (.tup ds)) (he : wipe3 env vs = env') (hl : (ds.flatMap h).length ≤ sizeLine)
    (step : ∀ d ∈ ds, ∀ (p : Addr) (acc : List D) (N : List D → GH → Prop), G p = none → acc.length + (h d).length ≤ sizeLine → N (acc ++ h d) (gset G p (.lst (acc ++ h d))) →
      g d env' (gset G p (.lst acc)) fun env2 G2 => it1 env2 G2 (fun es st1 G4 => lcIn st1 g1 tYes3 te (wipe3 env2 vs1) p N es acc G4) noX)
    (fin : R (.lst (ds.flatMap h)) G) : wLc2 (iTpl (wVar i)) g tYes3 it1 g1 tYes3 te vs vs1 env G R Ex := by
  refine ⟨.tup ds, hv, ds, rfl, fun p hp => ?_⟩
  rw [he]
  refine lc2_map h hp (fun _ _ => trivial) ds [] (fun d hd acc N q1 q2 => step d hd p acc N hp q1 q2) (by simpa using hl) ?_
  rw [List.nil_append, gdel_gset hp]
  exact fin
end
theorem tuple_lst {xs : List D} {G : GH} {R : K3} : fTuple [.lst xs] G R = R (.tup xs) G := by
  apply propext
  constructor
  · rintro ⟨ds, e, h⟩
    cases e
    exact h
  · intro h
    exact ⟨xs, rfl, h⟩
/-- what stands between two statements -/
theorem seq_cut {a b : S3} {E : E3} {env : Env3} {G : GH} (Mid : Env3 → GH → Prop) (h1 : ∀ env' G', Mid env' G' → b E env' G') (h2 : ∀ N : Env3 → GH → Prop, (∀ env' G', Mid env' G' → N env' G') → a { E with nx := N } env G) : wSeq a b E env G := h2 _ h1
theorem set_ref {p : Addr} {xs : List D} {v : D} {G : GH} {R : GH → Prop} {i : Int} (j : Nat) (hi : i = (j : Int)) (hj : j < xs.length) (g : G p = some (.lst xs)) : setI3 (.ref p) (.int i) v G R = R (gset G p (.lst (xs.set j v))) := by
  have hx : L2.ixN xs.length i = some j := by
    rw [hi]
    unfold L2.ixN
    rw [if_pos (Int.natCast_nonneg j), if_pos (Int.ofNat_lt.mpr hj), Int.toNat_natCast]
  apply propext
  constructor
  · rintro ⟨ys, k, e1, e2, h⟩
    rw [g] at e1
    cases e1
    rw [hx] at e2
    cases e2
    exact h
  · intro h
    exact ⟨xs, j, g, hx, h⟩
section
variable {i j : Int} {G : GH} {R : K3} {a b : Str} {x : D}
theorem addI : fAdd (.int i) (.int j) G R = R (.int (i + j)) G := rfl
theorem mulI : fMul (.int i) (.int j) G R = (MulC i j ∧ R (.int (i * j)) G) := rfl
theorem intI : fInt [.int i] G R = R (.int i) G := rfl
theorem intB {c : Bool} : fInt [.bl c] G R = R (.int (if c then 1 else 0)) G := rfl
theorem eqS : fEq (.str a) (.str b) G R = R (.bl (a == b)) G := rfl
theorem neS : fNe (.str a) (.str b) G R = R (.bl (!(a == b))) G := rfl
theorem isN_ : fIsN x .non G R = R (.bl (L3.isNon x)) G := by simp only [fIsN, true_and]
theorem notN_ : fNotN x .non G R = R (.bl (!L3.isNon x)) G := by simp only [fNotN, true_and]
end
theorem wLc_it {it : I3} {g : G3} {te : W3} {env env' : Env3} {G : GH} {R : K3} {Ex : X3} {ds : List D} {vs : List Nat} (f : D → D) (he : wipe3 env vs = env') (hl : ds.length ≤ sizeLine)
    (hit : ∀ Kt : List D → (GH → Prop) → GH → Prop, (∀ st : GH → Prop, (∀ G', Over G G' → st G') → Kt ds st G) → it env G Kt Ex)
    (step : ∀ d ∈ ds, ∀ (p : Addr) (acc : List D) (Q : K3), G p = none → Q (f d) (gset G p (.lst acc)) → g d env' (gset G p (.lst acc)) fun env2 G2 => te env2 G2 Q noX)
    (fin : R (.lst (ds.map f)) G) : wLc it g tYes3 te vs env G R Ex := by
  refine hit _ fun st hst => ?_
  rw [he]
  exact lcm f hst hl step fin
theorem perm_erase : ∀ (L : List D) (r : Nat) (h : r < L.length), (L[r] :: L.eraseIdx r).Perm L
  | a :: L, 0, _ => List.Perm.refl _
  | a :: L, r + 1, h => by
    have ih := perm_erase L r (by simpa using h)
    rw [List.getElem_cons_succ, List.eraseIdx_cons_succ]
    exact (List.Perm.swap _ _ _).trans (List.Perm.cons a ih)
theorem z_lt_0 : decide ((0 : Int) < ((0 : Nat) : Int)) = false := rfl
theorem Over.refl {G : GH} : Over G G := fun _ _ => rfl
theorem Over.trans {G G1 G2 : GH} (a : Over G G1) (b : Over G1 G2) : Over G G2 := fun q h => (b q (by rw [a q h]; exact h)).trans (a q h)
theorem Over.new {G G1 : GH} {q : Addr} {o : GO} (a : Over G G1) (hq : G q = none) : Over G (gset G1 q o) := fun r h => by rw [gset_ne (fun e => h (by rw [e]; exact hq))]; exact a r h
theorem Over.del {G G1 : GH} {q : Addr} (a : Over G G1) (hq : G q = none) : Over G (gdel G1 q) := fun r h => by rw [gdel_ne (fun e => h (by rw [e]; exact hq))]; exact a r h
end L3

set_option Elab.async false
set_option linter.all false
set_option maxRecDepth 100000
namespace L3
open PySem PySem.Spec L2
open PyProof.Rows hiding St

/-! ### defs as values, defs with defaults -/
/-- the def at f keeps the promise S; es: the defaults, laid behind what is written -/
structure GoodAt (P : Program) (w : World) (K : PySem.W.Frag) (mg : Str → Option Value) (base : Heap) (f : Addr) (ps : List Str) (es : List D) (k : Nat) (S : SP3) : Prop where
  ex : ∃ fd ws, PySem.W.keepIn K (.ref f) = true ∧ Binds K fd ps ws ∧ (∃ vs, Vals vs ws ∧ ∀ H G, RepL K H G es vs) ∧ FnG P w K mg base (L2.CX P w) k f fd ps (sp3 K ps.length S)
structure GoodD (P : Program) (w : World) (K : PySem.W.Frag) (mg : Str → Option Value) (base : Heap) (nm : Str) (ps : List Str) (es : List D) (k : Nat) (S : SP3) : Prop where
  ex : ∃ f, mg nm = some (.ref f) ∧ GoodAt P w K mg base f ps es k S
section
variable {P : Program} {w : World} {K : PySem.W.Frag} {mg : Str → Option Value} {base : Heap}
theorem GoodAt.mono {f : Addr} {ps : List Str} {es : List D} {j k : Nat} {S : SP3} (g : GoodAt P w K mg base f ps es j S) (h : j ≤ k) : GoodAt P w K mg base f ps es k S :=
  let ⟨fd, ws, b, c, d, F⟩ := g.ex; ⟨fd, ws, b, c, d, F.mono h⟩
theorem GoodAt.imp {f : Addr} {ps : List Str} {es : List D} {k : Nat} {S S' : SP3} (g : GoodAt P w K mg base f ps es k S) (h : ∀ ds G R Ex, S' ds G R Ex → S ds G R Ex) : GoodAt P w K mg base f ps es k S' :=
  let ⟨fd, ws, b, c, d, F⟩ := g.ex; ⟨fd, ws, b, c, d, F.imp fun _ _ _ _ ⟨ds, G, R, Ex, q1, q2, q3, q4, q5⟩ => ⟨ds, G, R, Ex, q1, q2, q3, h _ _ _ _ q4, q5⟩⟩
theorem Good.at_ {nm : Str} {ps : List Str} {k : Nat} {S : SP3} (g : Good P w K mg base nm ps k S) : GoodD P w K mg base nm ps [] k S :=
  let ⟨f, fd, a, b, c, F⟩ := g.ex; ⟨f, a, fd, [], b, c, ⟨[], .nil, fun _ _ => rfl⟩, F⟩
/-- what of the text a def with defaults needs -/
structure DefAtD (K : PySem.W.Frag) (mg : Str → Option Value) (nm : Str) (st : Stmt) (ps : List Str) (es : List D) : Prop where
  ex : ∃ f fd ws, mg nm = some (.ref f) ∧ (∃ (oc : Value) (od : Option Addr) (dV kV doc pm : Value) (an : Option Addr) (cdv ct : Value) (osl : Array (Option Value)),
    fd = PySem.W.fnOf nm nm (defArgs st) (defBody st) (defScope st) dV kV doc pm an cdv ct ∧ K.lookup f = some ⟨oc, od, .func fd, osl⟩ ∧ PySem.W.codeIn K cdv nm = true) ∧
    PySem.W.keepIn K (.ref f) = true ∧ Binds K fd ps ws ∧ (∃ vs, Vals vs ws ∧ ∀ H G, RepL K H G es vs)
theorem goodD_of {nm : Str} {st : Stmt} {N ps : List Str} {es : List D} {k : Nat} {S : SP3} (d : DefAtD K mg nm st ps es) (sc : FnScope N ps (defScope st))
    (hb : ∀ (f : Addr) (cd : Value) (A : Around) (outer : List Env) (s : Shared) (H : Hp) (E : XK),
      PassesOwn (model P w) (cx3 P w K mg base N nm (defScope st) f cd A outer s H E).A (cx3 P w K mg base N nm (defScope st) f cd A outer s H E).env (cx3 P w K mg base N nm (defScope st) f cd A outer s H E).xe →
      Takes (cx3 P w K mg base N nm (defScope st) f cd A outer s H E) (WEx E) → (cx3 P w K mg base N nm (defScope st) f cd A outer s H E).A.guards = some [] → Room k (cx3 P w K mg base N nm (defScope st) f cd A outer s H E).A →
      ∃ u : S3, PSs (cx3 P w K mg base N nm (defScope st) f cd A outer s H E) (defBody st) (upS K (WEx E) u) ∧ ∀ ds G R Ex, ds.length = ps.length → S ds G R Ex → u { nx := fun _ G => R .non G, rt := R, ex := Ex } (start3 N ds) G) :
    GoodD P w K mg base nm ps es (k + 1) S := by
  obtain ⟨f, fd, ws, hm, F, kp, hbd, hv⟩ := d.ex
  obtain ⟨oc, od, dV, kV, doc, pm, an, cdv, ct, osl, rfl, lk, hcd⟩ := F
  have hlen : ∀ vs H Q E, sp3 K ps.length S vs H Q E → vs.length = ps.length := fun vs H Q E ⟨ds, G, R, Ex, h1, h2, _⟩ => h2.length.trans h1
  refine ⟨f, hm, _, ws, kp, hbd, hv, fn_G lk hcd sc hlen fun A outer s H vs Q E hg hr hs => ?_⟩
  obtain ⟨u, hu, hw⟩ := hb f cdv A outer s H E (passes_of rfl) (takes_of rfl rfl rfl rfl) hg hr
  refine ⟨_, hu, ?_⟩
  obtain ⟨ds, G, R, Ex, h1, h2, h3, h4, h5, h6⟩ := hs
  refine ⟨start3 N ds, G, _, ?_, h3, hw ds G R Ex h1 h4, ⟨fun env σ G' H' e re rg q => h5 .non .non G' H' e rfl rg q, h5, fun _ _ _ _ _ _ _ z => z.elim, fun _ _ _ _ _ _ _ z => z.elim, h6⟩⟩
  unfold start3 L2.start
  rw [h2.length]
  exact REnv.start h2 (REnv.nones _)
end
/-! calls -/
def wCallD (n : Nat) (es : List D) (S : SP3) (ar : A3) : W3 := fun env G R Ex => ar env G (fun ds G1 => (ds ++ es).length = n ∧ S (ds ++ es) G1 R (fun c f _ G' => Ex c f env G')) Ex
/-- the slot i holds a def that keeps a promise at a level up to k -/
def wCallV (P : Program) (w : World) (K : PySem.W.Frag) (mg : Str → Option Value) (base : Heap) (k : Nat) (i : Nat) (ar : A3) : W3 := fun env G R Ex => ∃ f ps es S, at3 env i = some (.ref f) ∧ GoodAt P w K mg base f ps es k S ∧ wCallD ps.length es S ar env G R Ex
section
variable {X : Cx} {W : WX} {k : Nat} {x : Str} {ps : List Str} {ds : List D} {S : SP3} {p pos : Pos} {e : Expr} {es : List Expr} {ar : A3} {we : W3} {f : Addr}
theorem RepL.appendI {K : PySem.W.Frag} {H : Hp} {G : GH} {ds es : List D} {vs us : List V} (h : RepL K H G ds vs) (k : ∀ H G, RepL K H G es us) : RepL K H G (ds ++ es) (vs ++ us) := h.append (k H G)
theorem at_run {env : Env3} {G : GH} {H : Hp} {R : K3} {Ex : X3} {Q : VK} {σ : St} {s : Shared} {pins : List (Addr × Obj)} (F : GoodAt X.prog X.w X.K X.mg X.base f ps ds k S) (hr : Room k X.A) (hgd : X.A.guards = some []) (tk : Takes X W) (ha : PA X (e :: es) (upA X.K W ar)) (I : Inv X pins σ H s)
    (re : REnv X.K H G env σ) (rg : RG X.K H G) (h : wCallD ps.length ds S ar env G R Ex) (fe : FinE X.K H G R Q) (fx : FinX X.K W H G Ex)
    (he : starEach (e :: es) X.env = (false, eval e X.env) :: starEach es X.env) (hpl : (backTo pos (starEach es X.env)).any (·.1) = false) :
    wpAny (model X.prog X.w) X.A (PySem.callWith pos (.ref f) [] (backTo pos (starEach (e :: es) X.env)) []) (EP X pins σ Q) X.xe s := by
  obtain ⟨fd, ws, hk, hb, ⟨dv, dvw, drep⟩, FG⟩ := F.ex
  refine PySem.W.callWith_K (h₀ := X.base) I.ok.mod.kin hk (thn (ha.run pos pins s σ H _ I (upA_go re rg h fx (Q := fun vs H1 => sp3 X.K ps.length S (vs ++ dv) H1 Q (WE W σ)) fun ds1 vs G1 H1 e1 rd rg1 h1 => ?_)) fun us s1 ⟨vs, H1, I1, r, q⟩ => ⟨I1.kIn, ?_⟩) he hpl
  · exact ⟨ds1 ++ ds, G1, R, _, h1.1, rd.append (drep H1 G1), rg1, h1.2, fe.ext e1, fun c fs d env' σ' G2 H2 e2 re2 rg2 rx ex => fx c fs d env σ G2 H2 (e1.trans e2) (re.ext (e1.trans e2)) rg2 rx ex⟩
  · have rr : Vals (vs ++ dv) (us ++ ws) := r.append dvw
    have hl : (us ++ ws).length = ps.length := by rw [← rr.length]; exact FG.len _ _ _ _ q
    have b := hb s1 us I1.kIn hl
    refine wpAny_call (codeAny_mono (FG.run X.A X.stack s1 H1 ⟨us, []⟩ (us ++ ws) (vs ++ dv) Q (WE W σ) hr hgd I1.env0 b rr q) fun r s' hq => ?_)
    cases r with
    | error e => exact passAt tk σ pins H1 s1 e s' I1 hq
    | ok fl =>
      cases fl with
      | ret u => exact I1.after hq
      | next => exact False.elim hq
      | brk => exact False.elim hq
      | cont => exact False.elim hq
/-- f(e, ..), f a def of the module with defaults -/
theorem c_callD (F : GoodD X.prog X.w X.K X.mg X.base x ps ds k S) (hr : Room k X.A) (hgd : X.A.guards = some []) (tk : Takes X W) (ha : PA X (e :: es) (upA X.K W ar)) (hg : Gl X x := by rfl)
    (hdb : (x == ("__debug__" : Str)) = false := by decide) (he : starEach (e :: es) X.env = (false, eval e X.env) :: starEach es X.env := by rfl) (hpl : (backTo pos (starEach es X.env)).any (·.1) = false := by rfl) :
    PE X (.Call (.Name x p) (e :: es) [] pos) (up X.K W (wCallD ps.length ds S ar)) := by
  obtain ⟨f, hm, FA⟩ := F.ex
  refine ⟨fun pins s σ H Q I h => ?_⟩
  obtain ⟨env, G, R, Ex, re, rg, h, fe, fx⟩ := h
  exact wpAny_Call_Name_kw (ld_glob I hg hm (at_run FA hr hgd tk ha I re rg h fe fx he hpl) hdb)
/-- the name of a def of the module, as a value -/
theorem c_defV (F : GoodD X.prog X.w X.K X.mg X.base x ps ds k S) (hg : Gl X x := by rfl) (hd : (x == ("__debug__" : Str)) = false := by decide) :
    PE X (.Name x pos) (up X.K W (fun _ G R _ => ∀ f, GoodAt X.prog X.w X.K X.mg X.base f ps ds k S → R (.ref f) G)) := by
  obtain ⟨f, hm, FA⟩ := F.ex
  exact PE.imp (c_glob (W := W) (d := .ref f) (v := .ref f) hm rfl (fun _ _ => rfl) hg hd) fun σ H Q ⟨env, G, R, Ex, re, rg, h, fe, fx⟩ => ⟨env, G, R, Ex, re, rg, h f FA, fe, fx⟩
/-- x(e, ..), x a local name that holds a def -/
theorem c_callV {k i : Nat} (tk : Takes X W) (hN : X.N[i]? = some x) (hv : Vis X.env.scope x) (hr : Room k X.A) (hgd : X.A.guards = some []) (ha : PA X (e :: es) (upA X.K W ar))
    (hdb : (x == ("__debug__" : Str)) = false := by decide) (hcd : (x == ("__classdict__" : Str)) = false := by decide)
    (he : starEach (e :: es) X.env = (false, eval e X.env) :: starEach es X.env := by rfl) (hpl : (backTo pos (starEach es X.env)).any (·.1) = false := by rfl) :
    PE X (.Call (.Name x p) (e :: es) [] pos) (up X.K W (wCallV X.prog X.w X.K X.mg X.base k i ar)) := by
  refine ⟨fun pins s σ H Q I h => ?_⟩
  obtain ⟨env, G, R, Ex, re, rg, ⟨f, ps, es', S, h1, FA, h⟩, fe, fx⟩ := h
  obtain ⟨v, hs, rv⟩ := re.get h1
  refine wpAny_Call_Name_kw (thn ((pe_var (pos := p) hN hv hdb hcd).run pins s σ H (fun u H1 => u = .ref f ∧ H1 = H) I ⟨.ref f, ?_, rfl, rfl⟩) fun u s1 ⟨v1, H1, I1, r1, q1⟩ => ?_)
  · rw [hs, show v = .ref f from rv]
  obtain ⟨rfl, rfl⟩ := q1
  cases r1
  exact at_run FA hr hgd tk ha I1 re rg h fe fx he hpl
end
/-- statements that are never reached -/
theorem s_never {X : Cx} {W : WX} {ss : List Stmt} : PSs X ss (upS X.K W (fun _ _ _ => False)) := ⟨fun _ _ _ _ _ _ h => let ⟨_, _, _, _, _, z, _⟩ := h; z.elim⟩
/-! where a def with keyword-only defaults stands -/
/-- a def whose keyword-only parameters have these defaults -/
def dfnK (nm : Str) (st : Stmt) (kw : List (Str × He.Dv)) : He.DefD := ⟨(nm, none), nm, nm, defArgs st, defBody st, defScope st, [], kw⟩
def dvD : He.Dv → D
  | .bl b => .bl b
  | .int i => .int i
  | .str x => .str x
  | _ => .non
def dvB : He.Dv → Bool
  | .non => true
  | .bl _ => true
  | .int _ => true
  | .str _ => true
  | _ => false
theorem dv_rep {K : PySem.W.Frag} : ∀ {kw : List (Str × He.Dv)}, (kw.all fun q => dvB q.2) = true → ∀ H G, RepL K H G (kw.map fun q => dvD q.2) ((kw.map fun q => (q.1, q.2.v K)).map (·.2))
  | [], _, _, _ => rfl
  | q :: kw, h, H, G => by
    rw [List.all_cons, Bool.and_eq_true] at h
    obtain ⟨x, v⟩ := q
    refine ⟨_, _, rfl, ?_, dv_rep h.2 H G⟩
    cases v <;> first | rfl | (have := h.1; cases this)
section
variable {fn : List He.DefD} {fs : List Fc} {ex : PySem.W.Frag → Bool} {K : PySem.W.Frag} {mg : Str → Option Value} {h : Heap}
theorem SaysM.defAtK (c : SaysM fn ex K) (X : K.In h) (g : h.Ns mainGlobals mg) (i : Nat) {nm : Str} {st : Stmt} {ps : List Str} {kw : List (Str × He.Dv)} (n : Nat) (hi : fn[i]? = some (dfnK nm st kw)) (hg : PySem.W.nsIn K mainGlobals nm = some (some (.ref (He.ga K nm))))
    (hk : kw ≠ []) (hn : n + kw.length = ps.length) (hv : (kw.all fun q => dvB q.2) = true)
    (hb : ∀ (D : Addr) (doc pm : Value) (an : Option Addr) (cdv ct : Value) (us ks : List Value), us.length = n → ks.length = kw.length →
      KwChain D ((kw.map (·.1)).zip ks) (bindArgs (PySem.W.fnOf nm nm (defArgs st) (defBody st) (defScope st) .none (.ref D) doc pm an cdv ct) ⟨us, []⟩) (ps.zip (us ++ ks))) :
    DefAtD K mg nm st ps (kw.map fun q => dvD q.2) := by
  obtain ⟨fd, F⟩ := c.funD i hi
  have m : mg nm = some (.ref (He.ga K nm)) := PySem.W.mg_of X g hg
  have kp := F.kp
  have hkw : (dfnK nm st kw).kws K = kw.map fun q => (q.1, q.2.v K) := rfl
  obtain ⟨ws, hv1, hb1⟩ := FunD.binds0 (ps := ps) F n (by rw [hkw]; simpa using hk) (by rw [hkw, List.length_map]; exact hn) (fun D doc pm an cdv ct us ks h1 h2 => by
    rw [hkw, List.length_map] at h2
    have := hb D doc pm an cdv ct us ks h1 h2
    rw [hkw, List.map_map]
    exact this)
  obtain ⟨oc, od, dV, kV, doc, pm, an, cdv, ct, osl, e, lk, hcd, hD, _⟩ := F.ex
  exact ⟨_, fd, ws, m, ⟨oc, od, dV, kV, doc, pm, an, cdv, ct, osl, e, lk, hcd⟩, kp, hb1, _, hv1, dv_rep hv⟩
theorem Top.defK (T : Top fn fs K mg) (i j : Nat) {nm : Str} {st : Stmt} {ps : List Str} {kw : List (Str × He.Dv)} (n : Nat) (hi : fn[i]? = some (dfnK nm st kw)) (hj : fs[j]? = some (.glo nm))
    (hk : kw ≠ []) (hn : n + kw.length = ps.length) (hv : (kw.all fun q => dvB q.2) = true)
    (hb : ∀ (D : Addr) (doc pm : Value) (an : Option Addr) (cdv ct : Value) (us ks : List Value), us.length = n → ks.length = kw.length →
      KwChain D ((kw.map (·.1)).zip ks) (bindArgs (PySem.W.fnOf nm nm (defArgs st) (defBody st) (defScope st) .none (.ref D) doc pm an cdv ct) ⟨us, []⟩) (ps.zip (us ++ ks))) :
    DefAtD K mg nm st ps (kw.map fun q => dvD q.2) :=
  let ⟨_, X, G⟩ := T.ex; T.c.defAtK X G i n hi (Fc.glo_ok (T.fc j hj)) hk hn hv hb
end
end L3

set_option Elab.async false
set_option linter.all false
set_option maxRecDepth 100000
namespace L3
open PySem PySem.Spec L2
open PyProof.Rows hiding St
open RZ

/-! ### enumerate and zip over lists and tuples alike -/
/-- one argument -/
theorem meets_enumB1 {v : Value} {o : Obj} {H : Heap → Prop} (B : Begins v o H) :
    Meets (Builtin.«enumerate.__new__» ⟨[.type "enumerate", v], []⟩) (fun _ R s => H s.heap ∧
      R (.ok (.ret (.ref (s.heap.push o).objs.size))) { s with heap := (s.heap.push o).push { cls := .type "enumerate", data := .fields #[.none, .bool false, .ref s.heap.objs.size, rawInt 0, .none, .none] } }) :=
  .of_wp fun prog w A R s h => by
    obtain ⟨hp, g, d, tk, os⟩ := s; obtain ⟨h1, h⟩ := h
    have hsub := sub_enumerate
    have q1 : ∀ {A' : Around} {E : Value → Shared → Prop} {Q : Value → Shared → Prop}, Q (.ref hp.objs.size) ⟨hp.push o, g, d, tk, os⟩ → wpAny (model prog w) A' (pyIter v) Q E ⟨hp, g, d, tk, os⟩ :=
      fun q => B.iter prog w _ _ ⟨hp, g, d, tk, os⟩ _ h1 q
    wp_walk using q1
    refine wpAny_stack_any fun st => wpAny_pure ?_
    split
    · rename_i c _ _ _ _ _
      cases (c == Value.type "enumerate")
      · wp_walk using q1
        exact ⟨_, rfl, h⟩
      · wp_walk using q1
        exact ⟨_, rfl, h⟩
    · wp_walk using q1
      exact ⟨_, rfl, h⟩
theorem enum_begins1 {prog : Program} {w : World} {A : Around} {E : Value → Shared → Prop} {s : Shared} {v : Value} {o : Obj} {H : Heap → Prop} {Q : Value → Shared → Prop} (B : Begins v o H) (h1 : H s.heap)
    (h : ∀ h', IsEnum h' (s.heap.objs.size + 1) s.heap.objs.size 0 .none → h'.get? s.heap.objs.size = some o → h'.objs.size = s.heap.objs.size + 2 →
      (∀ b o, s.heap.get? b = some o → h'.get? b = some o) → Q (.ref (s.heap.objs.size + 1)) { s with heap := h' }) :
    wpAny (model prog w) A (call (.type "enumerate") [v]) Q E s := by
  refine callType_new F.called_enumerate (by decide) (F.typeCall_enumerate_1 _) (F.newCall_enumerate_1 _) (fun obj => F.args_object_init_2 obj _) F.entry_enumerate_new
    (meets_enumB1 B) ⟨h1, ?_⟩
  have hz : (s.heap.push o).objs.size = s.heap.objs.size + 1 := Heap.size_push ..
  show _ ∧ _
  rw [hz]
  have he : IsEnum ((s.heap.push o).push { cls := .type "enumerate", data := .fields #[.none, .bool false, .ref s.heap.objs.size, rawInt 0, .none, .none] }) (s.heap.objs.size + 1) s.heap.objs.size 0 .none := by
    have := Heap.get?_push_size (s.heap.push o) (o := { cls := .type "enumerate", data := .fields #[.none, .bool false, .ref s.heap.objs.size, rawInt 0, .none, .none] }) rfl
    rw [hz] at this; exact this
  refine ⟨⟨_, he, rfl⟩, h _ he (Heap.get?_push_of_some _ (Heap.get?_push_size _ B.free)) (by rw [Heap.size_push, hz]) fun b o x => Heap.get?_push_of_some _ (Heap.get?_push_of_some _ x)⟩

/-- a list (true), a tuple (false) -/
def SqX (K : PySem.W.Frag) (H : Hp) (a : Addr) (xs : List V) : Bool → Prop
  | true => SqL K H a xs
  | false => SqT K H a xs
def SeqX (h : Heap) (a : Addr) (its : Array Value) : Bool → Prop
  | true => h.IsList a its
  | false => h.IsTuple a its
def IterX (h : Heap) (it a : Addr) (i : Nat) : Bool → Prop
  | true => h.IsListIter it a i
  | false => h.IsTupleIter it a i
def iterO (a : Addr) : Bool → Obj
  | true => { cls := .type "list_iterator", data := .fields #[.ref a, .int 0 0] }
  | false => { cls := .type "tuple_iterator", data := .fields #[.ref a, .int 0 0] }
section
variable {X : Cx} {pins : List (Addr × Obj)} {σ : L2.St} {H : Hp} {s : Shared} {a it : Addr} {xs ys : List V} {i : Nat} {h h' : Heap} {its : Array Value}
theorem seqX (I : Inv X pins σ H s) : ∀ {l : Bool}, SqX X.K H a xs l → ∃ its, Vals xs its ∧ SeqX s.heap a its.toArray l
  | true, q => let ⟨its, rv, p, _⟩ := I.list q; ⟨its, rv, p.isList⟩
  | false, q => let ⟨its, rv, p, _⟩ := I.tuple q; ⟨its, rv, p⟩
theorem seqX_inj (I : Inv X pins σ H s) : ∀ {l : Bool}, SqX X.K H a ys l → SqX X.K H a xs l → ys = xs
  | true, q, r => I.list_inj q r
  | false, q, r => I.tuple_inj q r
theorem SeqX.lt : ∀ {l : Bool}, SeqX h a its l → a < h.objs.size
  | true, ⟨_, e, _⟩ => Heap.lt_size e
  | false, ⟨_, e, _⟩ => Heap.lt_size e
theorem SeqX.at : ∀ {l : Bool}, SeqX h a its l → (∀ o, h.get? a = some o → h'.get? a = some o) → SeqX h' a its l
  | true, x, e => Heap.IsList.at x e
  | false, x, e => Heap.IsTuple.at x e
theorem IterX.at : ∀ {l : Bool}, IterX h it a i l → (∀ o, h.get? it = some o → h'.get? it = some o) → IterX h' it a i l
  | true, x, e => Heap.IsListIter.at x e
  | false, x, e => Heap.IsTupleIter.at x e
theorem IterX.obj : ∀ {l : Bool}, IterX h it a i l → ∃ o, h.get? it = some o ∧ ∀ v, o.data ≠ .cell v
  | true, ⟨o, e, _, d⟩ => ⟨o, e, fun v q => by rw [d] at q; cases q⟩
  | false, ⟨o, e, _, d⟩ => ⟨o, e, fun v q => by rw [d] at q; cases q⟩
theorem IterX.of_new : ∀ {l : Bool}, h.get? it = some (iterO a l) → IterX h it a 0 l
  | true, e => ⟨_, e, rfl, rfl⟩
  | false, e => ⟨_, e, rfl, rfl⟩
theorem beginsX : ∀ {l : Bool}, Begins (.ref a) (iterO a l) fun h => SeqX h a its l
  | true => begins_list a its
  | false => begins_tuple a its
theorem drawsX {prog : Program} {w : World} {A : Around} (hh : A.handled = none) (hne : a ≠ it) : ∀ {l : Bool}, Draws prog w A it [it, a] its.size (fun i v => its[i]? = some v) (fun i h => IterX h it a i l ∧ SeqX h a its l)
  | true => .list hh it a hne its
  | false => .tuple hh it a hne its
end
def IteX (K : PySem.W.Frag) (l : Bool) (a : Addr) : It :=
  ⟨fun i H => ∃ (xs : List V) (x : V), SqX K H a xs l ∧ xs[i]? = some x, fun i H v H' => ∃ T x, v = .ref T ∧ H T = none ∧ H' = upd H T (.tup [.int (i : Nat), x]) ∧ ∀ xs, SqX K H a xs l → xs[i]? = some x, fun i H => ∃ xs : List V, SqX K H a xs l ∧ xs.length = i⟩
theorem turn_enumX {P : Program} {w : World} {K : PySem.W.Frag} {elts : List Expr} {kk : Nat} {tpos : Pos} {l : Bool} {a e it : Addr} (hne : e ≠ it) (hae : a ≠ e) (hai : a ≠ it) :
    Turn P w K (.Tuple elts kk tpos) (IteX K l a) [e, it] e (fun i h => (∃ old, IsEnum h e it ((i : Nat) : Int) old) ∧ IterX h it a i l) where
  mem := by simp
  obj := fun i h st b hb => by
    obtain ⟨⟨old, he⟩, hi⟩ := st
    have e' : b = e ∨ b = it := by simpa using hb
    rcases e' with z | z
    · rw [z]; exact ⟨_, he, fun v q => nomatch q⟩
    · rw [z]; exact hi.obj
  keep := fun i h h' st k => let ⟨⟨old, he⟩, hi⟩ := st; ⟨⟨old, k e (by simp) _ he⟩, hi.at fun o q => k it (by simp) o q⟩
  item := by
    intro X hP hw hK hc i pins s σ H E I hf st hg
    subst hP hw hK
    obtain ⟨⟨old, he⟩, hit⟩ := st
    obtain ⟨xs, x, hq, hx⟩ := hg
    obtain ⟨its, rv, p⟩ := seqX I hq
    obtain ⟨u, hu, ru⟩ := rv.get hx
    have hu' : its.toArray[i]? = some u := by simpa using hu
    have hel : e < s.heap.objs.size := Heap.lt_size he
    have hil : it < s.heap.objs.size := by obtain ⟨_, q, _⟩ := hit.obj; exact Heap.lt_size q
    refine wpAny_pyNext_enum_itemD (drawsX (A := X.A.in1) (show X.A.in1.handled = none from I.ok.hd hc) hai (its := its.toArray) (l := l)) he ⟨hit, p⟩ (Array.getElem?_eq_some_iff.mp hu').1 hne (by simp only [List.mem_cons, List.not_mem_nil, or_false, not_or]; exact ⟨hne, fun z => hae z.symm⟩) fun v h' tk hv ho hst hT hsz hk => ?_
    rw [hu'] at hv
    cases hv
    refine ⟨_, rfl, wpAny_letOwnedTupleGo_enum (s := { s with heap := h', toks := tk + 1 }) ho fun h'' he' sb => ?_⟩
    have hT2 : h''.get? s.heap.objs.size = some { cls := .type "tuple", data := .seq #[.int i tk, u] } := (sb.2 _ (Nat.ne_of_gt hel)).trans hT
    have new : ObjOk X.prog X.w (upd H s.heap.objs.size (.tup [.int (i : Nat), x])) h'' s.heap.objs.size (.tup [.int (i : Nat), x]) :=
      ⟨by show 2 ≤ sizeLine; decide, [.int i tk, u], .cons ⟨_, rfl⟩ (.cons ru .nil), ⟨_, hT2, rfl, _, rfl⟩⟩
    have I1 : Inv X pins σ (upd H s.heap.objs.size (.tup [.int (i : Nat), x])) { s with heap := h'', toks := tk + 1 } :=
      I.turnedNew (ch := [e, it]) (fun b ob hb q => (sb.2 b (fun z => hb (by simp [z]))).trans (hk b ob (fun z => hb (by simp [z])) (fun z => hb (by simp [z])) q)) hf (Nat.le_refl _) new
    refine ⟨.ref s.heap.objs.size, _, I1, rfl, ⟨_, x, rfl, I.hok.fresh (Nat.le_refl _), rfl, fun ys hy => by rw [seqX_inj I hy hq]; exact hx⟩, ⟨⟨u, ?_⟩, hst.1.at fun o q => (sb.2 it (Ne.symm hne)).trans q⟩, fun b hb => ?_⟩
    · have e1 : ((i + 1 : Nat) : Int) = (i : Int) + 1 := by omega
      rw [e1]; exact he'
    · have hb' : b < s.heap.objs.size := by
        have e' : b = e ∨ b = it := by simpa using hb
        rcases e' with z | z
        · rw [z]; exact hel
        · rw [z]; exact hil
      rw [upd_ne (Nat.ne_of_lt hb')]
      exact (hf b hb).1
  done := by
    intro X hP hw hK hc i pins s σ H E I hf st hg
    subst hP hw hK
    obtain ⟨⟨old, he⟩, hit⟩ := st
    obtain ⟨xs, hq, hx⟩ := hg
    obtain ⟨its, rv, p⟩ := seqX I hq
    obtain ⟨f0, f1, f2, f3, f4, f5⟩ := hf it (by simp)
    have hl := rv.length
    have hi : i = its.toArray.size := by simp; omega
    subst hi
    exact wpAny_pyNext_enum_endD (drawsX (A := X.A.in1) (show X.A.in1.handled = none from I.ok.hd hc) hai (its := its.toArray) (l := l)) he ⟨hit, p⟩ fun h' eb => ⟨rfl, I.turned (t' := s.toks) (fun b o hb q => eb b o hb q) f0 f1 f3 f4 f5⟩
  self := fun A i s Q E st h => let ⟨⟨_, he⟩, _⟩ := st; wpAny_pyIter_enum he h
/-- zip of two, each a list or a tuple; it ends with the shorter -/
def ItzX (K : PySem.W.Frag) (l m : Bool) (a b : Addr) : It :=
  ⟨fun i H => ∃ (xs ys : List V) (x y : V), SqX K H a xs l ∧ SqX K H b ys m ∧ xs[i]? = some x ∧ ys[i]? = some y,
    fun i H v H' => ∃ T x y, v = .ref T ∧ H T = none ∧ H' = upd H T (.tup [x, y]) ∧ (∀ xs, SqX K H a xs l → xs[i]? = some x) ∧ ∀ ys, SqX K H b ys m → ys[i]? = some y,
    fun i H => ∃ xs ys : List V, SqX K H a xs l ∧ SqX K H b ys m ∧ i = min xs.length ys.length⟩
theorem turn_zipX {P : Program} {w : World} {K : PySem.W.Frag} {elts : List Expr} {kk : Nat} {tpos : Pos} {l m : Bool} {a b z TI TO i1 i2 : Addr} (D : ZipSep2 z TI TO i1 i2 [i1, a] [i2, b]) (ha1 : a ≠ i1) (hb2 : b ≠ i2) :
    Turn P w K (.Tuple elts kk tpos) (ItzX K l m a b) [z, TI, TO, i1, i2] z (fun i h => IsZip h z TI TO .none ∧ IsTupOf2 h TI (.ref i1) (.ref i2) ∧ (∃ x y, IsTupOf2 h TO x y) ∧ IterX h i1 a i l ∧ IterX h i2 b i m) where
  mem := by simp
  obj := fun i h st c hc => by
    obtain ⟨hz, hTI, ⟨x, y, hTO⟩, h1, h2⟩ := st
    have e' : c = z ∨ c = TI ∨ c = TO ∨ c = i1 ∨ c = i2 := by simpa using hc
    rcases e' with q | q | q | q | q
    · rw [q]; exact ⟨_, hz, fun v q => nomatch q⟩
    · rw [q]; exact ⟨_, hTI, fun v q => nomatch q⟩
    · rw [q]; exact ⟨_, hTO, fun v q => nomatch q⟩
    · rw [q]; exact h1.obj
    · rw [q]; exact h2.obj
  keep := fun i h h' st k => by
    obtain ⟨hz, hTI, ⟨x, y, hTO⟩, h1, h2⟩ := st
    exact ⟨k z (by simp) _ hz, k TI (by simp) _ hTI, ⟨x, y, k TO (by simp) _ hTO⟩, h1.at fun o q => k i1 (by simp) o q, h2.at fun o q => k i2 (by simp) o q⟩
  item := by
    intro X hP hw hK hc i pins s σ H E I hf st hg
    subst hP hw hK
    obtain ⟨hz, hTI, ⟨x0, y0, hTO⟩, h1, h2⟩ := st
    obtain ⟨xs, ys, x, y, hqx, hqy, hx, hy⟩ := hg
    obtain ⟨its, rv, p⟩ := seqX I hqx
    obtain ⟨its2, rv2, p2⟩ := seqX I hqy
    obtain ⟨u, hu, ru⟩ := rv.get hx
    obtain ⟨u2, hu2, ru2⟩ := rv2.get hy
    have hu' : its.toArray[i]? = some u := by simpa using hu
    have hu2' : its2.toArray[i]? = some u2 := by simpa using hu2
    have hzl : z < s.heap.objs.size := Heap.lt_size hz
    have hh : X.A.in1.handled = none := I.ok.hd hc
    refine wpAny_pyNext_zipD2_item D (drawsX (A := X.A.in1) hh ha1 (its := its.toArray) (l := l)) (drawsX (A := X.A.in1) hh hb2 (its := its2.toArray) (l := m)) hz hTI hTO ⟨h1, p⟩ ⟨h2, p2⟩ (Array.getElem?_eq_some_iff.mp hu').1 (Array.getElem?_eq_some_iff.mp hu2').1 fun v1 v2 h' tk hv1 hv2 z' TO' h1' h2' hT hsz hk => ?_
    rw [hu'] at hv1
    rw [hu2'] at hv2
    cases hv1
    cases hv2
    refine ⟨_, rfl, wpAny_letOwnedTupleGo_zip (s := { s with heap := h', toks := tk }) z' fun h'' z'' sb => ?_⟩
    have hT2 : h''.get? s.heap.objs.size = some { cls := .type "tuple", data := .seq #[u, u2] } := (sb.2 _ (Nat.ne_of_gt hzl)).trans hT
    have new : ObjOk X.prog X.w (upd H s.heap.objs.size (.tup [x, y])) h'' s.heap.objs.size (.tup [x, y]) :=
      ⟨by show 2 ≤ sizeLine; decide, [u, u2], .cons ru (.cons ru2 .nil), ⟨_, hT2, rfl, _, rfl⟩⟩
    have hm : ∀ {c : Addr}, c ∉ [z, TI, TO, i1, i2] → c ≠ z ∧ c ≠ TO ∧ c ≠ i1 ∧ c ≠ i2 := fun {c} hb => by
      simp only [List.mem_cons, List.not_mem_nil, or_false, not_or] at hb
      exact ⟨hb.1, hb.2.2.1, hb.2.2.2.1, hb.2.2.2.2⟩
    have I1 : Inv X pins σ (upd H s.heap.objs.size (.tup [x, y])) { s with heap := h'', toks := tk } :=
      I.turnedNew (t' := tk) (ch := [z, TI, TO, i1, i2]) (fun c o hb q => (sb.2 c (hm hb).1).trans (hk c o (hm hb).1 (hm hb).2.1 (hm hb).2.2.1 (hm hb).2.2.2 q)) hf (Nat.le_refl _) new
    refine ⟨.ref s.heap.objs.size, _, I1, rfl, ⟨_, x, y, rfl, I.hok.fresh (Nat.le_refl _), rfl, fun l hl => by rw [seqX_inj I hl hqx]; exact hx, fun l hl => by rw [seqX_inj I hl hqy]; exact hy⟩, ⟨z'', ?_, ⟨u, u2, ?_⟩, ?_, ?_⟩, fun c hcm => ?_⟩
    · exact (sb.2 _ D.TIz).trans (hk _ _ D.TIz D.TITO D.TIi1 D.TIi2 hTI)
    · exact (sb.2 _ D.TOz).trans TO'
    · exact h1'.1.at fun o q => (sb.2 _ D.zi1.symm).trans q
    · exact h2'.1.at fun o q => (sb.2 _ D.zi2.symm).trans q
    · have hlt : c < s.heap.objs.size := by
        have e' : c = z ∨ c = TI ∨ c = TO ∨ c = i1 ∨ c = i2 := by simpa using hcm
        rcases e' with q | q | q | q | q
        · rw [q]; exact hzl
        · rw [q]; exact Heap.lt_size hTI
        · rw [q]; exact Heap.lt_size hTO
        · rw [q]; obtain ⟨_, e1, _⟩ := h1.obj; exact Heap.lt_size e1
        · rw [q]; obtain ⟨_, e2, _⟩ := h2.obj; exact Heap.lt_size e2
      rw [upd_ne (Nat.ne_of_lt hlt)]
      exact (hf c hcm).1
  done := by
    intro X hP hw hK hc i pins s σ H E I hf st hg
    subst hP hw hK
    obtain ⟨hz, hTI, ⟨x0, y0, hTO⟩, h1, h2⟩ := st
    obtain ⟨xs, ys, hqx, hqy, hend⟩ := hg
    obtain ⟨its, rv, p⟩ := seqX I hqx
    obtain ⟨its2, rv2, p2⟩ := seqX I hqy
    have l1 := rv.length
    have l2 := rv2.length
    have hh : X.A.in1.handled = none := I.ok.hd hc
    have z1 : its.toArray.size = xs.length := by simp [l1]
    have z2 : its2.toArray.size = ys.length := by simp [l2]
    refine wpAny_pyNext_zipD2_end D (drawsX (A := X.A.in1) hh ha1 (its := its.toArray) (l := l)) (drawsX (A := X.A.in1) hh hb2 (its := its2.toArray) (l := m)) hz hTI hTO ⟨h1, p⟩ ⟨h2, p2⟩ (by omega) (by omega) (by omega) fun h' tk hk => ⟨rfl, I.turnedL (t' := tk) (ch := [z, TI, TO, i1, i2]) (fun c o hb q => ?_) hf⟩
    simp only [List.mem_cons, List.not_mem_nil, or_false, not_or] at hb
    exact hk c o hb.1 hb.2.2.1 hb.2.2.2.1 hb.2.2.2.2 q
  self := fun A i s Q E st h => wpAny_pyIter_zip st.1 h

/-! ### the lifted walks -/
/-- a list or a tuple: which -/
def isL : D → Bool
  | .tup _ => false
  | _ => true
section
variable {K : PySem.W.Frag} {G G' : GH} {H H' : Hp}
theorem asX_at {x : D} {v : V} {ds : List D} (r : Rep K H G x v) (g : RG K H G) (h : asS G x = some ds) : ∃ a vs, v = .ref a ∧ SqX K H a vs (isL x) ∧ RepL K H G ds vs := by
  cases x with
  | tup xs =>
    obtain ⟨a, vs, e, k, t⟩ := asT_at r (show asT (.tup xs) = some ds from h)
    exact ⟨a, vs, e, k, t⟩
  | _ =>
    obtain ⟨a, vs, e, k, t⟩ := asL_at r g (show asL G _ = some ds from h)
    exact ⟨a, vs, e, k, t⟩
theorem seq_stays {x : D} {ds : List D} (h : asS G x = some ds) (st : stL x ds G') : asS G' x = some ds := by
  cases x with
  | ref p =>
    have st' : G' p = some (.lst ds) := st
    exact asS_ref st'
  | _ => exact h
theorem sqX_V {a : Addr} {l : Bool} {vs ws : List V} (h : SqX K H a vs l) (k : ∀ ys, SqX K H a ys l → ys = ws) : vs = ws := k _ h
theorem itd_enumX {x : D} {a : Addr} {ds : List D} (r : Rep K H G x (.ref a)) (g : RG K H G) (h : asS G x = some ds) : ItD K (IteX K (isL x) a) (enumD ds) (stL x ds) G H where
  go := fun i G' H' e g' st hi => by
    obtain ⟨p, vs, q, sq, rl⟩ := asX_at (r.ext e) g' (seq_stays h st)
    cases q
    have hi' : i < ds.length := by simpa [enumD] using hi
    exact ⟨vs, _, sq, List.getElem?_eq_getElem (by rw [rl.length]; exact hi')⟩
  stop := fun G' H' e g' st => by
    obtain ⟨p, vs, q, sq, rl⟩ := asX_at (r.ext e) g' (seq_stays h st)
    cases q
    exact ⟨vs, sq, by simp [enumD, rl.length]⟩
  yld := fun i G' H' x' H2 e g' st hi hy => by
    obtain ⟨p, vs, q, sq, rl⟩ := asX_at (r.ext e) g' (seq_stays h st)
    cases q
    obtain ⟨T, y, rfl, hT, rfl, hall⟩ := hy
    have hi' : i < ds.length := by simpa [enumD] using hi
    obtain ⟨d, h1, h2⟩ := rl.getV (hall vs sq)
    obtain ⟨p1, p2, p3⟩ := pair_alloc (x := .int i) (a := .int i) (show Rep K H' G' (.int (i : Nat)) (.int (i : Nat)) from rfl) h2 g' hT
    refine ⟨.tup [.int i, d], ?_, p1, p2, p3⟩
    unfold enumD
    rw [List.getElem?_map, List.getElem?_zipIdx, h1]
    simp
theorem itd_zipX {x y : D} {a b : Addr} {xs ys : List D} (r : Rep K H G x (.ref a)) (s : Rep K H G y (.ref b)) (g : RG K H G) (h : asS G x = some xs) (k : asS G y = some ys) : ItD K (ItzX K (isL x) (isL y) a b) (zipD xs ys) (fun G => stL x xs G ∧ stL y ys G) G H where
  go := fun i G' H' e g' st hi => by
    obtain ⟨p, vs, q, sq, rl⟩ := asX_at (r.ext e) g' (seq_stays h st.1)
    cases q
    obtain ⟨p2, us, q, sq2, rl2⟩ := asX_at (s.ext e) g' (seq_stays k st.2)
    cases q
    have hi' : i < min xs.length ys.length := by simpa [zipD] using hi
    exact ⟨vs, us, _, _, sq, sq2, List.getElem?_eq_getElem (by rw [rl.length]; omega), List.getElem?_eq_getElem (by rw [rl2.length]; omega)⟩
  stop := fun G' H' e g' st => by
    obtain ⟨p, vs, q, sq, rl⟩ := asX_at (r.ext e) g' (seq_stays h st.1)
    cases q
    obtain ⟨p2, us, q, sq2, rl2⟩ := asX_at (s.ext e) g' (seq_stays k st.2)
    cases q
    exact ⟨vs, us, sq, sq2, by simp [zipD, rl.length, rl2.length]⟩
  yld := fun i G' H' x' H2 e g' st hi hy => by
    obtain ⟨p, vs, q, sq, rl⟩ := asX_at (r.ext e) g' (seq_stays h st.1)
    cases q
    obtain ⟨p2, us, q, sq2, rl2⟩ := asX_at (s.ext e) g' (seq_stays k st.2)
    cases q
    obtain ⟨T, x1, y1, rfl, hT, rfl, hx, hy⟩ := hy
    obtain ⟨d, h1, h2⟩ := rl.getV (hx vs sq)
    obtain ⟨f, k1, k2⟩ := rl2.getV (hy us sq2)
    obtain ⟨p1, p2, p3⟩ := pair_alloc h2 k2 g' hT
    exact ⟨.tup [d, f], zip_get h1 k1, p1, p2, p3⟩
end
def iEnumX (K : PySem.W.Frag) (ta : TA) : TI := fun σ H R => ta σ H fun vs H1 => ∃ a xs l, vs = [.ref a] ∧ SqX K H1 a xs l ∧ R (IteX K l a) H1
theorem pi_enumX {X : Cx} {e : Expr} {ta : TA} {p pos tpos : Pos} {elts : List Expr} {kk : Nat} (hg : Gl X "enumerate") (hm : X.mg "enumerate" = none) (ha : PA X [e] ta) (hs : starEach [e] X.env = [(false, eval e X.env)] := by rfl) :
    PI X (.Tuple elts kk tpos) (.Call (.Name "enumerate" p) [e] [] pos) (iEnumX X.K ta) := by
  refine ⟨fun pins s σ H R I h => ?_⟩
  refine Call_ (ld_blt I hg hm boot_enumerate (PyProof.Rows.callWith_type1 (thn (ha.run pos pins s σ H _ I h) fun us s1 ⟨vs, H1, I1, r1, q1⟩ => ?_) hs rfl))
  obtain ⟨a, xs, l, ex, sq, q⟩ := q1
  subst ex
  cases r1 with
  | cons r rr =>
    cases rr
    cases r
    obtain ⟨its, rv, p'⟩ := seqX I1 sq
    have hlt : a < s1.heap.objs.size := p'.lt
    refine enum_begins1 (beginsX (l := l) (its := its.toArray)) p' fun h' he hit hsz hk => wpAny_pyIter_enum he ?_
    have I2 : Inv X pins σ H1 { s1 with heap := h' } := I1.kept (t' := s1.toks) hk
    refine ⟨s1.heap.objs.size + 1, [s1.heap.objs.size + 1, s1.heap.objs.size], _, IteX X.K l a, H1, rfl, I2, turn_enumX (Nat.succ_ne_self _) (Nat.ne_of_lt (Nat.lt_succ_of_lt hlt)) (Nat.ne_of_lt hlt), ⟨⟨.none, he⟩, IterX.of_new hit⟩, fun b hb => ?_, q⟩
    have e' : b = s1.heap.objs.size + 1 ∨ b = s1.heap.objs.size := by simpa using hb
    have hle : s1.heap.objs.size ≤ b := by
      rcases e' with z | z
      · rw [z]; exact Nat.le_add_right _ _
      · rw [z]; exact Nat.le_refl _
    exact I1.fpOk hle (I1.hok.fresh hle)
def iZipX (K : PySem.W.Frag) (ta : TA) : TI := fun σ H R => ta σ H fun vs H1 => ∃ a b xs ys l m, vs = [.ref a, .ref b] ∧ SqX K H1 a xs l ∧ SqX K H1 b ys m ∧ R (ItzX K l m a b) H1
theorem sep_new {n a b : Nat} (ha : a < n) (hb : b < n) : ZipSep2 (n + 4) (n + 2) (n + 3) n (n + 1) [n, a] [n + 1, b] :=
  ⟨show (n + 2 : Nat) ≠ n + 4 by omega, show (n + 3 : Nat) ≠ n + 4 by omega, show (n + 2 : Nat) ≠ n + 3 by omega, show (n + 2 : Nat) ≠ n by omega, List.mem_cons_self, (fun h => by
    have h2 : (n + 4 : Nat) = n ∨ (n + 4 : Nat) = a := by simpa only [List.mem_cons, List.not_mem_nil, or_false] using h
    omega), (fun h => by
    have h2 : (n + 3 : Nat) = n ∨ (n + 3 : Nat) = a := by simpa only [List.mem_cons, List.not_mem_nil, or_false] using h
    omega),
    show (n + 2 : Nat) ≠ n + 1 by omega, List.mem_cons_self, (fun h => by
    have h2 : (n + 4 : Nat) = n + 1 ∨ (n + 4 : Nat) = b := by simpa only [List.mem_cons, List.not_mem_nil, or_false] using h
    omega), (fun h => by
    have h2 : (n + 3 : Nat) = n + 1 ∨ (n + 3 : Nat) = b := by simpa only [List.mem_cons, List.not_mem_nil, or_false] using h
    omega), (fun h => by
    have h2 : (n : Nat) = n + 1 ∨ (n : Nat) = b := by simpa only [List.mem_cons, List.not_mem_nil, or_false] using h
    omega), (fun h => by
    have h2 : (n + 1 : Nat) = n ∨ (n + 1 : Nat) = a := by simpa only [List.mem_cons, List.not_mem_nil, or_false] using h
    omega)⟩
theorem pi_zipX {X : Cx} {e e2 : Expr} {ta : TA} {p pos tpos : Pos} {elts : List Expr} {kk : Nat} (hg : Gl X "zip") (hm : X.mg "zip" = none) (ha : PA X [e, e2] ta)
    (hs : starEach [e, e2] X.env = (false, eval e X.env) :: starEach [e2] X.env := by rfl) (hpl : (backTo pos (starEach [e2] X.env)).any (·.1) = false := by rfl) :
    PI X (.Tuple elts kk tpos) (.Call (.Name "zip" p) [e, e2] [] pos) (iZipX X.K ta) := by
  refine ⟨fun pins s σ H R I h => ?_⟩
  refine Call_ (ld_blt I hg hm PyProof.Rows.boot_zip (PyProof.Rows.callWith_type1 (thn (ha.run pos pins s σ H _ I h) fun us s1 ⟨vs, H1, I1, r1, q1⟩ => ?_) hs hpl))
  obtain ⟨a, b, xs, ys, l, m, ex, sq, sq2, q⟩ := q1
  subst ex
  cases r1 with
  | cons r rr =>
    cases rr with
    | cons r' rr =>
      cases rr
      cases r
      cases r'
      obtain ⟨its, rv, p1⟩ := seqX I1 sq
      obtain ⟨its2, rv2, p2⟩ := seqX I1 sq2
      have l1 : a < s1.heap.objs.size := p1.lt
      have l2 : b < s1.heap.objs.size := p2.lt
      refine zip_begins2 (beginsX (l := l) (its := its.toArray)) (beginsX (l := m) (its := its2.toArray)) p1 p2 fun h' hz hTI hTO h1 h2 hsz hk => wpAny_pyIter_zip hz ?_
      have I2 : Inv X pins σ H1 { s1 with heap := h' } := I1.kept (t' := s1.toks) hk
      refine ⟨s1.heap.objs.size + 4, [s1.heap.objs.size + 4, s1.heap.objs.size + 2, s1.heap.objs.size + 3, s1.heap.objs.size, s1.heap.objs.size + 1], _, ItzX X.K l m a b, H1, rfl, I2, turn_zipX (sep_new l1 l2) (Nat.ne_of_lt l1) (Nat.ne_of_lt (Nat.lt_succ_of_lt l2)), ⟨hz, hTI, ⟨_, _, hTO⟩, IterX.of_new h1, IterX.of_new h2⟩, fun c hcm => ?_, q⟩
      have e' : c = s1.heap.objs.size + 4 ∨ c = s1.heap.objs.size + 2 ∨ c = s1.heap.objs.size + 3 ∨ c = s1.heap.objs.size ∨ c = s1.heap.objs.size + 1 := by simpa using hcm
      have hle : s1.heap.objs.size ≤ c := by
        rcases e' with z | z | z | z | z
        · rw [z]; exact Nat.le_add_right _ _
        · rw [z]; exact Nat.le_add_right _ _
        · rw [z]; exact Nat.le_add_right _ _
        · rw [z]; exact Nat.le_refl _
        · rw [z]; exact Nat.le_add_right _ _
      exact I1.fpOk hle (I1.hok.fresh hle)
/-- enumerate(x), zip(x, y): x, y lists or tuples -/
def iEnX (w : W3) : I3 := fun env G R Ex => w env G (fun x G1 => ∃ ds, asS G1 x = some ds ∧ R (enumD ds) (stL x ds) G1) Ex
def iZpX (w w2 : W3) : I3 := fun env G R Ex => w env G (fun x G1 => w2 env G1 (fun y G2 => ∃ xs ys, asS G2 x = some xs ∧ asS G2 y = some ys ∧ R (zipD xs ys) (fun G => stL x xs G ∧ stL y ys G) G2) Ex) Ex
section
variable {X : Cx} {W : WX} {w w2 : W3} {p pos tpos : Pos} {elts : List Expr} {kk : Nat}
theorem i_enX {e : Expr} (hm : X.mg "enumerate" = none) (ha : PE X e (up X.K W w)) (hg : Gl X "enumerate" := by rfl) (hs : starEach [e] X.env = [(false, eval e X.env)] := by rfl) :
    PI X (.Tuple elts kk tpos) (.Call (.Name "enumerate" p) [e] [] pos) (upI X.K W (iEnX w)) :=
  PI.imp (pi_enumX hg hm (pa_cons ha pa_nil hs) hs) fun σ H R ⟨env, G, R3, Ex, re, rg, h, fx, f⟩ => by
    refine up_go re rg h fx fun x v G1 H1 e1 rx rg1 ⟨ds, h1, h2⟩ => ?_
    obtain ⟨a, vs, rfl, sq, rl⟩ := asX_at rx rg1 h1
    exact ⟨a, vs, isL x, rfl, sq, f _ H1 G1 _ _ e1 rg1 (itd_enumX rx rg1 h1) h2⟩
theorem i_zpX {a b : Expr} (hm : X.mg "zip" = none) (ha : PE X a (up X.K W w)) (hb : PE X b (up X.K W w2)) (hg : Gl X "zip" := by rfl) (hs : starEach [a, b] X.env = (false, eval a X.env) :: starEach [b] X.env := by rfl)
    (hs2 : starEach [b] X.env = (false, eval b X.env) :: starEach [] X.env := by rfl) (hpl : (backTo pos (starEach [b] X.env)).any (·.1) = false := by rfl) : PI X (.Tuple elts kk tpos) (.Call (.Name "zip" p) [a, b] [] pos) (upI X.K W (iZpX w w2)) :=
  PI.imp (pi_zipX hg hm (pa_cons ha (pa_cons hb pa_nil hs2) hs) hs hpl) fun σ H R ⟨env, G, R3, Ex, re, rg, h, fx, f⟩ => by
    refine up_go re rg h fx fun x v G1 H1 e1 rx rg1 h1 => ?_
    refine up_go (re.ext e1) rg1 h1 (fx.ext e1) fun y u G2 H2 e2 ry rg2 ⟨xs, ys, q1, q2, q3⟩ => ?_
    obtain ⟨a, vs, rfl, sq, rl⟩ := asX_at (rx.ext e2) rg2 q1
    obtain ⟨b, us, rfl, sq2, rl2⟩ := asX_at ry rg2 q2
    exact ⟨a, b, vs, us, isL x, isL y, rfl, sq, sq2, f _ H2 G2 _ _ (e1.trans e2) rg2 (itd_zipX (rx.ext e2) ry rg2 q1 q2) q3⟩
end
end L3

set_option Elab.async false
set_option linter.all false
set_option maxRecDepth 100000
namespace L3
open PySem PySem.Spec L2
open PyProof.Rows hiding St

/-! ### t[::-1] -/
section
variable {prog : Program} {w : World} {A : Around} {E : Value → Shared → Prop} {s : Shared}
theorem rev_adjust (n : Nat) : Builtin.Slice.sliceAdjust none none (-1) (n : Int) = ((n : Int) - 1, -1) := by
  unfold Builtin.Slice.sliceAdjust
  simp
theorem rev_places (n : Nat) : Builtin.Slice.slicePlaces ((n : Int) - 1) (-1) (-1) = n := by
  unfold Builtin.Slice.slicePlaces
  by_cases h : n = 0
  · subst h; rfl
  · simp
    omega
theorem fm_congr {α β : Type} {f g : α → Option β} : ∀ {l : List α}, (∀ x ∈ l, f x = g x) → l.filterMap f = l.filterMap g
  | [], _ => rfl
  | a :: l, h => by
    rw [List.filterMap_cons, List.filterMap_cons, h a List.mem_cons_self, fm_congr fun x hx => h x (List.mem_cons_of_mem _ hx)]
theorem rev_pick (xs : Array Value) : ((List.range xs.size).filterMap fun (m : Nat) => xs[(((xs.size : Int) - 1) + (m : Int) * (-1)).toNat]?).toArray = xs.toList.reverse.toArray := by
  have h1 : ((List.range xs.size).filterMap fun (m : Nat) => xs[(((xs.size : Int) - 1) + (m : Int) * (-1)).toNat]?) = ((List.range xs.size).map fun k => xs.size - 1 - k).filterMap (fun j => xs[j]?) := by
    rw [List.filterMap_map]
    refine fm_congr ?_
    intro k hk
    have := List.mem_range.mp hk
    show xs[_]? = xs[xs.size - 1 - k]?
    congr 1
    omega
  rw [h1]
  have := PySem.W.krv_pick xs
  unfold slicePick at this
  rw [PySem.W.krv_bounds] at this
  rw [← this]
  show _ = ((sliceRange ((xs.size : Int) - 1) (-1) (-1)).filterMap (xs[·]?)).toArray
  rw [PySem.W.krv_sliceRange]
theorem sliceApplied_rev {sl : Addr} {vl vu vs : Value} {n : Nat} {Q : Int × Int × Nat → Shared → Prop} (hs : s.heap.IsSliceOf sl vl vu vs) (pl : IsPart vl none) (pu : IsPart vu none) (ps : IsPart vs (some (-1)))
    (h : Q ((n : Int) - 1, -1, n) s) : wpAny (model prog w) A (Builtin.Slice.sliceApplied (.ref sl) (pure (n : Int))) Q E s := by
  obtain ⟨os, hos, hcs, hds⟩ := id hs
  unfold Builtin.Slice.sliceApplied Builtin.Slice.sliceFields
  refine wpAny_bind (wpAny_bind (wpAny_field hos hds (x := vl) rfl (wpAny_bind (wpAny_field hos hds (x := vu) rfl (wpAny_bind (wpAny_field hos hds (x := vs) rfl (wpAny_pure ?_)))))))
  refine wpAny_bind (HT.slicePart_ ps ?_)
  show wpAny _ _ (if ((-1 : Int) == 0) = true then _ else _) _ _ s
  rw [if_neg (by decide)]
  refine wpAny_bind (HT.slicePart_ pl (wpAny_bind (HT.slicePart_ pu (wpAny_bind (wpAny_pure ?_)))))
  show wpAny _ _ (match Builtin.Slice.sliceAdjust none none (-1) (n : Int) with | (lo, hi) => pure (lo, (-1 : Int), Builtin.Slice.slicePlaces lo hi (-1))) _ _ s
  rw [rev_adjust]
  show wpAny _ _ (pure ((n : Int) - 1, (-1 : Int), Builtin.Slice.slicePlaces ((n : Int) - 1) (-1) (-1))) _ _ s
  rw [rev_places]
  exact wpAny_pure h
theorem getItem_tuple_rev {t sl : Addr} {items : Array Value} {vl vu vs : Value} {Q : Value → Shared → Prop} (ht : IsTup s.heap t items) (hs : s.heap.IsSliceOf sl vl vu vs) (pl : IsPart vl none) (pu : IsPart vu none) (ps : IsPart vs (some (-1)))
    (h : Q (.ref s.heap.objs.size) { s with heap := s.heap.push { cls := .type "tuple", data := .seq items.toList.reverse.toArray } })
    (hsz : items.size ≤ sizeLine) : wpAny (model prog w) A (getItem (.ref t) (.ref sl)) Q E s := by
  have htake : sizeOk (.seq items.toList.reverse.toArray) := by
    show items.toList.reverse.toArray.size ≤ sizeLine
    rw [List.size_toArray, List.length_reverse, Array.length_toList]
    exact hsz
  obtain ⟨os, hos, hcs, hds⟩ := id hs
  have hTs : s.TypeIs (.ref sl) "slice" := ⟨os, hos, hcs⟩
  unfold getItem
  try with_reducible refine wpAny_holding ?_
  first | refine wpAny_bind (wpAny_pure ?_) | skip
  refine wpAny_bind (wpAny_sequenceKey ht.typeIs (by decide) ?_)
  refine wpAny_bind (wpAny_callSpecial?_slot (name := Str.ofString "__getitem__") ht.typeIs PyProof.Rows.slot_tuple_getitem
    (wpAny_call_entry PyProof.Rows.slot_tuple_getitem ht.typeIs entry_tuple_getitem ?_ (args_tuple_getitem _ _)))
  show wpAny _ _ (Builtin.Tuple.tupleItemsOf (.ref t) >>= _) _ _ s
  refine wpAny_bind (tupleItemsOf_ ht ?_)
  refine wpAny_bind (wpAny_typeOf hTs ?_)
  rw [if_pos (by decide)]
  refine wpAny_bind (sliceApplied_rev hs pl pu ps ?_)
  have hno : ¬ ((((items.size : Int) - 1) == 0 && (-1 : Int) == 1 && items.size == items.size) = true) := by
    intro q
    rw [Bool.and_eq_true, Bool.and_eq_true] at q
    cases q.1.2
  show wpAny _ _ (if (((items.size : Int) - 1) == 0 && (-1 : Int) == 1 && items.size == items.size) = true then _ else _) _ _ s
  rw [if_neg hno, rev_pick]
  first
    | exact wpAny_bind (m := Builtin.Tuple.tupleExact _) (wpAny_newObj_type (wpAny_pure ⟨_, rfl, wpAny_pure h⟩) htake)
    | exact wpAny_bind (m := Builtin.Tuple.tupleExact _) (wpAny_newObj_type (wpAny_bind (wpAny_pure (wpAny_pure ⟨_, rfl, wpAny_pure h⟩))) htake)
    | exact wpAny_bind (wpAny_bind (m := Builtin.Tuple.tupleExact _) (wpAny_newObj_type (wpAny_pure (wpAny_pure ⟨_, rfl, wpAny_pure h⟩)) htake))
    | exact wpAny_bind (wpAny_bind (m := Builtin.Tuple.tupleExact _) (wpAny_newObj_type (wpAny_pure ⟨_, rfl, wpAny_pure h⟩) htake))
end
def tRevT (K : PySem.W.Frag) (te : TE) : TE := fun σ H Q => te σ H fun x H1 => ∃ a xs, x = .ref a ∧ SqT K H1 a xs ∧ ∀ p, H1 p = none → Q (.ref p) (upd H1 p (.tup xs.reverse))
theorem pe_revT {X : Cx} {e : Expr} {te : TE} {k : Nat} {p1 p2 p3 pos : Pos} (he : PE X e te) : PE X (.Subscript e (.Slice none none (some (.UnaryOp .USub (.Constant (.int 1) k p1) p2)) p3) pos) (tRevT X.K te) := by
  refine ⟨fun pins s σ H Q I h => ?_⟩
  refine Subscript_ (thn (he.run pins s σ H _ I h) fun v s1 ⟨x, H1, I1, r1, q1⟩ => ?_)
  obtain ⟨a, xs, ex, hx, q⟩ := q1
  subst ex
  cases r1
  have hst : PO X (some (.UnaryOp .USub (.Constant (.int 1) k p1) p2)) (tPart (tUn (rU fun i => .int (-i)) (tC (.int 1)))) := po_some (pe_un un_neg pe_int)
  refine wpAny_Slice (thn (po_none.run pins s1 σ H1 (fun o H2 => o = none ∧ H2 = H1) I1 ⟨rfl, rfl⟩) fun vl s2 ⟨l, H2, I2, pl, el, e2⟩ => ?_)
  subst el e2
  refine thn (po_none.run pins s2 σ H2 (fun o H3 => o = none ∧ H3 = H2) I2 ⟨rfl, rfl⟩) fun vu s3 ⟨u, H3, I3, pu, eu, e3⟩ => ?_
  subst eu e3
  refine thn (hst.run pins s3 σ H3 (fun o H4 => o = some (-1) ∧ H4 = H3) I3 ⟨1, rfl, -1, rfl, rfl, rfl⟩) fun vs s4 ⟨o, H4, I4, ps, eo, e4⟩ => ?_
  subst eo e4
  have I5 : Inv X pins σ H4 { s4 with heap := s4.heap.push { cls := .type "slice", data := .fields #[vl, vu, vs] } } := I4.kept (t' := s4.toks) fun b ob q => Heap.get?_push_of_some _ q
  obtain ⟨its, r, ht, hz⟩ := I5.tuple hx
  have hlen := r.length
  show wpAny (model X.prog X.w) X.A (subscriptTail e (.Slice none none (some (.UnaryOp .USub (.Constant (.int 1) k p1) p2)) p3) (.ref a) (.ref s4.heap.objs.size)) (EP X pins σ Q) X.xe { s4 with heap := s4.heap.push { cls := .type "slice", data := .fields #[vl, vu, vs] } }
  refine tail_any (ops := [.ref a, .ref s4.heap.objs.size]) ht.typeIs PyProof.Rows.slot_tuple_getitem.lookup ?_ (by with_unfolding_all rfl)
  refine getItem_tuple_rev ht (Heap.IsSliceOf.new _ vl vu vs) pl pu ps ?_ (by rw [List.size_toArray]; omega)
  refine ⟨.ref _, _, I5.laid (t' := s4.toks) (o := .tup xs.reverse) (fun b ob q => Heap.get?_push_of_some _ q) (Nat.le_refl _) ?_, rfl, q _ (I5.hok.fresh (Nat.le_refl _))⟩
  exact ⟨by rw [List.length_reverse]; exact hz, _, r.reverse, ⟨_, Heap.get?_push_size _ rfl, rfl, _, rfl⟩⟩
def wRevT (w : W3) : W3 := fun env G R Ex => w env G (fun x G1 => ∃ ds, asT x = some ds ∧ R (.tup ds.reverse) G1) Ex
theorem c_revT {X : Cx} {W : WX} {e : Expr} {w : W3} {k : Nat} {p1 p2 p3 pos : Pos} (he : PE X e (up X.K W w)) : PE X (.Subscript e (.Slice none none (some (.UnaryOp .USub (.Constant (.int 1) k p1) p2)) p3) pos) (up X.K W (wRevT w)) :=
  PE.imp (pe_revT he) fun σ H Q ⟨env, G, R, Ex, re, rg, h, fe, fx⟩ => by
    refine up_go re rg h fx fun x v G1 H1 e1 rx rg1 ⟨ds, h1, h2⟩ => ?_
    obtain ⟨a, vs, rfl, sq, rl⟩ := asT_at rx h1
    exact ⟨a, vs, rfl, sq, fin_tup rl.reverse rg1 (fe.ext e1) h2⟩
/-! ### repr(x), x any plain thing -/
def fReprA : FA := fun xs G R => ∃ d, xs = [d] ∧ ReprOk d ∧ R (.str (toPr d).shown) G
def rReprA (K : PySem.W.Frag) : List V → Hp → VK → Prop := fun vs H Q => ∃ (G : GH) (d : D) (v : V), vs = [v] ∧ Rep K H G d v ∧ ReprOk d ∧ Q (.str (toPr d).shown) H
theorem call_reprA {X : Cx} (sy : sysB X.K = true) (hg : X.A.guards = some []) (hu : X.A.units + 190 < cLine) : CallR X (.builtin "repr") (rReprA X.K) := by
  rintro pins s σ H xs us Q I r ⟨G, d, v, rfl, rp, ok, q⟩
  cases r with
  | cons r1 r2 =>
    cases r2
    rename_i u
    obtain ⟨as, rd, ns⟩ := Rep.reads I sy d rp r1 ok.rd
    have obj : ∀ a, u = .ref a → wpAny (model X.prog X.w) X.A (call (.builtin "repr") [u]) (EP X pins σ Q) X.xe s := fun a e => by
      subst e
      refine repr_of_reads' rd ok.sh (fun _ => ns) hg (by have := ok.dp; omega) (fun _ _ e => e) (fun h' u tk k => ?_) ok.sz
      exact ⟨.str _, H, I.kept k, ⟨u, rfl⟩, q⟩
    cases d with
    | non =>
      obtain rfl : v = .non := rp
      cases r1
      exact PySem.P.repr_of_none ⟨.str _, H, I.tok _, ⟨_, rfl⟩, q⟩
    | bl b =>
      obtain rfl : v = .bl b := rp
      cases r1
      exact PySem.P.repr_of_bool ⟨.str _, H, I.tok _, ⟨_, rfl⟩, q⟩
    | int i =>
      obtain rfl : v = .int i := rp
      obtain ⟨t, rfl⟩ := r1
      have hs : decide (i.natAbs.log2 < 1920) = true := ok.sh
      exact PySem.P.repr_of_int (of_decide_eq_true hs) ⟨.str _, H, I.tok _, ⟨_, rfl⟩, q⟩
    | str x =>
      obtain rfl : v = .str x := rp
      obtain ⟨t, rfl⟩ := r1
      exact PySem.P.repr_of_str ⟨.str _, H, I.tok _, ⟨_, rfl⟩, q⟩ ok.sz
    | tup xs => obtain ⟨a, vs, rfl, _⟩ := rp; cases r1; exact obj a rfl
    | lst xs => obtain ⟨a, vs, rfl, _⟩ := rp; cases r1; exact obj a rfl
    | lsx xs => obtain ⟨a, vs, rfl, _⟩ := rp; cases r1; exact obj a rfl
    | dct ks xs => obtain ⟨a, vs, rfl, _⟩ := rp; cases r1; exact obj a rfl
    | ty _ => exact absurd ok.rd (by intro z; cases z)
    | ins _ _ _ => exact absurd ok.rd (by intro z; cases z)
    | ref _ => exact absurd ok.rd (by intro z; cases z)
    | tpf _ => exact absurd ok.rd (by intro z; cases z)
    | exc _ _ _ _ => exact absurd ok.rd (by intro z; cases z)
    | lam _ _ _ _ _ => exact absurd ok.rd (by intro z; cases z)
theorem lift_reprA {K : PySem.W.Frag} : LiftC K (rReprA K) fReprA := by
  rintro xs vs H G R Q r g ⟨d, rfl, ok, h⟩ fe
  obtain ⟨v, rfl, a⟩ := r.one_inv
  exact ⟨G, d, v, rfl, a, ok, fe (.str _) _ G H .refl rfl g h⟩

/-! ### str(i), str(x) -/
def fStrA : FA := fun xs G R => match xs with
  | [.int i] => i.natAbs.log2 < 1920 ∧ R (.str (toString i)) G
  | [.str x] => R (.str x) G
  | _ => False
def rStrA : List V → Hp → VK → Prop := fun xs H Q => (∃ i, xs = [.int i] ∧ i.natAbs.log2 < 1920 ∧ Q (.str (toString i)) H) ∨ ∃ a, xs = [.str a] ∧ Q (.str a) H
theorem call_strA {X : Cx} : CallR X (.type "str") rStrA := CallR.or call_str_int SkE.call_str_str
theorem lift_strA {K : PySem.W.Frag} : LiftC K rStrA fStrA := by
  intro xs vs H G R Q r g h fe
  unfold fStrA at h
  split at h
  · obtain ⟨v, rfl, a⟩ := r.one_inv
    exact .inl ⟨_, by rw [show v = _ from a], h.1, fe (.str _) _ G H .refl rfl g h.2⟩
  · obtain ⟨v, rfl, a⟩ := r.one_inv
    exact .inr ⟨_, by rw [show v = _ from a], fe (.str _) _ G H .refl rfl g h⟩
  · exact h.elim

/-! ### is, is not of truths -/
def fIsB : F2 := fun x y G R => ∃ a b, x = .bl a ∧ y = .bl b ∧ R (.bl (a == b)) G
def fNotB : F2 := fun x y G R => ∃ a b, x = .bl a ∧ y = .bl b ∧ R (.bl (!(a == b))) G
theorem lift_isB {K : PySem.W.Frag} : Lift2 K rIsB fIsB := by
  rintro x y a b H G R Q rx ry rg ⟨c, d, rfl, rfl, h⟩ fe
  refine ⟨c, d, rx, ry, ?_⟩
  have e : decide (c = d) = (c == d) := by cases c <;> cases d <;> rfl
  rw [e]
  exact fe (.bl _) _ G H .refl rfl rg h
theorem lift_notB {K : PySem.W.Frag} : Lift2 K rNotB fNotB := by
  rintro x y a b H G R Q rx ry rg ⟨c, d, rfl, rfl, h⟩ fe
  refine ⟨c, d, rx, ry, ?_⟩
  have e : decide (c = d) = (c == d) := by cases c <;> cases d <;> rfl
  rw [e]
  exact fe (.bl _) _ G H .refl rfl rg h
theorem eqB {a b : Bool} {G : GH} {R : K3} : fEq (.bl a) (.bl b) G R = R (.bl (a == b)) G := by
  apply propext
  have e : eq3 (.bl a) (.bl b) = (a == b) := by cases a <;> cases b <;> rfl
  exact ⟨fun h => e ▸ h.2.2, fun h => ⟨rfl, rfl, e.symm ▸ h⟩⟩
theorem neB {a b : Bool} {G : GH} {R : K3} : fNe (.bl a) (.bl b) G R = R (.bl (!(a == b))) G := by
  apply propext
  have e : eq3 (.bl a) (.bl b) = (a == b) := by cases a <;> cases b <;> rfl
  exact ⟨fun h => e ▸ h.2.2, fun h => ⟨rfl, rfl, e.symm ▸ h⟩⟩

/-! ### a, b, c = x, y, z; t * k -/
def wPar3 (i j k : Nat) (ar : A3) : S3 := fun E env G => ar env G (fun ds G1 => match ds with
  | [x, y, z] => E.nx (((env.set i (some x)).set j (some y)).set k (some z)) G1
  | _ => False) E.ex
theorem s_par3 {X : Cx} {W : WX} (i j l : Nat) {x y z : Str} {a b c : Expr} {ar : A3} {px py pz pt pos : Pos} {kt k2 pt2} (hc : X.calm = true) (hN : X.N.Nodup) (hi : X.N[i]? = some x) (hj : X.N[j]? = some y) (hl : X.N[l]? = some z) (hij : i ≠ j) (hil : i ≠ l) (hjl : j ≠ l)
    (hx : X.env.scope.names.lookup x = some .local) (hy : X.env.scope.names.lookup y = some .local) (hz : X.env.scope.names.lookup z = some .local) (ha : PA X [a, b, c] (upA X.K W ar))
    (hw : swappedStores [.Tuple [.Name x px, .Name y py, .Name z pz] kt pt] (.Tuple [a, b, c] k2 pt2) X.env = pure (some [x, y, z]))
    (hs : swapsWithSole [.Tuple [.Name x px, .Name y py, .Name z pz] kt pt] (.Tuple [a, b, c] k2 pt2) pos.line X.env = pure false := by rfl) :
    PS X (.Assign [.Tuple [.Name x px, .Name y py, .Name z pz] kt pt] (.Tuple [a, b, c] k2 pt2) pos) (upS X.K W (wPar3 i j l ar)) := PS.imp (ps_par3 hc hN hi hj hl hij hil hjl hx hy hz ha hw hs) fun D σ H ⟨env, G, E, re, rg, h, f⟩ =>
  upA_go re rg h f.ex fun ds vs G1 H1 e1 rd rg1 h1 => by
    rcases ds with _ | ⟨x, _ | ⟨y, _ | ⟨z, _ | ⟨u, us⟩⟩⟩⟩
    · exact h1.elim
    · exact h1.elim
    · exact h1.elim
    · obtain ⟨v, r1, q1, a1, v2, r2, q2, a2, v3, r3, q3, a3, q4⟩ := rd
      have q4 : r3 = [] := q4
      subst q4 q3 q2 q1
      exact ⟨v, v2, v3, rfl, f.nx _ _ G1 H1 e1 ((((re.ext e1).set a1 i).set a2 j).set a3 l) rg1 h1⟩
    · exact h1.elim
def fRepT : F2 := fun x y G R => ∃ xs k, x = .tup xs ∧ y = .int k ∧ xs ≠ [] ∧ 2 ≤ k ∧ k ≤ 1000 ∧ xs.length ≤ 1000 ∧ R (.tup (List.replicate k.toNat xs).flatten) G
theorem lift_repT {K : PySem.W.Frag} : Lift2 K (rRepT K) fRepT := by
  rintro x y a b H G R Q rx ry rg ⟨xs, k, rfl, rfl, h1, h2, h3, h4, h5⟩ fe
  obtain ⟨p, vs, rfl, sq, rl⟩ := asT_at rx (show asT (.tup xs) = some xs from rfl)
  have hn : vs ≠ [] := fun e => h1 (List.length_eq_zero_iff.mp (by rw [← rl.length, e]; rfl))
  exact ⟨p, k, vs, rfl, ry, sq, hn, h2, h3, by rw [rl.length]; exact h4, fin_tup (rl.reps _) rg fe h5⟩
end L3

set_option Elab.async false
set_option linter.all false
set_option maxRecDepth 100000
namespace L3
open PySem PySem.Spec L2
open PyProof.Rows hiding St

/-! ### loops by place -/
theorem lp_ix {st : GH → Prop} {g : G3} {b : S3} {E : E3} (ds : List D) (I : Nat → Env3 → GH → Prop) (hst : ∀ i env G, I i env G → st G)
    (step : ∀ i d, ds[i]? = some d → ∀ env G N, I i env G → (∀ env' G', I (i + 1) env' G' → N env' G') → g d env G fun env1 G1 => b { E with nx := N, ct := N, bk := E.nx } env1 G1)
    (fin : ∀ env G, I ds.length env G → E.nx env G) : ∀ env G, I 0 env G → lp st g b E ds env G := by
  have main : ∀ (r : List D) (k : Nat), (∀ i d, r[i]? = some d → ds[k + i]? = some d) → k + r.length = ds.length → ∀ env G, I k env G → lp st g b E r env G := by
    intro r
    induction r with
    | nil =>
      intro k hk hl env G h
      rw [List.length_nil, Nat.add_zero] at hl
      subst hl
      exact ⟨hst _ _ _ h, fin env G h⟩
    | cons d r ih =>
      intro k hk hl env G h
      refine ⟨hst _ _ _ h, step k d (by simpa using hk 0 d rfl) env G _ h fun env' G' h' => ih (k + 1) (fun i e he => ?_) (by rw [List.length_cons] at hl; omega) env' G' h'⟩
      have := hk (i + 1) e (by simpa using he)
      rw [show k + 1 + i = k + (i + 1) by omega]
      exact this
  intro env G h
  exact main ds 0 (fun i d h => by rw [Nat.zero_add]; exact h) (by omega) env G h
/-- the same where the item is known to be in the list -/
theorem lp_in {st : GH → Prop} {g : G3} {b : S3} {E : E3} (I : Env3 → GH → Prop) (hst : ∀ env G, I env G → st G) (ds : List D)
    (step : ∀ d ∈ ds, ∀ env G N, I env G → (∀ env' G', I env' G' → N env' G') → g d env G fun env1 G1 => b { E with nx := N, ct := N, bk := E.nx } env1 G1) (fin : ∀ env G, I env G → E.nx env G) :
    ∀ env G, I env G → lp st g b E ds env G :=
  lp_ix ds (fun _ => I) (fun _ => hst) (fun i d h env G N hI hN => step d (List.mem_of_getElem? h) env G N hI hN) fin
theorem enum_get {xs : List D} {i : Nat} {d : D} (h : (enumD xs)[i]? = some d) : ∃ x, xs[i]? = some x ∧ d = .tup [.int (i : Nat), x] := by
  unfold enumD at h
  rw [List.getElem?_map, List.getElem?_zipIdx] at h
  cases e : xs[i]? with
  | none => rw [e] at h; cases h
  | some x =>
    rw [e] at h
    cases h
    exact ⟨x, rfl, by simp⟩
theorem enum_len {xs : List D} : (enumD xs).length = xs.length := by simp [enumD]
theorem zip_get' {xs ys : List D} {i : Nat} {d : D} (h : (zipD xs ys)[i]? = some d) : ∃ x y, xs[i]? = some x ∧ ys[i]? = some y ∧ d = .tup [x, y] := by
  unfold zipD at h
  rw [List.getElem?_zipWith] at h
  cases e : xs[i]? with
  | none => rw [e] at h; cases h
  | some x =>
    cases e2 : ys[i]? with
    | none => rw [e, e2] at h; cases h
    | some y =>
      rw [e, e2] at h
      cases h
      exact ⟨x, y, rfl, rfl, rfl⟩
theorem zip_len {xs ys : List D} : (zipD xs ys).length = min xs.length ys.length := by simp [zipD]
/-! ### slices by a place -/
theorem cut_upto {xs : List D} {j : Nat} : cutD xs none (some (j : Int)) = xs.take j := by
  unfold cutD
  show (xs.drop 0).take ((if (j : Int) < 0 then ((j : Int) + (xs.length : Int)).toNat else min (j : Int).toNat xs.length) - 0) = _
  rw [if_neg (by omega), List.drop_zero, Nat.sub_zero, Int.toNat_natCast]
  by_cases q : j ≤ xs.length
  · rw [Nat.min_eq_left q]
  · rw [Nat.min_eq_right (by omega), List.take_of_length_le (Nat.le_refl _), List.take_of_length_le (by omega)]
theorem cut_from {xs : List D} {j : Nat} : cutD xs (some (j : Int)) none = xs.drop j := by
  have e : HT.sIx xs.length 0 (some (j : Int)) = min j xs.length := HT.sIx_nat _ _ _
  unfold cutD
  rw [e, HT.sIx_none]
  by_cases q : j ≤ xs.length
  · rw [Nat.min_eq_left q, List.take_of_length_le]
    rw [List.length_drop]
    exact Nat.le_refl _
  · rw [Nat.min_eq_right (by omega), List.drop_of_length_le (Nat.le_refl _), List.drop_of_length_le (by omega), List.take_nil]
theorem sl_t {xs : List D} {lo hi : Option Int} {G : GH} {R : K3} : fSl (.tup xs) lo hi G R = R (.tup (cutD xs lo hi)) G := rfl
theorem add_t {xs ys : List D} {G : GH} {R : K3} : fAdd (.tup xs) (.tup ys) G R = (xs.length + ys.length ≤ sizeLine ∧ R (.tup (xs ++ ys)) G) := rfl
theorem ix_t {xs : List D} {i : Nat} {d : D} {G : GH} {R : K3} (h : xs[i]? = some d) : fIx (.tup xs) (.int (i : Nat)) G R = R d G := ix_tup (atD_nat h)
theorem ix_l {xs : List D} {i : Nat} {d : D} {G : GH} {R : K3} (h : xs[i]? = some d) : fIx (.lst xs) (.int (i : Nat)) G R = R d G := ix_lst (atD_nat h)
theorem size_small {n : Nat} (h : n ≤ 1000000) : n ≤ sizeLine := by rw [sizeLine_eq]; omega

/-! ### == of plain data, at any depth -/
mutual
def eqOk : D → Bool
  | .non => true
  | .bl _ => true
  | .int _ => true
  | .str x => PyData.canLay0 (.str x)
  | .tup xs => eqOkL xs
  | .lst xs => eqOkL xs
  | .lsx xs => eqOkL xs
  | _ => false
def eqOkL : List D → Bool
  | [] => true
  | x :: xs => eqOk x && eqOkL xs
end
mutual
def dpt : D → Nat
  | .tup xs => dptL xs + 1
  | .lst xs => dptL xs + 1
  | .lsx xs => dptL xs + 1
  | _ => 0
def dptL : List D → Nat
  | [] => 0
  | x :: xs => max (dpt x) (dptL xs)
end
mutual
theorem eqOk_lay : ∀ d : D, eqOk d = true → PyData.canLay0 (toPy d) = true ∧ flat3 d = true ∧ (toPy d).depth = dpt d
  | .non, _ => ⟨rfl, rfl, rfl⟩
  | .bl _, _ => ⟨rfl, rfl, rfl⟩
  | .int _, _ => ⟨rfl, rfl, rfl⟩
  | .str x, h => ⟨h, rfl, rfl⟩
  | .tup xs, h => by
    obtain ⟨a, b, c⟩ := eqOk_layL xs h
    exact ⟨a, b, by show PyData.depthAll (toPyL xs) + 1 = dptL xs + 1; rw [c]⟩
  | .lst xs, h => by
    obtain ⟨a, b, c⟩ := eqOk_layL xs h
    exact ⟨a, b, by show PyData.depthAll (toPyL xs) + 1 = dptL xs + 1; rw [c]⟩
  | .lsx xs, h => by
    obtain ⟨a, b, c⟩ := eqOk_layL xs h
    exact ⟨a, b, by show PyData.depthAll (toPyL xs) + 1 = dptL xs + 1; rw [c]⟩
  | .dct _ _, h => by cases h
  | .ty _, h => by cases h
  | .ins _ _ _, h => by cases h
  | .ref _, h => by cases h
  | .tpf _, h => by cases h
  | .exc _ _ _ _, h => by cases h
  | .lam _ _ _ _ _, h => by cases h
theorem eqOk_layL : ∀ ds : List D, eqOkL ds = true → PyData.canLayAll0 (toPyL ds) = true ∧ flat3L ds = true ∧ PyData.depthAll (toPyL ds) = dptL ds
  | [], _ => ⟨rfl, rfl, rfl⟩
  | d :: ds, h => by
    simp only [eqOkL, Bool.and_eq_true] at h
    obtain ⟨a, b, c⟩ := eqOk_lay d h.1
    obtain ⟨a', b', c'⟩ := eqOk_layL ds h.2
    refine ⟨?_, ?_, ?_⟩
    · show (PyData.canLay0 (toPy d) && PyData.canLayAll0 (toPyL ds)) = true
      rw [a, a']; rfl
    · show (flat3 d && flat3L ds) = true
      rw [b, b']; rfl
    · show max (toPy d).depth (PyData.depthAll (toPyL ds)) = max (dpt d) (dptL ds)
      rw [c, c']
end
theorem okEq_of {d : D} (h : eqOk d = true) (hd : dpt d ≤ 64) : okEq d = true := by
  obtain ⟨a, b, c⟩ := eqOk_lay d h
  unfold okEq SeqAt.shaped
  rw [b, a, c]
  simp only [Bool.true_and, decide_eq_true_eq]
  exact hd
theorem eq3_refl {d : D} (h : eqOk d = true) : eq3 d d = true := PySem.SeqAt.eqv_refl _ (eqOk_lay d h).1
theorem eqOk_ints {l : List Int} : eqOkL (l.map D.int) = true ∧ dptL (l.map D.int) = 0 := by
  induction l with
  | nil => exact ⟨rfl, rfl⟩
  | cons a l ih =>
    simp only [List.map_cons, eqOkL, dptL, eqOk, dpt, ih.1, ih.2, Bool.and_self, Nat.max_self, and_self]
theorem eq_same {d : D} {G : GH} {R : K3} (hs : ∀ x, d ≠ .str x) (h : eqOk d = true) (hd : dpt d ≤ 64) (q : R (.bl true) G) : fEq d d G R := by
  have r : okEq d = true ∧ okEq d = true ∧ R (.bl (eq3 d d)) G := ⟨okEq_of h hd, okEq_of h hd, by rw [eq3_refl h]; exact q⟩
  cases d with
  | str x => exact absurd rfl (hs x)
  | _ => exact r
theorem ne_same {d : D} {G : GH} {R : K3} (hs : ∀ x, d ≠ .str x) (h : eqOk d = true) (hd : dpt d ≤ 64) (q : R (.bl false) G) : fNe d d G R := by
  have r : okEq d = true ∧ okEq d = true ∧ R (.bl (!eq3 d d)) G := ⟨okEq_of h hd, okEq_of h hd, by rw [eq3_refl h]; exact q⟩
  cases d with
  | str x => exact absurd rfl (hs x)
  | _ => exact r
end L3

set_option Elab.async false
set_option linter.all false
set_option maxRecDepth 100000
namespace L3
open PySem PySem.Spec L2
open PyProof.Rows hiding St

/-! ### a list or a tuple walked, whichever it is -/
def iSeqR (K : PySem.W.Frag) (tl : TE) : TI := fun σ H R => tl σ H fun x H1 => ∃ a, x = .ref a ∧ (((∃ xs, SqL K H1 a xs) ∧ R (Itl K a) H1) ∨ ((∃ xs, SqT K H1 a xs) ∧ R (Itt K a) H1))
theorem pi_seqR {X : Cx} {tg l : Expr} {tl : TE} (hl : PE X l tl) : PI X tg l (iSeqR X.K tl) := by
  refine ⟨fun pins s σ H R I h => ?_⟩
  refine thn (hl.run pins s σ H _ I h) fun v s1 ⟨x, H1, I1, r1, q1⟩ => ?_
  obtain ⟨a, e, q1⟩ := q1
  subst e
  cases r1
  rcases q1 with ⟨⟨xs, hq⟩, q⟩ | ⟨⟨xs, hq⟩, q⟩
  · obtain ⟨its, rv, p, hz⟩ := I1.list hq
    refine wpAny_pyIter_list p.isList ?_
    refine ⟨s1.heap.objs.size, [s1.heap.objs.size], _, _, H1, rfl, I1.kept (t' := s1.toks) fun b o e => Heap.get?_push_of_some _ e, turn_list a _, ⟨_, Heap.get?_push_size _ rfl, rfl, rfl⟩, fun b hb => ?_, q⟩
    have e : b = s1.heap.objs.size := by simpa using hb
    subst e
    exact I1.fpOk (Nat.le_refl _) (I1.hok.fresh (Nat.le_refl _))
  · obtain ⟨its, rv, p, hz⟩ := I1.tuple hq
    refine wpAny_pyIter_tuple (show s1.heap.IsTuple a its.toArray from p) ?_
    refine ⟨s1.heap.objs.size, [s1.heap.objs.size], _, _, H1, rfl, I1.kept (t' := s1.toks) fun b o e => Heap.get?_push_of_some _ e, turn_tuple a _, ⟨_, Heap.get?_push_size _ rfl, rfl, rfl⟩, fun b hb => ?_, q⟩
    have e : b = s1.heap.objs.size := by simpa using hb
    subst e
    exact I1.fpOk (Nat.le_refl _) (I1.hok.fresh (Nat.le_refl _))
def iSq (w : W3) : I3 := fun env G R Ex => w env G (fun x G1 => ∃ ds, asS G1 x = some ds ∧ R ds (stL x ds) G1) Ex
theorem i_seq {X : Cx} {W : WX} {tg l : Expr} {w : W3} (hl : PE X l (up X.K W w)) : PI X tg l (upI X.K W (iSq w)) := PI.imp (pi_seqR hl) fun σ H R ⟨env, G, R3, Ex, re, rg, h, fx, f⟩ => by
  refine up_go re rg h fx fun x v G1 H1 e1 rx rg1 ⟨ds, h1, h2⟩ => ?_
  cases x with
  | tup xs =>
    obtain ⟨a, vs, rfl, k, rl⟩ := rx
    have e : xs = ds := Option.some.inj h1
    subst e
    exact ⟨a, rfl, .inr ⟨⟨vs, k.sq⟩, f _ H1 G1 xs _ e1 rg1 (itd_tup k rl) h2⟩⟩
  | _ =>
    obtain ⟨a, vs, rfl, sq, rl⟩ := asL_at rx rg1 (show asL G1 _ = some ds from h1)
    exact ⟨a, rfl, .inl ⟨⟨vs, sq⟩, f _ H1 G1 ds _ e1 rg1 (itd_list rx rg1 h1) h2⟩⟩
end L3

set_option Elab.async false
set_option linter.all false
set_option maxRecDepth 100000
namespace L3
open PySem PySem.Spec L2
open PyProof.Rows hiding St
open PySem.W (KdxIt kdx_alive)
open Builtin
/-! ### dict(enumerate(x)), x a list or a tuple -/
section
variable {prog : Program} {w : World} {A : Around} {E : Value → Shared → Prop} {s : Shared}
/-- the next pair while the tuple that was given out before is still there -/
theorem enum_next_heldD {e it T : Addr} {fp : List Addr} {n i : Nat} {P : Nat → Value → Prop} {St : Nat → Heap → Prop} {old : Value} {f : Bool} {oT : Obj} {Q : Value → Shared → Prop}
    (D : Draws prog w A it fp n P St) (he : IsEnumHeld s.heap e it i old T f) (hT : s.heap.get? T = some oT) (hTe : T ≠ e) (hTi : T ≠ it) (hst : St i s.heap) (hlt : i < n) (hne : e ≠ it) (hef : e ∉ fp)
    (hQ : ∀ x h' tk, P i x → IsEnumHeld h' e it ((i : Int) + 1) old T true → St (i + 1) h' →
      h'.get? s.heap.objs.size = some { cls := .type "tuple", data := .seq #[.int i tk, x] } → h'.objs.size = s.heap.objs.size + 1 →
      (∀ b o, b ≠ e → b ≠ it → s.heap.get? b = some o → h'.get? b = some o) → Q (.ref s.heap.objs.size) { s with heap := h', toks := tk + 1 }) :
    wpAny (model prog w) A (Builtin.«enumerate.__next__» ⟨[.ref e], []⟩) (fun fin s' => ∃ v, fin = .done (.ret v) ∧ Q v s') E s := by
  obtain ⟨hp, g, d, tk₀, os⟩ := s
  show wpAny _ _ (field (.ref e) 2 >>= _) _ _ _
  refine wpAny_bind (wpAny_field he rfl (x := .ref it) rfl ?_)
  refine wpAny_bind (D.item i _ _ _ hlt hst fun x h₁ tk hPx hit₁ hs₁ => ?_)
  replace hs₁ : Heap.SameBut it hp h₁ := hs₁
  have he₁ : IsEnumHeld h₁ e it i old T f := (hs₁.2 e hne).trans he
  show wpAny _ _ (field (.ref e) 3 >>= _) _ _ ⟨h₁, g, d, tk, os⟩
  refine wpAny_bind (wpAny_field he₁ rfl (x := rawInt i) rfl ?_)
  show wpAny _ _ (field (.ref e) 4 >>= _) _ _ ⟨h₁, g, d, tk, os⟩
  refine wpAny_bind (wpAny_field he₁ rfl (x := .none) rfl ?_)
  show wpAny _ _ (mkInt i >>= _) _ _ ⟨h₁, g, d, tk, os⟩
  refine wpAny_bind (wpAny_mkInt ?_)
  show wpAny _ _ (setField (.ref e) 3 (rawInt ((i : Int) + 1)) >>= _) _ _ ⟨h₁, g, d, tk + 1, os⟩
  refine wpAny_bind (wpAny_setField_rec he₁ (by simp) fun h₂ he₂ hs₂ => ?_)
  replace hs₂ : Heap.SameBut e h₁ h₂ := hs₂
  replace he₂ : IsEnumHeld h₂ e it ((i : Int) + 1) old T f := he₂
  show wpAny _ _ (setField (.ref e) 4 .none >>= _) _ _ ⟨h₂, g, d, tk + 1, os⟩
  refine wpAny_bind (wpAny_setField_rec he₂ (by simp) fun h₃ he₃ hs₃ => ?_)
  replace hs₃ : Heap.SameBut e h₂ h₃ := hs₃
  replace he₃ : IsEnumHeld h₃ e it ((i : Int) + 1) old T f := he₃
  show wpAny _ _ (newTuple [.int i tk, x] >>= _) _ _ ⟨h₃, g, d, tk + 1, os⟩
  refine wpAny_bind (wpAny_newTuple ?_)
  have he₄ : IsEnumHeld (h₃.push { cls := .type "tuple", data := .seq #[.int i tk, x] }) e it ((i : Int) + 1) old T f := Heap.get?_push_of_some _ he₃
  generalize hh₄ : h₃.push { cls := .type "tuple", data := .seq #[.int i tk, x] } = h₄ at he₄
  have hsz : h₃.objs.size = hp.objs.size := by rw [hs₃.1, hs₂.1, hs₁.1]
  have hel : e < hp.objs.size := Heap.lt_size he
  have ht₄ : h₄.get? hp.objs.size = some { cls := .type "tuple", data := .seq #[.int i tk, x] } := by rw [← hh₄, ← hsz]; exact Heap.get?_push_size _ rfl
  have hz₄ : h₄.objs.size = hp.objs.size + 1 := by rw [← hh₄, Heap.size_push, hsz]
  have hk₄ : ∀ b o, b ≠ e → b ≠ it → hp.get? b = some o → h₄.get? b = some o := fun b o hbe hbi hb => by
    rw [← hh₄]; exact Heap.get?_push_of_some _ (hs₃.extBut b o hbe (hs₂.extBut b o hbe (hs₁.extBut b o hbi hb)))
  have hit₄ : St (i + 1) h₄ := D.frame _ _ _ hit₁ fun b hb o y => by
    have hbe : b ≠ e := fun q => hef (q ▸ hb)
    rw [← hh₄]; exact Heap.get?_push_of_some _ (hs₃.extBut b o hbe (hs₂.extBut b o hbe y))
  show wpAny _ _ (Builtin.SmallTypes.ownedTupleIsFree (.ref e) >>= _) _ _ ⟨h₄, g, d, tk + 1, os⟩
  rw [hsz]
  clear hh₄ he₃ hs₃ he₂ hs₂ he₁ hs₁ hit₁ hsz h₃ h₂ h₁
  refine wpAny_bind (wpAny_tupleHeld_enum (s := ⟨h₄, g, d, tk + 1, os⟩) he₄ (hk₄ T oT hTe hTi hT) fun h₅ he₅ hs₅ => ?_)
  replace hs₅ : Heap.SameBut e h₄ h₅ := hs₅
  simp only [Bool.false_eq_true, if_false]
  refine wpAny_pure ⟨_, rfl, hQ x h₅ tk hPx he₅ (D.frame _ _ _ hit₄ fun b hb o y => hs₅.extBut b o (fun q => hef (q ▸ hb)) y) (hs₅.extBut _ _ (Nat.ne_of_gt hel) ht₄) ?_ fun b o hbe hbi hb => hs₅.extBut b o hbe (hk₄ b o hbe hbi hb)⟩
  show h₅.objs.size = hp.objs.size + 1
  rw [hs₅.1, hz₄]
theorem pyNext_enum_heldD {e it T : Addr} {fp : List Addr} {n i : Nat} {P : Nat → Value → Prop} {St : Nat → Heap → Prop} {old : Value} {f : Bool} {oT : Obj} {Q : Option Value → Shared → Prop}
    (D : Draws prog w A.in1 it fp n P St) (he : IsEnumHeld s.heap e it i old T f) (hT : s.heap.get? T = some oT) (hTe : T ≠ e) (hTi : T ≠ it) (hst : St i s.heap) (hlt : i < n) (hne : e ≠ it) (hef : e ∉ fp)
    (hQ : ∀ x h' tk, P i x → IsEnumHeld h' e it ((i : Int) + 1) old T true → St (i + 1) h' →
      h'.get? s.heap.objs.size = some { cls := .type "tuple", data := .seq #[.int i tk, x] } → h'.objs.size = s.heap.objs.size + 1 →
      (∀ b o, b ≠ e → b ≠ it → s.heap.get? b = some o → h'.get? b = some o) → Q (some (.ref s.heap.objs.size)) { s with heap := h', toks := tk + 1 }) :
    wpAny (model prog w) A (pyNext (.ref e)) Q E s := by
  have hTy : s.TypeIs (.ref e) "enumerate" := ⟨_, he, rfl⟩
  unfold pyNext
  exact wpAny_bind (wpAny_attempt (wpAny_callSpecial?_slot (name := Str.ofString "__next__") hTy F.slot_enumerate_next
    (wpAny_call_entry F.slot_enumerate_next hTy F.entry_enumerate_next
      (enum_next_heldD D he hT hTe hTi hst hlt hne hef fun x h' tk a b c d k q => wpAny_pure (hQ x h' tk a b c d k q)) (F.args_enumerate_next_1 _))))
theorem pyNext_enum_end_heldD {e it T : Addr} {fp : List Addr} {n : Nat} {P : Nat → Value → Prop} {St : Nat → Heap → Prop} {i : Int} {old : Value} {f : Bool} {Q : Option Value → Shared → Prop}
    (D : Draws prog w A.in1 it fp n P St) (he : IsEnumHeld s.heap e it i old T f) (hst : St n s.heap)
    (hQ : ∀ h', Heap.ExtBut it s.heap h' → Q none { s with heap := h' }) : wpAny (model prog w) A (pyNext (.ref e)) Q E s := by
  have hTy : s.TypeIs (.ref e) "enumerate" := ⟨_, he, rfl⟩
  unfold pyNext
  refine wpAny_bind (wpAny_attempt (wpAny_callSpecial?_slot (name := Str.ofString "__next__") hTy F.slot_enumerate_next
    (wpAny_call_entry F.slot_enumerate_next hTy F.entry_enumerate_next ?_ (F.args_enumerate_next_1 _))))
  show wpAny _ _ (field (.ref e) 2 >>= _) _ _ _
  refine wpAny_bind (wpAny_field he rfl (x := .ref it) rfl ?_)
  refine wpAny_bind (D.done _ _ _ hst fun h' x he' hx' => ?_)
  obtain ⟨o, ho, hc⟩ := hx'
  refine wpAny_bind (wpAny_isInstance (T := "StopIteration") (b := true) ⟨o, ho, hc⟩ isSubtype_stop ?_)
  exact wpAny_pure (hQ _ he')
end
theorem pairArg_enumX {prog : Program} {w : World} (e it a : Addr) (l : Bool) (hei : e ≠ it) (hae : a ≠ e) (hai : a ≠ it) (items : Array Value) :
    PairArg prog w "enumerate" e [e, it, a] [e, it] items.size (fun i k v => (∃ t, k = .int i t) ∧ items[i]? = some v)
      (fun h => (∃ old, IsEnum h e it 0 old) ∧ IterX h it a 0 l ∧ SeqX h a items l) where
  type := fun s ok => let ⟨⟨_, he⟩, _⟩ := ok; ⟨_, he, rfl⟩
  notDict := by decide
  keep := fun h h' ok hk => by
    obtain ⟨⟨old, he⟩, hit, hl⟩ := ok
    exact ⟨⟨old, hk _ _ he⟩, hit.at fun o x => hk _ o x, hl.at fun o x => hk _ o x⟩
  there := fun h ok b hb => by
    obtain ⟨⟨old, he⟩, hit, hl⟩ := ok
    simp only [List.mem_cons, List.not_mem_nil, or_false] at hb
    rcases hb with rfl | rfl | rfl
    · exact ⟨_, he⟩
    · obtain ⟨o, q, _⟩ := hit.obj
      exact ⟨o, q⟩
    · cases l with
      | true => obtain ⟨o, q, _⟩ := hl; exact ⟨o, q⟩
      | false => obtain ⟨o, q, _⟩ := hl; exact ⟨o, q⟩
  sub := fun b hb => by simp at hb ⊢; rcases hb with rfl | rfl <;> simp
  noKeys := fun A s Q E hA ok h => let ⟨⟨_, he⟩, _⟩ := ok; getAttrOr_miss_enumerate he rfl rfl rfl enumerate_no_keys (by decide +kernel) hA h
  iter := fun A s d Q E hA ok hd hdf h => by
    obtain ⟨⟨old, he⟩, hit, hl⟩ := ok
    simp only [List.mem_cons, List.not_mem_nil, or_false, not_or] at hdf
    obtain ⟨de, dit, dl⟩ := hdf
    have D : Draws prog w A.in1 it [it, a] items.size (fun i v => items[i]? = some v) (fun i h => IterX h it a i l ∧ SeqX h a items l) := drawsX (A := A.in1) hA hai (its := items) (l := l)
    have hef : e ∉ [it, a] := by simp only [List.mem_cons, List.not_mem_nil, or_false, not_or]; exact ⟨hei, fun z => hae z.symm⟩
    refine wpAny_pyIter_enum he (h e [e, it] (fun i h => (IterX h it a i l ∧ SeqX h a items l) ∧ ((∃ old, IsEnum h e it i old) ∨ ∃ old T f oT, IsEnumHeld h e it i old T f ∧ h.get? T = some oT ∧ T ≠ e ∧ T ≠ it ∧ T ≠ d)) s.heap s.toks ?_
      ⟨⟨hit, hl⟩, .inl ⟨old, he⟩⟩ (fun _ _ e => e) fun b hb => .inl hb)
    exact {
      off := fun hm => by
        simp only [List.mem_cons, List.not_mem_nil, or_false] at hm
        rcases hm with x | x
        · exact de x
        · exact dit x
      frame := fun i h₁ h₂ st hk => by
        obtain ⟨⟨hit, hl⟩, he⟩ := st
        refine ⟨⟨hit.at fun o x => hk _ o (Ne.symm dit) x, hl.at fun o x => hk _ o (Ne.symm dl) x⟩, ?_⟩
        rcases he with ⟨old, he⟩ | ⟨old, T, f, oT, he, hT, r1, r2, r3⟩
        · exact .inl ⟨old, hk _ _ (Ne.symm de) he⟩
        · exact .inr ⟨old, T, f, oT, hk _ _ (Ne.symm de) he, hk _ _ r3 hT, r1, r2, r3⟩
      item := fun i s₁ Q₁ E₁ hi st hds hQ => by
        obtain ⟨hst, he⟩ := st
        have ec : ((i + 1 : Nat) : Int) = (i : Int) + 1 := by omega
        have nit : s₁.heap.objs.size ≠ it := let ⟨_, x, _⟩ := hst.1.obj; Nat.ne_of_gt (Heap.lt_size x)
        rcases he with ⟨old, he⟩ | ⟨old, T, f, oT, he, hT, r1, r2, r3⟩
        · refine wpAny_pyNext_enum_itemD D he hst hi hei hef fun v h' tk hv ho hst' hT hsz hk => ?_
          exact hQ s₁.heap.objs.size _ _ h' (tk + 1) ⟨⟨_, rfl⟩, hv⟩ (.inl ⟨_, hT, rfl, _, rfl⟩)
            ⟨hst', .inr ⟨_, s₁.heap.objs.size, false, _, (by rw [ec]; exact ho), hT, Nat.ne_of_gt (Heap.lt_size he), nit, Nat.ne_of_gt hds⟩⟩
            fun b o hb x => hk b o (fun y => hb (by simp [y])) (fun y => hb (by simp [y])) x
        · refine pyNext_enum_heldD D he hT r1 r2 hst hi hei hef fun v h' tk hv ho hst' hT' hsz hk => ?_
          exact hQ s₁.heap.objs.size _ _ h' (tk + 1) ⟨⟨_, rfl⟩, hv⟩ (.inl ⟨_, hT', rfl, _, rfl⟩)
            ⟨hst', .inr ⟨old, T, true, oT, (by rw [ec]; exact ho), hk _ _ r1 r2 hT, r1, r2, r3⟩⟩
            fun b o hb x => hk b o (fun y => hb (by simp [y])) (fun y => hb (by simp [y])) x
      done := fun s₁ Q₁ E₁ st hQ => by
        obtain ⟨hst, he⟩ := st
        rcases he with ⟨old, he⟩ | ⟨old, T, f, oT, he, hT, r1, r2, r3⟩
        · exact wpAny_pyNext_enum_endD D he hst fun h' hk => hQ h' s₁.toks fun b o hb x => hk b o (fun y => hb (by simp [y])) x
        · exact pyNext_enum_end_heldD D he hst fun h' hk => hQ h' s₁.toks fun b o hb x => hk b o (fun y => hb (by simp [y])) x }
/-- what stands in it -/
def enumKV {α : Type} (xs : List α) : List (Key × α) := xs.zipIdx.map fun p => (.inl (p.2 : Int), p.1)
theorem mergeK_new : ∀ (more kvs : List (Key × V)), (∀ p ∈ more, valV kvs p.1 = none) → (more.map (·.1)).Nodup → mergeK kvs more = kvs ++ more
  | [], kvs, _, _ => by simp [mergeK]
  | p :: more, kvs, h, hn => by
    have h0 := h p (by simp)
    have e : mergeK kvs (p :: more) = mergeK (putK kvs p.1 p.2) more := rfl
    rw [e, putK_new _ h0, mergeK_new more _ (fun q hq => ?_) (List.nodup_cons.mp hn).2, List.append_assoc]
    · rfl
    · have hne : p.1 ≠ q.1 := fun z => (List.nodup_cons.mp hn).1 (by show p.1 ∈ _; rw [z]; exact List.mem_map.mpr ⟨q, hq, rfl⟩)
      have hq0 := h q (by simp [hq])
      have a1 := valV_any q.1 (kvs ++ [(p.1, p.2)])
      have a2 := valV_any q.1 kvs
      rw [hq0] at a2
      rw [List.any_append, a2] at a1
      simp only [List.any_cons, List.any_nil, Option.isSome_none, Bool.false_or, Bool.or_false] at a1
      rw [decide_eq_false hne] at a1
      cases hv : valV (kvs ++ [(p.1, p.2)]) q.1 with
      | none => rfl
      | some _ => rw [hv] at a1; cases a1
theorem enumKV_keys {α : Type} (xs : List α) : (enumKV xs).map (·.1) = (List.range xs.length).map fun i : Nat => (Sum.inl (i : Int) : Key) := by
  unfold enumKV
  refine List.ext_getElem? fun i => ?_
  rw [List.getElem?_map, List.getElem?_map, List.getElem?_map, List.getElem?_zipIdx]
  by_cases h : i < xs.length
  · rw [List.getElem?_eq_getElem h, List.getElem?_range h]
    simp
  · rw [List.getElem?_eq_none (by omega), List.getElem?_eq_none (l := List.range xs.length) (by rw [List.length_range]; omega)]
    rfl
theorem enumKV_vals {α : Type} (xs : List α) : (enumKV xs).map (·.2) = xs := by
  unfold enumKV
  refine List.ext_getElem? fun i => ?_
  rw [List.getElem?_map, List.getElem?_map, List.getElem?_zipIdx]
  cases xs[i]? <;> rfl
theorem enumKV_nodup {α : Type} (xs : List α) : ((enumKV xs).map (·.1)).Nodup := by
  rw [enumKV_keys]
  refine List.Pairwise.map _ ?_ (List.nodup_range (n := xs.length))
  intro a b h z
  cases z
  exact h rfl
theorem enumKV_get {α : Type} {xs : List α} {i : Nat} : (enumKV xs)[i]? = xs[i]?.map fun x => (Sum.inl (i : Int), x) := by
  unfold enumKV
  rw [List.getElem?_map, List.getElem?_zipIdx]
  cases xs[i]? <;> simp
theorem enumKV_rel : ∀ {xs : List V} {us : List Value}, Vals xs us → ∀ k : Nat, KV ((xs.zipIdx k).map fun p => ((Sum.inl (p.2 : Int) : Key), p.1)) ((us.zipIdx k).map fun p => ((Sum.inl (p.2 : Int) : Key), p.1)) := by
  intro xs us r
  induction r with
  | nil => intro k; exact .nil
  | cons h _ ih =>
    intro k
    rw [List.zipIdx_cons, List.zipIdx_cons, List.map_cons, List.map_cons]
    exact .cons ⟨rfl, h⟩ (ih (k + 1))
def tDEn (K : PySem.W.Frag) (ta : TA) : TE := fun σ H Q => ta σ H fun vs H1 => ∃ a xs l, vs = [.ref a] ∧ SqX K H1 a xs l ∧ xs.length ≤ sizeLine ∧ ∀ b, H1 b = none → Q (.ref b) (upd H1 b (.dK (enumKV xs)))
theorem pe_dictEn {X : Cx} {e : Expr} {ta : TA} {p q pos pos2 : Pos} (hc : X.calm = true) (hg : Gl X "dict") (hm : X.mg "dict" = none) (hg2 : Gl X "enumerate") (hm2 : X.mg "enumerate" = none) (ha : PA X [e] ta) (hs : starEach [e] X.env = [(false, eval e X.env)] := by rfl)
    (na : starEach [.Call (.Name "enumerate" q) [e] [] pos2] X.env = (false, eval (.Call (.Name "enumerate" q) [e] [] pos2) X.env) :: starEach [] X.env := by rfl) :
    PE X (.Call (.Name "dict" p) [.Call (.Name "enumerate" q) [e] [] pos2] [] pos) (tDEn X.K ta) := by
  refine ⟨fun pins s σ H Q I h => ?_⟩
  refine Call_ (ld_blt I hg hm boot_dict (PyProof.Rows.callWith_type1 (args_cons (Call_ (ld_blt I hg2 hm2 boot_enumerate (PyProof.Rows.callWith_type1 (thn (ha.run pos2 pins s σ H _ I h) fun us s1 ⟨vs, H1, I1, r1, q1⟩ => ?_) hs rfl))) na) na))
  obtain ⟨a, xs, l, ex, sq, hz, q⟩ := q1
  subst ex
  cases r1 with
  | cons r rr =>
    cases rr
    cases r
    obtain ⟨its, rv, p'⟩ := seqX I1 sq
    have hlt : a < s1.heap.objs.size := p'.lt
    have hlen := rv.length
    refine enum_begins1 (beginsX (l := l) (its := its.toArray)) p' fun h' he hit hsz hk => args_nil ?_
    have e1 : s1.heap.objs.size + 1 ≠ s1.heap.objs.size := Nat.succ_ne_self _
    have e2 : a ≠ s1.heap.objs.size + 1 := Nat.ne_of_lt (Nat.lt_succ_of_lt hlt)
    have e3 : a ≠ s1.heap.objs.size := Nat.ne_of_lt hlt
    refine PySem.call_dict_pairs (knd := mixKind X.prog X.w) (kvs := enumKV its) (s := { s1 with heap := h' }) (pairArg_enumX (s1.heap.objs.size + 1) s1.heap.objs.size a l e1 e2 e3 its.toArray) (I1.ok.hd hc) ⟨⟨.none, he⟩, IterX.of_new hit, p'.at fun o x => hk _ o x⟩ ⟨?_, ?_⟩ ?_ fun h'' tk hd hk2 => ?_
    · unfold enumKV
      rw [List.length_map, List.length_zipIdx, List.size_toArray]
    · rintro i key v ⟨⟨t, rfl⟩, hv⟩
      refine ⟨.inl (i : Int), ?_, ?_⟩
      · rw [enumKV_get]
        have : its[i]? = some v := by simpa using hv
        rw [this]
        rfl
      · show keyIs (.inl (i : Int)) (.int (i : Int) t) = true
        simp [keyIs, Value.isInt]
    · rw [List.size_toArray, ← hlen]
      exact hz
    · have hb : (h'.objs.size == sysModules) = false := beq_eq_false_iff_ne.mpr (Nat.ne_of_gt (by rw [hsz]; exact Nat.lt_of_lt_of_le I1.big (Nat.le_add_right _ _)))
      have hl2 : (enumKV xs).length ≤ sizeLine := by
        unfold enumKV
        rw [List.length_map, List.length_zipIdx]
        exact hz
      have hm : mergeK [] (enumKV xs) = enumKV xs := by
        rw [mergeK_new _ _ (fun _ _ => rfl) (enumKV_nodup xs), List.nil_append]
      have rel := enumKV_rel rv 0
      have rel2 := KV.merge rel (show KV [] [] from .nil)
      have hm2 : mergeK [] ((xs.zipIdx 0).map fun p => ((Sum.inl (p.2 : Int) : Key), p.1)) = enumKV xs := hm
      rw [hm2] at rel2
      have le : s1.heap.objs.size ≤ h'.objs.size := by rw [hsz]; exact Nat.le_add_right _ _
      refine ⟨.ref h'.objs.size, upd H1 h'.objs.size (.dK (enumKV xs)), I1.laid (t' := tk) (fun b o x => hk2 b o (fun hb => ?_) (hk b o x)) le (show ObjOk X.prog X.w _ _ _ (.dK (enumKV xs)) from ⟨hl2, hb, _, rel2, hd⟩), rfl, q _ (I1.hok.fresh le)⟩
      have hlt2 := Heap.lt_size x
      simp only [List.mem_cons, List.not_mem_nil, or_false] at hb
      rcases hb with z | z <;> rw [z] at hlt2
      · exact absurd hlt2 (Nat.not_lt.mpr (Nat.le_succ _))
      · exact absurd hlt2 (Nat.lt_irrefl _)
/-- dict(enumerate(x)) -/
def wDEn (wa : W3) : W3 := fun env G R Ex => wa env G (fun x G1 => ∃ ds, asS G1 x = some ds ∧ ds.length ≤ sizeLine ∧ R (.dct ((List.range ds.length).map fun i : Nat => (Sum.inl (i : Int) : Key)) ds) G1) Ex
theorem c_den {X : Cx} {W : WX} {e : Expr} {wa : W3} {p q pos pos2 : Pos} (hc : X.calm = true) (hm : X.mg "dict" = none) (hm2 : X.mg "enumerate" = none) (ha : PE X e (up X.K W wa)) (hg : Gl X "dict" := by rfl) (hg2 : Gl X "enumerate" := by rfl) (hs : starEach [e] X.env = [(false, eval e X.env)] := by rfl)
    (na : starEach [.Call (.Name "enumerate" q) [e] [] pos2] X.env = (false, eval (.Call (.Name "enumerate" q) [e] [] pos2) X.env) :: starEach [] X.env := by rfl) :
    PE X (.Call (.Name "dict" p) [.Call (.Name "enumerate" q) [e] [] pos2] [] pos) (up X.K W (wDEn wa)) :=
  PE.imp (pe_dictEn hc hg hm hg2 hm2 (pa_cons ha pa_nil hs) hs na) fun σ H Q ⟨env, G, R, Ex, re, rg, h, fe, fx⟩ => by
    refine up_go re rg h fx fun x v G1 H1 e1 rx rg1 ⟨ds, h1, h2, h3⟩ => ?_
    obtain ⟨a, vs, rfl, sq, rl⟩ := asX_at rx rg1 h1
    refine ⟨a, vs, isL x, rfl, sq, by rw [rl.length]; exact h2, fun b hb => ?_⟩
    have gb := rg1.fresh hb
    have ef : Ext G1 H1 G1 (upd H1 b (.dK (enumKV vs))) := .alloc hb gb
    refine fe (.dct ((List.range ds.length).map fun i : Nat => (Sum.inl (i : Int) : Key)) ds) (.ref b) G1 _ (e1.trans ef) ⟨b, enumKV vs, rfl, gb, upd_same, ?_, ?_⟩ (rg1.alloc hb) h3
    · rw [enumKV_keys, rl.length]
    · rw [enumKV_vals]
      exact RepL.ext ef ds rl
end L3

set_option Elab.async false
set_option linter.all false
set_option maxRecDepth 100000
namespace L3
open PySem PySem.Spec L2
open PyProof.Rows hiding St

/-! ### an exception's own __init__ -/
section
variable {X : Cx} {e : Expr} {es : List Expr} {ta : TA} {x : Str} {CB : Addr} {p1 p2 pos : Pos}
/-- B.__init__(self, ..), B an own class above; behind it stands ValueError's -/
theorem pe_binit {pl : Sem Bool} (hg : Gl X x) (hm : X.mg x = some (.ref CB)) (hr : PySem.W.readsIn X.K CB (.type "type") = true) (ga : PySem.W.specialIn X.K (.ref CB) "__getattribute__" = some (some (.builtin "type.__getattribute__")))
    (hf : PySem.W.findCls X.K (.ref CB) (.type "type") "__init__" = some (.val (.builtin "ValueError.__init__"))) (ha : PA X (e :: es) ta)
    (hc : eval (.Call (.Attribute (.Name x p1) "__init__" p2) (e :: es) [] pos) X.env = (do
      let ov ← eval (.Name x p1) X.env
      standAt p2.atName
      let (f, first) ← holding [ov] (getMethod ov "__init__" pl)
      callWith pos f first (backTo pos (starEach (e :: es) X.env)) (backToKw pos (keywordEach [] X.env))) := by rfl)
    (hdb : (x == ("__debug__" : Str)) = false := by decide) (he : starEach (e :: es) X.env = (false, eval e X.env) :: starEach es X.env := by rfl) (hpl : (backTo pos (starEach es X.env)).any (·.1) = false := by rfl) :
    PE X (.Call (.Attribute (.Name x p1) "__init__" p2) (e :: es) [] pos) (tVeI X.K ta) := by
  refine ⟨fun pins s σ H Q I h => ?_⟩
  refine PySem.W.methodCall_KW (ld_glob I hg hm ?_ hdb) hc
  refine PySem.W.method_cls I.kIn ga (PySem.W.cls_value I.kIn hr hf rfl ?_)
  show wpAny _ _ (callWith pos (Value.builtin "ValueError.__init__") [] (backTo pos (starEach (e :: es) X.env)) []) _ _ _
  refine PyProof.Rows.callWith_method1 (thn (ha.run pos pins _ σ H _ (I.tok _) h) fun us s1 ⟨vs, H1, I1, r1, a, C, ws, ev, hl, T, ea, q⟩ => ?_) he hpl
  subst ev
  cases r1 with
  | @cons _ u0 _ ur ra rw' =>
    obtain rfl : u0 = Value.ref a := ra
    have hlen : ur.length ≤ sizeLine := by
      rw [← Paired.length rw', sizeLine_eq]
      omega
    exact oinit_ok T I1 ea hlen fun s' J => ⟨.non, H1, J, rfl, q⟩
end
/-- what stands in a message: a text, an int, neither long -/
def okMsg : V → Bool
  | .str y => decide (y.length ≤ 1000)
  | .int i => decide (i.natAbs.log2 < 1000)
  | _ => false
/-- an exception's __init__: the fields fs, told to the dict; self stands at a, without a dict as yet -/
def spX (C : Addr) (fs : List Str) : Sp := fun vs H Q _ => ∃ a ys, vs = .ref a :: ys ∧ ys.length = fs.length ∧ ys.all okMsg = true ∧ H a = some (exo a C none) ∧
  ∀ d, H d = none → d ≠ a → Q .non (upd (upd H d (exd d (fs.zip ys).reverse)) a (exo a C (some d)))
/-- {x}, x a parameter that is fit for a message -/
theorem fmt_ok {te : TE} {σ : St} {H : Hp} {Q : VK} {v : V} (h : okMsg v = true) (ht : ∀ R : VK, R v H → te σ H R) (q : ∀ y : Str, y.length ≤ 1001 → Q (.str y) H) : tFmt te σ H Q := by
  refine ht _ ?_
  cases v with
  | str y =>
    have h1 : y.length ≤ 1000 := of_decide_eq_true h
    exact .inl ⟨y, rfl, by rw [sizeLine_eq]; omega, q y (by omega)⟩
  | int i =>
    have h1 : i.natAbs.log2 < 1000 := of_decide_eq_true h
    refine .inr ⟨i, rfl, by omega, q _ ?_⟩
    have e := int_text_length_le (k := 1000) (by decide) h1
    rw [PySem.ofString_length]
    omega
  | _ => cases h
section
variable {P : Program} {w : World} {K : PySem.W.Frag} {mg : Str → Option Value} {base : Heap} {C CB f : Addr} {fd : FuncData} {st : Stmt} {ql xB f1 f2 : Str} {k : Nat}
theorem app_len {a b : Str} : (a ++ b).length = a.length + b.length := by
  show (a.cps ++ b.cps).size = a.cps.size + b.cps.size
  exact Array.size_append
theorem exf1 {z1 : Str} {j1 : Nat} {p1 p2 p3 p4 p5 p6 p7 p8 p9 p10 p11 p12 p13 : Pos} (F : Fun K "__init__" ql st f fd) (S : FnScope ["self", f1] ["self", f1] (defScope st)) (T : OexC K C) (no : PySem.W.findIn K (.ref C) f1 = some none)
    (hgB : (defScope st).names.lookup xB = some .globalImplicit) (hm : mg xB = some (.ref CB)) (hr : PySem.W.readsIn K CB (.type "type") = true) (ga : PySem.W.specialIn K (.ref CB) "__getattribute__" = some (some (.builtin "type.__getattribute__")))
    (hf : PySem.W.findCls K (.ref CB) (.type "type") "__init__" = some (.val (.builtin "ValueError.__init__"))) (hz : z1.length ≤ 1000) (hv0 : Vis (defScope st) "self") (hv1 : Vis (defScope st) f1)
    (hd1 : (f1 == ("__debug__" : Str)) = false) (hc1 : (f1 == ("__classdict__" : Str)) = false) (hdB : (xB == ("__debug__" : Str)) = false)
    {pl : Env → Sem Bool} (hc : ∀ env : Env, eval (.Call (.Attribute (.Name xB p1) "__init__" p2) [.Name "self" p3, .JoinedStr [.Constant (.str z1) j1 p4, .FormattedValue (.Name f1 p5) (-1) none p6] p7] [] p8) env = (do
      let ov ← eval (.Name xB p1) env
      standAt p2.atName
      let (f, first) ← holding [ov] (getMethod ov "__init__" (pl env))
      callWith p8 f first (backTo p8 (starEach [.Name "self" p3, .JoinedStr [.Constant (.str z1) j1 p4, .FormattedValue (.Name f1 p5) (-1) none p6] p7] env)) (backToKw p8 (keywordEach [] env))))
    (hbody : defBody st = [.Expr (.Call (.Attribute (.Name xB p1) "__init__" p2) [.Name "self" p3, .JoinedStr [.Constant (.str z1) j1 p4, .FormattedValue (.Name f1 p5) (-1) none p6] p7] [] p8) p9,
      .Assign [.Attribute (.Name "self" p10) f1 p11] (.Name f1 p12) p13]) : FnOk P w K mg base C8.CX0 (k + 1) f fd ["self", f1] (spX C [f1]) := by
  obtain ⟨oc, od, kV, doc, pm, an, cdv, ct, osl, rfl, lk, hcd⟩ := F.ex
  refine fn_of lk hcd S (fun vs H Q E ⟨a, ys, e1, e2, _⟩ => by rw [e1, List.length_cons, e2]; rfl) fun A outer s H vs Q E hr' hsp => ?_
  obtain ⟨a, ys, rfl, hl, ho, ha, hq⟩ := hsp
  match ys, hl, ho, hq with
  | [y], _, ho, hq =>
    have ho : okMsg y = true := by simpa using ho
    refine ⟨_, (by rw [show defBody st = _ from hbody]; exact (pss_cons (ps_expr (pe_binit (X := cxOf C8.CX0 P w K mg base ["self", f1] ql (defScope st) f cdv A outer s H E) hgB hm hr ga hf
      (pa_cons (pe_var (i := 0) rfl hv0) (pa_cons (pe_joined (.cons pe_str (.cons (pe_fmt (pe_var (i := 1) rfl hv1 hd1 hc1)) .nil))) pa_nil)) (hc := hc _) (hdb := hdB)))
        (pss_one (ps_ost (pe_var (i := 0) rfl hv0) (pe_var (i := 1) rfl hv1 hd1 hc1))))), ?_⟩
    refine ⟨.ref a, rfl, z1, rfl, by rw [app_len, sizeLine_eq]; show 0 + _ ≤ _; omega, fmt_ok ho (fun R r => ⟨y, rfl, r⟩) fun m hm => ⟨m, rfl, by rw [app_len, app_len, sizeLine_eq]; show 0 + _ + _ ≤ _; omega, ?_⟩⟩
    exact ⟨a, C, _, rfl, Nat.le_of_lt_succ (by simp), T, ha, y, rfl, .ref a, rfl, a, C, rfl, T, no, .inl ⟨ha, fun dx n ne => hq dx n ne⟩⟩
theorem exf2 {z1 z2 : Str} {j1 j2 : Nat} {p1 p2 p3 p4 p5 p6 p7 p8 p9 p10 p11 p12 p13 p14 p15 p16 p17 q1 q2 q3 : Pos} (F : Fun K "__init__" ql st f fd) (S : FnScope ["self", f1, f2] ["self", f1, f2] (defScope st)) (T : OexC K C) (no : PySem.W.findIn K (.ref C) f1 = some none) (no2 : PySem.W.findIn K (.ref C) f2 = some none)
    (hgB : (defScope st).names.lookup xB = some .globalImplicit) (hm : mg xB = some (.ref CB)) (hr : PySem.W.readsIn K CB (.type "type") = true) (ga : PySem.W.specialIn K (.ref CB) "__getattribute__" = some (some (.builtin "type.__getattribute__")))
    (hf : PySem.W.findCls K (.ref CB) (.type "type") "__init__" = some (.val (.builtin "ValueError.__init__"))) (hz : z1.length ≤ 1000) (hz2 : z2.length ≤ 1000) (hv0 : Vis (defScope st) "self") (hv1 : Vis (defScope st) f1) (hv2 : Vis (defScope st) f2)
    (hd1 : (f1 == ("__debug__" : Str)) = false) (hc1 : (f1 == ("__classdict__" : Str)) = false) (hd2 : (f2 == ("__debug__" : Str)) = false) (hc2 : (f2 == ("__classdict__" : Str)) = false) (hdB : (xB == ("__debug__" : Str)) = false)
    {pl : Env → Sem Bool} (hc : ∀ env : Env, eval (.Call (.Attribute (.Name xB p1) "__init__" p2) [.Name "self" p3, .JoinedStr [.Constant (.str z1) j1 p4, .FormattedValue (.Name f1 p5) (-1) none p6, .Constant (.str z2) j2 q1, .FormattedValue (.Name f2 q2) (-1) none q3] p7] [] p8) env = (do
      let ov ← eval (.Name xB p1) env
      standAt p2.atName
      let (f, first) ← holding [ov] (getMethod ov "__init__" (pl env))
      callWith p8 f first (backTo p8 (starEach [.Name "self" p3, .JoinedStr [.Constant (.str z1) j1 p4, .FormattedValue (.Name f1 p5) (-1) none p6, .Constant (.str z2) j2 q1, .FormattedValue (.Name f2 q2) (-1) none q3] p7] env)) (backToKw p8 (keywordEach [] env))))
    (hbody : defBody st = [.Expr (.Call (.Attribute (.Name xB p1) "__init__" p2) [.Name "self" p3, .JoinedStr [.Constant (.str z1) j1 p4, .FormattedValue (.Name f1 p5) (-1) none p6, .Constant (.str z2) j2 q1, .FormattedValue (.Name f2 q2) (-1) none q3] p7] [] p8) p9,
      .Assign [.Attribute (.Name "self" p10) f1 p11] (.Name f1 p12) p13, .Assign [.Attribute (.Name "self" p14) f2 p15] (.Name f2 p16) p17]) : FnOk P w K mg base C8.CX0 (k + 1) f fd ["self", f1, f2] (spX C [f1, f2]) := by
  obtain ⟨oc, od, kV, doc, pm, an, cdv, ct, osl, rfl, lk, hcd⟩ := F.ex
  refine fn_of lk hcd S (fun vs H Q E ⟨a, ys, e1, e2, _⟩ => by rw [e1, List.length_cons, e2]; rfl) fun A outer s H vs Q E hr' hsp => ?_
  obtain ⟨a, ys, rfl, hl, ho, ha, hq⟩ := hsp
  match ys, hl, ho, hq with
  | [y, y2], _, ho, hq =>
    have ho : okMsg y = true ∧ okMsg y2 = true := by simpa using ho
    refine ⟨_, (by rw [show defBody st = _ from hbody]; exact (pss_cons (ps_expr (pe_binit (X := cxOf C8.CX0 P w K mg base ["self", f1, f2] ql (defScope st) f cdv A outer s H E) hgB hm hr ga hf
      (pa_cons (pe_var (i := 0) rfl hv0) (pa_cons (pe_joined (.cons pe_str (.cons (pe_fmt (pe_var (i := 1) rfl hv1 hd1 hc1)) (.cons pe_str (.cons (pe_fmt (pe_var (i := 2) rfl hv2 hd2 hc2)) .nil))))) pa_nil)) (hc := hc _) (hdb := hdB)))
        (pss_cons (ps_ost (pe_var (i := 0) rfl hv0) (pe_var (i := 1) rfl hv1 hd1 hc1)) (pss_one (ps_ost (pe_var (i := 0) rfl hv0) (pe_var (i := 2) rfl hv2 hd2 hc2)))))), ?_⟩
    refine ⟨.ref a, rfl, z1, rfl, by rw [app_len, sizeLine_eq]; show 0 + _ ≤ _; omega, fmt_ok ho.1 (fun R r => ⟨y, rfl, r⟩) fun m hm => ⟨m, rfl, by rw [app_len, app_len, sizeLine_eq]; show 0 + _ + _ ≤ _; omega,
      z2, rfl, by rw [app_len, app_len, app_len, sizeLine_eq]; show 0 + _ + _ + _ ≤ _; omega, fmt_ok ho.2 (fun R r => ⟨y2, rfl, r⟩) fun m2 hm2 => ⟨m2, rfl, by rw [app_len, app_len, app_len, app_len, sizeLine_eq]; show 0 + _ + _ + _ + _ ≤ _; omega, ?_⟩⟩⟩
    refine ⟨a, C, _, rfl, Nat.le_of_lt_succ (by simp), T, ha, y, rfl, .ref a, rfl, a, C, rfl, T, no, .inl ⟨ha, fun dx n ne => ⟨y2, rfl, .ref a, rfl, a, C, rfl, T, no2, .inr ⟨dx, [(f1, y)], upd_same, ?_, by simp, ?_⟩⟩⟩⟩
    · rw [upd_ne ne]; exact upd_same
    · have e : upd (upd (upd H dx (exd dx [(f1, y)])) a (exo a C (some dx))) dx (exd dx [(f2, y2), (f1, y)]) = upd (upd H dx (exd dx [(f2, y2), (f1, y)])) a (exo a C (some dx)) := by
        funext b
        by_cases h1 : b = a
        · subst h1
          rw [upd_ne (Ne.symm ne), upd_same, upd_same]
        · by_cases h2 : b = dx
          · subst h2
            rw [upd_same, upd_ne h1, upd_same]
          · rw [upd_ne h2, upd_ne h1, upd_ne h2, upd_ne h1, upd_ne h2]
      have q := hq dx n ne
      show Q V.non _
      have e2 : exd dx ((f2, y2) :: [(f1, y)]) = exd dx ([f1, f2].zip [y, y2]).reverse := rfl
      rw [e]
      exact q
end

/-! ### raise C(..), C with fields -/
/-- an exception class of the module with its own __init__ over the fields fs -/
structure GoodX (P : Program) (w : World) (K : PySem.W.Frag) (mg : Str → Option Value) (base : Heap) (x : Str) (C : Addr) (k : Nat) (fs : List Str) : Prop where
  ex : ∃ fI fd ps, mg x = some (.ref C) ∧ OexC K C ∧ PySem.W.findIn K (.ref C) "__init__" = some (some (.ref fI)) ∧ PySem.W.typeIn K (.ref fI) = some (.type "function") ∧ Binds K fd ps [] ∧ FnOk P w K mg base C8.CX0 k fI fd ps (spX C fs)
def okMsgD : D → Bool
  | .str y => decide (y.length ≤ 1000)
  | .int i => decide (i.natAbs.log2 < 1000)
  | _ => false
def wRaiseF (C : Addr) (fs : List Str) (ar : A3) : S3 := fun E env G => ar env G (fun ds G1 => ds.length = fs.length ∧ ds.all okMsgD = true ∧ E.ex (.ref C) (some (fs.reverse, ds.reverse)) env G1) E.ex
theorem okMsg_V {K : PySem.W.Frag} {H : Hp} {G : GH} {d : D} {v : V} (r : Rep K H G d v) (h : okMsgD d = true) : okMsg v = true := by
  cases d with
  | str y => rw [show v = .str y from r]; exact h
  | int i => rw [show v = .int i from r]; exact h
  | _ => cases h
theorem okMsgL_V {K : PySem.W.Frag} {H : Hp} {G : GH} : ∀ {ds : List D} {vs : List V}, RepL K H G ds vs → ds.all okMsgD = true → vs.all okMsg = true
  | [], _, r, _ => by rw [show _ = _ from r]; rfl
  | d :: ds, _, ⟨v, u, q, a, t⟩, h => by
    rw [List.all_cons, Bool.and_eq_true] at h
    rw [q, List.all_cons, okMsg_V a h.1, okMsgL_V t h.2]; rfl
theorem zip_fst {α β : Type} : ∀ {xs : List α} {ys : List β}, ys.length = xs.length → (xs.zip ys).map (·.1) = xs
  | [], _, _ => by simp
  | x :: xs, [], h => by simp at h
  | x :: xs, y :: ys, h => by
    rw [List.zip_cons_cons, List.map_cons, zip_fst (by simpa using h)]
theorem zip_snd {α β : Type} : ∀ {xs : List α} {ys : List β}, ys.length = xs.length → (xs.zip ys).map (·.2) = ys
  | [], [], _ => rfl
  | [], y :: ys, h => by simp at h
  | x :: xs, [], h => by simp at h
  | x :: xs, y :: ys, h => by
    rw [List.zip_cons_cons, List.map_cons, zip_snd (by simpa using h)]
section
variable {X : Cx} {W : WX} {x : Str} {C : Addr} {fs : List Str} {k : Nat} {e : Expr} {es : List Expr} {ar : A3} {p pos pos' : Pos}
theorem s_raiseF (T : GoodX X.prog X.w X.K X.mg X.base x C k fs) (hr : Room (k + 1) X.A) (hc : X.calm = true) (tk : Takes X W) (ha : PA X (e :: es) (upA X.K W ar)) (hn : fs.length ≤ 1000 := by decide) (hg : Gl X x := by rfl) (hdb : (x == ("__debug__" : Str)) = false := by decide)
    (he : starEach (e :: es) X.env = (false, eval e X.env) :: starEach es X.env := by rfl) (hpl : (backTo pos (starEach es X.env)).any (·.1) = false := by rfl) :
    PS X (.Raise (some (.Call (.Name x p) (e :: es) [] pos)) none pos') (upS X.K W (wRaiseF C fs ar)) := by
  obtain ⟨fI, fd, ps, hm, T1, iC, tI, hb, F1⟩ := T.ex
  refine PS.imp (ps_raise hc tk (pmk_oex T1 iC tI F1 hr hb .nil C8.pass0 hg hm ha hdb he hpl)) fun D σ H ⟨env, G, E, re, rg, h, f⟩ => ?_
  refine upA_go re rg h f.ex fun ds vs G1 H1 e1 rd rg1 ⟨hl, ho, hx⟩ => ?_
  have hlv : vs.length = fs.length := rd.length.trans hl
  refine ⟨by rw [hlv]; exact hn, fun a hna => ⟨a, vs, by rw [List.append_nil], hlv, okMsgL_V rd ho, upd_same, fun d hd hda => ?_⟩⟩
  have hd1 : H1 d = none := by rw [upd_ne hda] at hd; exact hd
  refine ⟨rfl, d, (fs.zip vs).reverse, upd_same, by rw [upd_ne hda]; exact upd_same, hd1, ?_⟩
  have eH : upd (del (upd (upd (upd H1 a (exo a C none)) d (exd d (fs.zip vs).reverse)) a (exo a C (some d))) a) d (.xd (fs.zip vs).reverse) = upd H1 d (.xd (fs.zip vs).reverse) := by
    funext b
    by_cases h2 : b = d
    · subst h2
      rw [upd_same, upd_same]
    · rw [upd_ne h2, upd_ne h2]
      by_cases h1 : b = a
      · subst h1
        rw [del_same, hna]
      · rw [del_ne h1, upd_ne h1, upd_ne h2, upd_ne h1]
  rw [eH]
  have gd := rg1.fresh hd1
  have ea : Ext G1 H1 G1 (upd H1 d (.xd (fs.zip vs).reverse)) := .alloc hd1 gd
  refine f.ex (.ref C) (some (fs.reverse, ds.reverse)) (some d) env σ G1 _ (e1.trans ea) (re.ext (e1.trans ea)) (rg1.alloc hd1) ⟨d, (fs.zip vs).reverse, rfl, upd_same, gd, ?_, ?_⟩ hx
  · rw [List.map_reverse, zip_fst hlv]
  · rw [List.map_reverse, zip_snd hlv]
    exact RepL.ext ea _ rd.reverse
end

/-! ### try, an exception with fields or without -/
/-- p, pinned, is the exception that is held: class, dict -/
structure HeldD (X : Cx) (a : Addr) (cls : Value) (d : Option Addr) : Prop where
  ex : ∃ oe : Obj, (a, oe) ∈ X.pn ∧ oe.cls = cls ∧ oe.dict = d ∧ ∃ vs, oe.data = .fields vs
def excD (a : Addr) : Option (List Str × List D) → Option Addr → D
  | some (fs, ds), some d => .exc a d fs ds
  | _, _ => .ref a
def wTryF (K : PySem.W.Frag) (c : Value) (i : Nat) (wb : S3) (ws : Addr → Value → Option Addr → S3) : S3 := fun E env G =>
  wb { E with ex := fun cls fs env1 G1 => ∃ b, PySem.W.exmOne K cls c = some b ∧
    (b = true → ∀ a d, G1 a = none → d.isSome = fs.isSome → ws a cls d { nx := fun env2 G2 => E.nx (env2.set i none) G2, rt := E.rt, bk := fun env2 G2 => E.bk (env2.set i none) G2, ct := fun env2 G2 => E.ct (env2.set i none) G2, ex := noX } (env1.set i (some (excD a fs d))) G1) ∧
    (b = false → E.ex cls fs env1 G1) } env G
section
variable {X : Cx} {W : WX} {x n : Str} {c : Value} {body suite : List Stmt} {b0 : Stmt} {np pos pos' : Pos} {wb : S3} {ws : Addr → Value → Option Addr → S3}
theorem s_tryF (i : Nat) (hs : X.stack = X.env :: X.outer) (hf : X.env.frame = some X.env.locals) (hN : X.N.Nodup) (hi : X.N[i]? = some n) (hln : X.env.kindOf n = some .local) (hc : Names X x c) (tk : Takes X W)
    (hb : ∀ (W1 : WX) (pn : List (Addr × Obj)) (xe : Value → Shared → Prop), Takes (X.tr pn xe) W1 → PassesOwn (model X.prog X.w) X.A X.env xe → PSs (X.tr pn xe) body (upS X.K W1 wb))
    (hsu : ∀ (a : Addr) (oe : Obj) (cls : Value) (d : Option Addr) (pn : List (Addr × Obj)), HeldD (X.suite a ((a, oe) :: pn)) a cls d → PSs (X.suite a ((a, oe) :: pn)) (b0 :: suite) (upS X.K W0 (ws a cls d))) :
    PS X (.Try body [.ExceptHandler (some (.Name x np)) (some n) (b0 :: suite) pos'] [] [] pos) (upS X.K W (wTryF X.K c i wb ws)) := by
  refine PS.imp (ps_try_as (tb := fun W1 => upS X.K W1 wb) (ts := fun a cls d D σ H => upS X.K W0 (ws a cls d) D σ H) hs hf hN hi hln hc tk hb fun a oe cls d pn hz hf => ?_) fun D σ H ⟨env, G, E, re, rg, h, f⟩ => ?_
  · exact hsu a oe cls d pn ⟨⟨oe, List.mem_cons_self, hz.1, hz.2, hf⟩⟩
  refine upS_go re rg h ⟨f.nx, f.rt, f.bk, f.ct, fun cls fs d env1 σ1 G1 H1 e1 re1 rg1 rx ⟨b, h1, h2, h3⟩ => ⟨b, h1, fun hb1 a ha => ?_, fun hb1 => f.ex cls fs d env1 σ1 G1 H1 e1 re1 rg1 rx (h3 hb1)⟩⟩
  have hds : d.isSome = fs.isSome ∧ Rep X.K H1 G1 (excD a fs d) (.ref a) := by
    cases fs with
    | none =>
      have rx : d = none := rx
      subst rx
      exact ⟨rfl, rfl⟩
    | some q =>
      obtain ⟨fl, ds⟩ := q
      obtain ⟨dd, kvs, q1, q2, q3, q4, q5⟩ := (show ∃ a kvs, d = some a ∧ H1 a = some (.xd kvs) ∧ G1 a = none ∧ kvs.map (·.1) = fl ∧ RepL X.K H1 G1 ds (kvs.map (·.2)) from rx)
      subst q1
      exact ⟨rfl, kvs, rfl, q3, q2, q4, q5⟩
  have g1 := h2 hb1 a d (rg1.fresh ha) hds.1
  have f1 := f.ext e1
  refine upS_go (re1.set (d := excD a fs d) (v := .ref a) hds.2 i) rg1 g1 ⟨fun env2 σ2 G2 H2 e2 re2 rg2 q => ?_, f1.rt, fun env2 σ2 G2 H2 e2 re2 rg2 q => ?_, fun env2 σ2 G2 H2 e2 re2 rg2 q => ?_, nox0⟩
  · exact f1.nx _ _ G2 H2 e2 (re2.unset i) rg2 q
  · exact f1.bk _ _ G2 H2 e2 (re2.unset i) rg2 q
  · exact f1.ct _ _ G2 H2 e2 (re2.unset i) rg2 q
end
/-! ### isinstance of an exception that has its dict -/
namespace XI
open PySem.W
theorem foundX {K : Frag} {D : Addr} {od : Option Obj} {n : Str} {a g : Value} (h1 : (clsIn K D).isSome = true) (h2 : findIn K (.ref D) n = some (some a)) (h3 : specialIn K a "__get__" = some (some g)) (h4 : takesIn K a = some true) : findObj K D od n = some (.bind g a) := by
  obtain ⟨cd, e⟩ := Option.isSome_iff_exists.mp h1
  unfold findObj
  rw [e, Option.bind_some, h2, Option.bind_some]
  simp [h3, h4]
theorem classX {prog : Program} {w : World} {A : Around} {E : Value → Shared → Prop} {s : Shared} {K : Frag} {x D : Addr} {ox : Obj} {od : Option Obj} {Q : Option Value → Shared → Prop} (C : ExcC K D) (kin : K.In s.heap) (J : InstAt s.heap x ox D od)
    (q : Q (some (.ref D)) { s with toks := s.toks + 1 }) : wpAny (model prog w) A (getAttr? (.ref x) "__class__") Q E s := by
  have fo : findObj K D od "__class__" = some (.bind (.builtin "getset_descriptor.__get__") (.builtin "object.__class__")) := foundX (by obtain ⟨cd, hc, _⟩ := any_some C.hd; rw [hc]; rfl) C.ha C.hn C.ht
  obtain ⟨hp, g, d, t, os⟩ := s
  have ty := J.type (M := model prog w)
  have fa := looks_findIn (M := model prog w) kin C.hg
  have fb := looks_findIn (M := model prog w) kin C.hk
  have fc := looks_find (M := model prog w) kin J fo
  have isB : Looks (model prog w) hp (isInstance (.ref x) (.type "BaseException")) true := ty.andThen (looks_subIn kin C.hs)
  have z0 : (false && onTheHeap (Value.builtin "BaseException.__getattribute__")) = false := rfl
  have z2 : (Value.builtin "BaseException.__getattribute__" == Value.builtin "object.__getattribute__") = false := by decide +kernel
  have z1 : (onTheHeap (Value.ref D) && Value.builtin "BaseException.__getattribute__" == Value.builtin "object.__getattribute__") = false := by rw [z2]; rfl
  unfold getAttr? getAttrBy? getAttrBy
  refine wpAny_bind (wpAny_mkText (wpAny_bind (wpAny_attempt (wpAny_holding (wpAny_bind (ty.at (wpAny_bind (fa.at ?_))))))))
  show wpAny _ _ (if (onTheHeap (Value.ref D) && Value.builtin "BaseException.__getattribute__" == Value.builtin "object.__getattribute__") = true then _ else _) _ _ _
  rw [z1, if_neg Bool.false_ne_true]
  unfold getAttrByItsOwn hookBefore
  refine wpAny_bind ?_
  rw [if_pos (show onTheHeap (Value.ref D) = true from rfl)]
  refine fb.at ?_
  refine wpAny_bind (wpAny_attempt (wpAny_holding ?_))
  unfold callGetattribute
  rw [z0, if_neg Bool.false_ne_true]
  unfold boundAndCalled
  rw [PySem.F.excAttr_ValueError.ga.bind (.ref x)]
  refine wpAny_bind (wpAny_pure ?_)
  show wpAny _ _ (call (.builtin "BaseException.__getattribute__") [.ref x, .str "__class__" t]) _ _ _
  refine wpAny_call (codeAny_call_builtin PySem.F.excAttr_ValueError.ga.plain PySem.F.entry_bexc_ga ?_)
  refine @check_slot (model prog w) _ _ ⟨hp, g, d, t + 1, os⟩ "BaseException.__getattribute__" "BaseException" "__getattribute__" (.ref x) [.str "__class__" t] [] _ (by decide +kernel) (by decide +kernel) isB (PySem.F.args_bexc_ga (.ref x) (.str "__class__" t)) ?_
  unfold Builtin.«object.__getattribute__»
  refine wpAny_bind (wpAny_of_eq (a := ((Value.ref x : Value), [Value.str "__class__" t])) (by first | rfl | (simp only [slotArgs]; rfl)) ?_)
  refine wpAny_bind (wpAny_pure (wpAny_bind (ty.at (wpAny_bind (fc.at ?_)))))
  show wpAny _ _ (holding [Value.builtin "object.__class__"] (call (.builtin "getset_descriptor.__get__") [.builtin "object.__class__", .ref x, .ref D]) >>= ret) _ _ _
  refine wpAny_bind (wpAny_holding (wpAny_call (class_get (s := ⟨hp, g, d, t + 1, os⟩) (ox := ox) (od := od) kin J C.hm ?_)))
  refine wpAny_pure ?_
  show wpAny _ _ (handedOut (.ref D)) _ _ _
  rw [handedOut_of (v := .ref D) rfl]
  first
    | exact wpAny_pure (wpAny_pure q)
    | exact wpAny_pure q
    | exact wpAny_pure (wpAny_bind (wpAny_pure (wpAny_pure q)))
theorem kitX {K : Frag} {x D : Addr} {ox : Obj} {od : Option Obj} (C : ExcC K D) : KitX K (.ref x) (.ref D) (fun h => InstAt h x ox D od) where
  ty := fun _ _ _ J => J.type
  it := fun _ _ kin _ => by
    obtain ⟨cdD, hcD, _⟩ := any_some C.hd
    unfold clsIn at hcD
    split at hcD
    · rename_i ho
      intro A' Q' E' s' k q
      unfold isType loadHead
      exact wpAny_bind (wpAny_loadPart (k _ _ (kin _ _ ho)) (wpAny_pure q))
    · cases hcD
  ne := fun h tp dd its n sl kin htp => by
    obtain ⟨cdD, hcD, _⟩ := any_some C.hd
    refine Bool.eq_false_iff.mpr fun q => ?_
    have e : D = tp := Value.ref.inj (beq_iff_eq.mp q)
    subst e
    unfold clsIn at hcD
    split at hcD
    · rename_i ho
      have z := (kin _ _ ho).symm.trans htp
      cases z
    · cases hcD
  ca := fun kin J k => classX C kin J k
end XI
/-! ### isinstance of the exception in hand -/
def rIsX (K : PySem.W.Frag) (a : Addr) (cls : Value) (d : Option Addr) : List V → Hp → VK → Prop := fun xs H Q => (∀ dd, d = some dd → ∃ kvs, H dd = some (.xd kvs)) ∧ ∃ D : Addr, cls = .ref D ∧ ExcC K D ∧
  ((∃ (c : V) (cv : Value) (b : Bool), xs = [.ref a, c] ∧ ClsV c cv ∧ PySem.W.kitOne K (.ref D) cv = some b ∧ Q (.bl b) H) ∨
    ∃ (tp : Addr) (cs : List V) (us : List Value) (b : Bool), xs = [.ref a, .ref tp] ∧ SqT K H tp cs ∧ Paired ClsV cs us ∧ PySem.W.kitAny K (.ref D) us = some b ∧ Q (.bl b) H)
theorem call_isX {X : Cx} {a : Addr} {cls : Value} {d : Option Addr} (h : HeldD X a cls d) : CallR X (.builtin "isinstance") (rIsX X.K a cls d) := by
  rintro pins s σ H xs us Q I r ⟨hdd, D, rfl, C, hq⟩
  obtain ⟨⟨oc, od, dt, sl⟩, m, h1, h2, vs, h3⟩ := h.ex
  dsimp only at h1 h2 h3
  subst h1 h2 h3
  have hget := (I.pin _ (List.mem_append_left _ m)).1
  have inst : ∃ odO, PySem.W.InstAt s.heap a ⟨.ref D, od, .fields vs, sl⟩ D odO := by
    cases od with
    | none => exact ⟨none, hget, rfl, rfl, trivial⟩
    | some dd =>
      obtain ⟨kvs, e⟩ := hdd dd rfl
      obtain ⟨mA, ⟨o, es, ep, ho, _⟩, _⟩ := (show ObjOk X.prog X.w H s.heap dd (.xd kvs) from I.hok dd _ e)
      exact ⟨some o, hget, rfl, rfl, ho⟩
  obtain ⟨odO, J⟩ := inst
  rcases hq with ⟨c, cv, b, rfl, hcv, e, q⟩ | ⟨tp, cs, ws, b, rfl, hT, kk, e, q⟩
  · obtain ⟨u1, u2, rfl, r1, r2⟩ := vals2 r
    obtain rfl : u1 = Value.ref a := r1
    obtain rfl := hcv.eq r2
    refine PySem.W.kia_one (XI.kitX C) I.kIn (s := s) (x := .ref a) J e (fun z => nomatch z) fun tk => ?_
    exact ⟨.bl b, H, I.kept (t' := tk) fun _ _ z => z, rfl, q⟩
  · obtain ⟨u1, u2, rfl, r1, r2⟩ := vals2 r
    obtain rfl : u1 = Value.ref a := r1
    obtain rfl : u2 = Value.ref tp := r2
    obtain ⟨its, rv, ⟨ob, g1, g2, n, g3⟩, _⟩ := I.tuple hT
    obtain rfl := ClsV.all kk rv
    obtain ⟨oc, od2, dt, sl2⟩ := ob
    simp only at g2 g3
    subst g2 g3
    refine PySem.W.kia_tup (XI.kitX C) I.kIn (s := s) (x := .ref a) J g1 e (fun z => nomatch z) fun tk => ?_
    exact ⟨.bl b, H, I.kept (t' := tk) fun _ _ z => z, rfl, q⟩
def isExc (a : Addr) (d : Option Addr) : D → Prop
  | .ref b => b = a ∧ d = none
  | .exc b dd _ _ => b = a ∧ d = some dd
  | _ => False
def fIsX (K : PySem.W.Frag) (a : Addr) (cls : Value) (d : Option Addr) : FA := fun xs G R => match xs with
  | [x, .tup cs] => isExc a d x ∧ ∃ D us r, cls = .ref D ∧ ExcC K D ∧ cs.mapM clsD = some us ∧ PySem.W.kitAny K (.ref D) us = some r ∧ R (.bl r) G
  | [x, c] => isExc a d x ∧ ∃ D u r, cls = .ref D ∧ ExcC K D ∧ clsD c = some u ∧ PySem.W.kitOne K (.ref D) u = some r ∧ R (.bl r) G
  | _ => False
theorem isExc_V {K : PySem.W.Frag} {H : Hp} {G : GH} {a : Addr} {d : Option Addr} {x : D} {v : V} (r : Rep K H G x v) (h : isExc a d x) : v = .ref a ∧ ∀ dd, d = some dd → ∃ kvs, H dd = some (.xd kvs) := by
  cases x with
  | ref b =>
    obtain ⟨rfl, rfl⟩ := h
    exact ⟨r, fun _ z => by cases z⟩
  | exc b dd fs ds =>
    obtain ⟨rfl, rfl⟩ := h
    obtain ⟨kvs, q1, q2, q3, _⟩ := r
    exact ⟨q1, fun _ z => by cases z; exact ⟨kvs, q3⟩⟩
  | _ => exact False.elim h
theorem lift_isX {K : PySem.W.Frag} {a : Addr} {cls : Value} {d : Option Addr} : LiftC K (rIsX K a cls d) (fIsX K a cls d) := by
  intro xs vs H G R Q r g h fe
  match xs, r, h with
  | [x, c], ⟨v1, r1, e1, a1, v2, r2, e2, a2, e3⟩, h =>
    subst e3 e2 e1
    have one : (isExc a d x ∧ ∃ D u r, cls = .ref D ∧ ExcC K D ∧ clsD c = some u ∧ PySem.W.kitOne K (.ref D) u = some r ∧ R (.bl r) G) → rIsX K a cls d [v1, v2] H Q := by
      rintro ⟨h0, D, u, b, hD, hC, h1, h2, h3⟩
      obtain ⟨rfl, hdd⟩ := isExc_V a1 h0
      exact ⟨hdd, D, hD, hC, .inl ⟨v2, u, b, rfl, clsD_V a2 h1, h2, fe (.bl b) _ G H .refl rfl g h3⟩⟩
    cases c with
    | tup cs =>
      obtain ⟨h0, D, us, b, hD, hC, h1, h2, h3⟩ := h
      obtain ⟨rfl, hdd⟩ := isExc_V a1 h0
      obtain ⟨p, ws, rfl, k, rl⟩ := a2
      exact ⟨hdd, D, hD, hC, .inr ⟨p, ws, us, b, rfl, k.sq, clsL_V rl h1, h2, fe (.bl b) _ G H .refl rfl g h3⟩⟩
    | _ => exact one h
  | [], _, h => exact False.elim h
  | [_], _, h => exact False.elim (by cases ‹D› <;> exact h)
  | _ :: y :: _ :: _, _, h => exact False.elim (by cases y <;> exact h)
/-! ### e.f of the exception in hand -/
def lookD (f : Str) : List Str → List D → Option D
  | g :: r, x :: xs => if f = g then some x else lookD f r xs
  | _, _ => none
theorem look_V {K : PySem.W.Frag} {H : Hp} {G : GH} {f : Str} {y : D} : ∀ {kvs : List (Str × V)} {fs : List Str} {ds : List D}, kvs.map (·.1) = fs → RepL K H G ds (kvs.map (·.2)) → lookD f fs ds = some y → ∃ v, kvs.lookup f = some v ∧ Rep K H G y v
  | [], fs, ds, e, r, h => by subst e; cases ds <;> cases h
  | (g, v) :: kvs, fs, [], e, r, h => by subst e; cases h
  | (g, v) :: kvs, fs, d :: ds, e, r, h => by
    subst e
    obtain ⟨v', u, q, a, t⟩ := r
    rw [List.map_cons] at q
    obtain ⟨rfl, rfl⟩ := List.cons.inj q
    rw [List.map_cons] at h
    have h' : (if f = g then some d else lookD f (kvs.map (·.1)) ds) = some y := h
    rw [lookup_put]
    by_cases hf : f = g
    · rw [if_pos hf] at h' ⊢
      cases h'
      exact ⟨v, rfl, a⟩
    · rw [if_neg hf] at h' ⊢
      exact look_V rfl t h'
def wXf (a : Addr) (cls : Value) (d : Option Addr) (C : Addr) (f : Str) (w : W3) : W3 := fun env G R Ex => w env G (fun x G1 => ∃ dd fs ds y, x = .exc a dd fs ds ∧ cls = .ref C ∧ d = some dd ∧ lookD f fs ds = some y ∧ R y G1) Ex
theorem c_xf {X : Cx} {W : WX} {a C : Addr} {cls : Value} {d : Option Addr} {e : Expr} {we : W3} {pos : Pos} {n : Str} (T : XfC X.K C) (hno : PySem.W.findIn X.K (.ref C) n = some none) (hl : HeldD X a cls d) (he : PE X e (up X.K W we))
    (hb : attributeBase e n X.env (eval e X.env) = eval e X.env := by rfl) : PE X (.Attribute e n pos) (up X.K W (wXf a cls d C n we)) := by
  refine ⟨fun pins s σ H Q I ⟨env, G, R, Ex, re, rg, h, fe, fx⟩ => ?_⟩
  refine attr_of hb (thn (he.run pins s σ H (fun v H1 => v = .ref a ∧ ∃ dd fs v, d = some dd ∧ cls = .ref C ∧ H1 dd = some (.xd fs) ∧ fs.lookup n = some v ∧ Q v H1) I (up_go re rg h fx fun x v G1 H1 e1 rx rg1 ⟨dd, fs, ds, y, q1, q2, q3, q4, q5⟩ => ?_)) fun u s1 hh => ?_)
  · subst q1
    obtain ⟨kvs, k1, k2, k3, k4, k5⟩ := rx
    obtain ⟨v', l1, l2⟩ := look_V k4 k5 q4
    exact ⟨k1, dd, kvs, v', q3, q2, k3, l1, fe y v' G1 H1 e1 l2 rg1 q5⟩
  · obtain ⟨x, H1, I1, rx, rfl, dd, fs, v, ed, ec, ea, l, q⟩ := hh
    obtain rfl : u = Value.ref a := rx
    subst ec ed
    obtain ⟨⟨oc, od, dt, sl⟩, m, h1, h2, vs, h3⟩ := hl.ex
    dsimp only at h1 h2 h3
    subst h1 h2 h3
    have ha := (I1.pin _ (List.mem_append_left _ m)).1
    obtain ⟨mA, hns, hr⟩ := (show ObjOk X.prog X.w H1 s1.heap dd (.xd fs) from I1.hok dd _ ea)
    obtain ⟨od, ho, hlk⟩ := lookIn_ns hns
    obtain ⟨u, hu, ru⟩ := RelO.some_of (v := v) (o := mA n) (by rw [← l]; exact hr n)
    have J : PySem.W.InstAt s1.heap a ⟨.ref C, some dd, .fields vs, sl⟩ C (some od) := ⟨ha, rfl, rfl, ho⟩
    exact HandSPX.exc_get I1.kIn J T.ga T.gg T.exC (PySem.W.findObj_own T.hdC hno rfl (by rw [hlk, hu])) (handed_of ru) ⟨v, H1, I1.tok _, ru, q⟩
end L3

set_option Elab.async false
set_option linter.all false
set_option maxRecDepth 100000
namespace L3
open PySem PySem.Spec L2
open PyProof.Rows hiding St

/-! ### methods -/
structure MAt (K : PySem.W.Frag) (f : Addr) (nm ql : Str) (st : Stmt) (ps : List Str) : Prop where
  ex : ∃ fd, Fun K nm ql st f fd ∧ Binds K fd ps []
/-- a def by its address -/
structure GoodM (P : Program) (w : World) (K : PySem.W.Frag) (mg : Str → Option Value) (base : Heap) (f : Addr) (ps : List Str) (k : Nat) (S : SP3) : Prop where
  ex : ∃ fd, PySem.W.keepIn K (.ref f) = true ∧ Binds K fd ps [] ∧ FnG P w K mg base (L2.CX P w) k f fd ps (sp3 K ps.length S) ∧ ∃ oc od sl, K.lookup f = some ⟨oc, od, .func fd, sl⟩
/-- two keywords, the second parameter's first -/
theorem MAt.kwS {K : PySem.W.Frag} {f : Addr} {nm ql : Str} {st : Stmt} {ps : List Str} {k1 k2 : Str} (d : MAt K f nm ql st ps)
    (h : ∀ (kV doc pm : Value) (an : Option Addr) (cdv ct u v1 v2 : Value), bindArgs (PySem.W.fnOf nm ql (defArgs st) (defBody st) (defScope st) .none kV doc pm an cdv ct) ⟨[u], [(k1, v1), (k2, v2)]⟩ = pure (ps.zip [u, v2, v1])) :
    ∀ (fd : FuncData) (oc : Value) (od : Option Addr) (sl : Array (Option Value)), K.lookup f = some ⟨oc, od, .func fd, sl⟩ → ∀ (s : Shared) (u v1 v2 : Value), BindsTo s fd ⟨[u], [(k1, v1), (k2, v2)]⟩ (ps.zip [u, v2, v1]) := by
  intro fd oc od sl lk s u v1 v2
  obtain ⟨fd2, F, _⟩ := d.ex
  obtain ⟨oc2, od2, kV, doc, pm, an, cdv, ct, osl, rfl, lk2, _⟩ := F.ex
  rw [lk] at lk2
  cases lk2
  exact .of_eq (h kV doc pm an cdv ct u v1 v2)
section
variable {P : Program} {w : World} {K : PySem.W.Frag} {mg : Str → Option Value} {base : Heap}
theorem GoodM.mono {f : Addr} {ps : List Str} {j k : Nat} {S : SP3} (g : GoodM P w K mg base f ps j S) (h : j ≤ k) : GoodM P w K mg base f ps k S :=
  let ⟨fd, b, c, F, l⟩ := g.ex; ⟨fd, b, c, F.mono h, l⟩
theorem goodM_of {f : Addr} {nm ql : Str} {st : Stmt} {N ps : List Str} {k : Nat} {S : SP3} (d : MAt K f nm ql st ps) (sc : FnScope N ps (defScope st))
    (hb : ∀ (cd : Value) (A : Around) (outer : List Env) (s : Shared) (H : Hp) (E : XK),
      PassesOwn (model P w) (cx3 P w K mg base N ql (defScope st) f cd A outer s H E).A (cx3 P w K mg base N ql (defScope st) f cd A outer s H E).env (cx3 P w K mg base N ql (defScope st) f cd A outer s H E).xe →
      Takes (cx3 P w K mg base N ql (defScope st) f cd A outer s H E) (WEx E) → (cx3 P w K mg base N ql (defScope st) f cd A outer s H E).A.guards = some [] → Room k (cx3 P w K mg base N ql (defScope st) f cd A outer s H E).A →
      ∃ u : S3, PSs (cx3 P w K mg base N ql (defScope st) f cd A outer s H E) (defBody st) (upS K (WEx E) u) ∧ ∀ ds G R Ex, ds.length = ps.length → S ds G R Ex → u { nx := fun _ G => R .non G, rt := R, ex := Ex } (start3 N ds) G) :
    GoodM P w K mg base f ps (k + 1) S := by
  obtain ⟨fd, F, hbd⟩ := d.ex
  have kp := F.kp
  obtain ⟨oc, od, kV, doc, pm, an, cdv, ct, osl, rfl, lk, hcd⟩ := F.ex
  have hlen : ∀ vs H Q E, sp3 K ps.length S vs H Q E → vs.length = ps.length := fun vs H Q E ⟨ds, G, R, Ex, h1, h2, _⟩ => h2.length.trans h1
  refine ⟨_, kp, hbd, fn_G lk hcd sc hlen fun A outer s H vs Q E hg hr hs => ?_, _, _, _, lk⟩
  obtain ⟨u, hu, hw⟩ := hb cdv A outer s H E (passes_of rfl) (takes_of rfl rfl rfl rfl) hg hr
  refine ⟨_, hu, ?_⟩
  obtain ⟨ds, G, R, Ex, h1, h2, h3, h4, h5, h6⟩ := hs
  refine ⟨start3 N ds, G, _, ?_, h3, hw ds G R Ex h1 h4, ⟨fun env σ G' H' e re rg q => h5 .non .non G' H' e rfl rg q, h5, fun _ _ _ _ _ _ _ z => z.elim, fun _ _ _ _ _ _ _ z => z.elim, h6⟩⟩
  unfold start3 L2.start
  rw [h2.length]
  exact REnv.start h2 (REnv.nones _)
end
/-! ### C(..): a new instance -/
theorem make_guards {A : Around} {C : Addr} {us : List Value} {kw : List (Str × Value)} (h : A.guards = some []) : (A.under (.builtin "type.__call__" ⟨.ref C :: us, kw⟩)).guards = some [] := by
  first | exact h | (simp [Around.under, Code.isGuard, guardIds]; exact h)
section
variable {X : Cx} {W : WX} {k : Nat} {f C : Addr} {fd : FuncData} {ps : List Str} {S : SP3} {x : Str} {p pos : Pos} {e : Expr} {es : List Expr} {ar : A3}
theorem run_makeG {pins : List (Addr × Obj)} {σ : St} {H : Hp} {s : Shared} {Q : VK} {us bs : List Value} {kw : List (Str × Value)} {vs : List V} {sp : Sp} (M : Mk X.K C f) (F : FnG X.prog X.w X.K X.mg X.base (L2.CX X.prog X.w) k f fd ps sp) (hr : Room (k + 1) X.A) (hgd : X.A.guards = some [])
    (tk : Takes X W) (hbt : ∀ (s : Shared) (u : Value), X.K.In s.heap → BindsTo s fd ⟨u :: us, kw⟩ (ps.zip (u :: bs))) (I : Inv X pins σ H s) (r : Vals vs bs)
    (h : ∀ x dx, H x = none → H dx = none → dx ≠ x → sp (.ref x :: vs) (upd (upd H dx (.own x)) x (.ins C dx [])) (fun v H2 => v = .non ∧ Q (.ref x) H2) (WE W σ)) :
    wpAny (model X.prog X.w) X.A (call (.ref C) us kw) (EP X pins σ Q) X.xe s := by
  have hq := h (s.heap.objs.size + 1) s.heap.objs.size (I.hok.fresh (Nat.le_succ _)) (I.hok.fresh (Nat.le_refl _)) (Nat.ne_of_lt (Nat.lt_succ_self _))
  have J := Inv.made (C := C) I
  refine wpAny_call (make_map (f := f) I.kIn M.makes M.init (beq_iff_eq.mp M.fn) (codeAny_mono (F.run _ X.stack _ _ ⟨Value.ref (s.heap.objs.size + 1) :: us, kw⟩ (Value.ref (s.heap.objs.size + 1) :: bs) (V.ref (s.heap.objs.size + 1) :: vs) _ (WE W σ) (hr.make C us kw) (make_guards hgd)
    (J.env0.make C us kw) (hbt _ (Value.ref (s.heap.objs.size + 1)) J.kIn) (.cons rfl r) hq) fun r s' hq' => ?_))
  cases r with
  | error e => exact passAt tk σ pins _ _ e s' J hq'
  | ok fl =>
    cases fl with
    | ret u =>
      obtain ⟨v, H', I3, rv, ev, q3⟩ := J.after hq'
      subst ev
      exact ⟨rv, ⟨V.ref (s.heap.objs.size + 1), H', I3, rfl, q3⟩⟩
    | next => exact False.elim hq'
    | brk => exact False.elim hq'
    | cont => exact False.elim hq'
/-- what is wanted of C(ds) at G -/
def makeW (C : Addr) (S : SP3) (ds : List D) (G : GH) (R : K3) (Ex : X3) (env : Env3) : Prop := ∀ x, G x = none →
  S (.ref x :: ds) (gset G x (.ins C [] [])) (fun v G2 => v = .non ∧ ∃ fs xs, G2 x = some (.ins C fs xs) ∧ R (.ins C fs xs) (gdel G2 x)) (fun c f _ G' => Ex c f env G')
def wMake (C : Addr) (n : Nat) (S : SP3) (ar : A3) : W3 := fun env G R Ex => ar env G (fun ds G1 => ds.length + 1 = n ∧ makeW C S ds G1 R Ex env) Ex
theorem makeW_go {K : PySem.W.Frag} {σ : St} {H H1 : Hp} {G G1 : GH} {env : Env3} {R : K3} {Ex : X3} {Q : VK} {ds : List D} {vs : List V} {n : Nat} (hn : ds.length + 1 = n) (h : makeW C S ds G1 R Ex env) (e1 : Ext G H G1 H1) (re : REnv K H G env σ) (rd : RepL K H1 G1 ds vs) (rg1 : RG K H1 G1) (fe : FinE K H G R Q) (fx : FinX K W H G Ex) :
    ∀ x dx, H1 x = none → H1 dx = none → dx ≠ x → sp3 K n S (.ref x :: vs) (upd (upd H1 dx (.own x)) x (.ins C dx [])) (fun v H2 => v = .non ∧ Q (.ref x) H2) (WE W σ) := by
  intro x dx hx hdx hne
  have gx := rg1.fresh hx
  have e2 : Ext G1 H1 G1 (upd H1 dx (.own x)) := .alloc hdx (rg1.fresh hdx)
  have hx2 : upd H1 dx (.own x) x = none := by rw [upd_ne (Ne.symm hne)]; exact hx
  have e3 : Ext G1 (upd H1 dx (.own x)) (gset G1 x (.ins C [] [])) (upd (upd H1 dx (.own x)) x (.ins C dx [])) := .allocG hx2
  have rg3 : RG K (upd (upd H1 dx (.own x)) x (.ins C dx [])) (gset G1 x (.ins C [] [])) := (rg1.alloc hdx).allocG (go := .ins C [] []) hx2 ⟨dx, [], upd_same, rfl, rfl⟩
  have e13 := e1.trans (e2.trans e3)
  refine ⟨.ref x :: ds, gset G1 x (.ins C [] []), _, _, hn, ⟨.ref x, vs, rfl, rfl, RepL.ext (e2.trans e3) _ rd⟩, rg3, h x gx, ?_, ?_⟩
  · rintro d v G' H' e' rv rg' ⟨rfl, fs, xs, g1, q⟩
    obtain ⟨dx', kvs, k1, k2, k3⟩ := rg' x _ g1
    exact ⟨rv, fe (.ins C fs xs) (.ref x) (gdel G' x) H' ((e13.trans e').trans .freeze) ⟨x, dx', kvs, rfl, gdel_same, k1, k2, RepL.ext .freeze _ k3⟩ rg'.freeze q⟩
  · intro c fs d env' σ' G' H' e' re' rg' rx q
    exact fx c fs d env σ G' H' (e13.trans e') (re.ext (e13.trans e')) rg' rx q
theorem c_make (M : Mk X.K C f) (F : GoodM X.prog X.w X.K X.mg X.base f ps k S) (hr : Room (k + 1) X.A) (hgd : X.A.guards = some []) (tk : Takes X W) (hm : X.mg x = some (.ref C)) (ha : PA X (e :: es) (upA X.K W ar)) (hg : Gl X x := by rfl)
    (hdb : (x == ("__debug__" : Str)) = false := by decide) (he : starEach (e :: es) X.env = (false, eval e X.env) :: starEach es X.env := by rfl) (hpl : (backTo pos (starEach es X.env)).any (·.1) = false := by rfl) :
    PE X (.Call (.Name x p) (e :: es) [] pos) (up X.K W (wMake C ps.length S ar)) := by
  obtain ⟨fd, hk, hb, FG, _⟩ := F.ex
  refine ⟨fun pins s σ H Q I ⟨env, G, R, Ex, re, rg, h, fe, fx⟩ => ?_⟩
  refine wpAny_Call_Name_kw (ld_glob I hg hm ?_ hdb)
  refine PySem.W.callWith_K (h₀ := X.base) I.ok.mod.kin M.kp (thn (ha.run pos pins s σ H _ I (upA_go re rg h fx (Q := fun vs H1 => vs.length + 1 = ps.length ∧ ∀ x dx, H1 x = none → H1 dx = none → dx ≠ x → sp3 X.K ps.length S (.ref x :: vs) (upd (upd H1 dx (.own x)) x (.ins C dx [])) (fun v H2 => v = .non ∧ Q (.ref x) H2) (WE W σ))
    fun ds vs G1 H1 e1 rd rg1 ⟨hn, h1⟩ => ⟨by rw [rd.length]; exact hn, makeW_go hn h1 e1 re rd rg1 fe fx⟩)) fun us s1 ⟨vs, H1, I1, r, hl, q⟩ => ⟨I1.kIn, ?_⟩) he hpl
  refine run_makeG M FG hr hgd tk (fun s' u kin => ?_) I1 r q
  have b := hb s' (u :: us) kin (by rw [List.append_nil, List.length_cons, ← r.length]; exact hl)
  rw [List.append_nil] at b
  exact b
/-- C(k1 = .., k2 = ..), two keywords, the second parameter's first -/
def wMakeS (C : Addr) (S : SP3) (ar : A3) : W3 := fun env G R Ex => ar env G (fun ds G1 => ∃ a b, ds = [a, b] ∧ makeW C S [b, a] G1 R Ex env) Ex
theorem k_nil : PK X [] (upA X.K W aNil) := ⟨fun pos pins s σ H Q I ⟨env, G, R, Ex, re, rg, h, fe, fx⟩ => pk_nil.run pos pins s σ H Q I (fe [] [] G H .refl rfl rg h)⟩
theorem k_cons {kws : List Keyword} {nm : Option Str} {we : W3} {kpos : Pos} (ha : PE X e (up X.K W we)) (hr : PK X kws (upA X.K W ar)) : PK X (⟨nm, e, kpos⟩ :: kws) (upA X.K W (aCons we ar)) :=
  ⟨fun pos pins s σ H Q I ⟨env, G, R, Ex, re, rg, h, fe, fx⟩ => (pk_cons ha hr).run pos pins s σ H Q I (by
    refine up_go re rg h fx fun x a G1 H1 e1 rx rg1 h1 => ?_
    refine upA_go (re.ext e1) rg1 h1 (fx.ext e1) fun xs vs G2 H2 e2 rs rg2 h2 => ?_
    exact fe (x :: xs) (a :: vs) G2 H2 (e1.trans e2) ⟨a, vs, rfl, rx.ext e2, rs⟩ rg2 h2)⟩
theorem c_makeS {kws : List Keyword} {k1 k2 : Str} (M : Mk X.K C f) (F : GoodM X.prog X.w X.K X.mg X.base f ps k S) (hr : Room (k + 1) X.A) (hgd : X.A.guards = some []) (tk : Takes X W) (hm : X.mg x = some (.ref C))
    (hbk : ∀ (fd : FuncData) (oc : Value) (od : Option Addr) (sl : Array (Option Value)), X.K.lookup f = some ⟨oc, od, .func fd, sl⟩ → ∀ (s : Shared) (u v1 v2 : Value), BindsTo s fd ⟨[u], [(k1, v1), (k2, v2)]⟩ (ps.zip [u, v2, v1]))
    (hps : ps.length = 3) (ha : PK X kws (upA X.K W ar)) (hall : (backToKw pos (keywordEach kws X.env)).all (·.1.isSome) = true := by rfl) (hks : (backToKw pos (keywordEach kws X.env)).filterMap (·.1) = [k1, k2] := by rfl) (hg : Gl X x := by rfl)
    (hdb : (x == ("__debug__" : Str)) = false := by decide) (hpl : ((backTo pos (starEach [] X.env)).any (·.1) || (backToKw pos (keywordEach kws X.env)).any (·.1.isNone)) = false := by rfl) :
    PE X (.Call (.Name x p) [] kws pos) (up X.K W (wMakeS C S ar)) := by
  obtain ⟨fd, hk, hb, FG, oc, od, sl, lk⟩ := F.ex
  have hbt := hbk fd oc od sl lk
  refine ⟨fun pins s σ H Q I ⟨env, G, R, Ex, re, rg, h, fe, fx⟩ => ?_⟩
  refine wpAny_Call_Name_kw (ld_glob I hg hm ?_ hdb)
  refine PySem.W.callWith_KW0 (h₀ := X.base) I.ok.mod.kin M.kp hall (thn (ha.run pos pins s σ H _ I (upA_go re rg h fx (Q := fun vs H1 => ∃ v1 v2, vs = [v1, v2] ∧ ∀ x dx, H1 x = none → H1 dx = none → dx ≠ x → sp3 X.K ps.length S (.ref x :: [v2, v1]) (upd (upd H1 dx (.own x)) x (.ins C dx [])) (fun v H2 => v = .non ∧ Q (.ref x) H2) (WE W σ))
    fun ds vs G1 H1 e1 rd rg1 ⟨a, b, hd, h1⟩ => ?_)) fun us s1 ⟨vs, H1, I1, r, v1, v2, ev, q⟩ => ⟨I1.kIn, ?_⟩) hpl
  · subst hd
    obtain ⟨v1, r1, q1, a1, v2, r2, q2, a2, q3⟩ := rd
    have q3 : r2 = [] := q3
    subst q3 q2 q1
    exact ⟨v1, v2, rfl, makeW_go (n := ps.length) (by rw [hps]; rfl) h1 e1 re ⟨v2, [v1], rfl, a2, v1, [], rfl, a1, rfl⟩ rg1 fe fx⟩
  · subst ev
    obtain ⟨u1, u2, rfl, r1, r2⟩ := vals2 r
    rw [hks]
    exact run_makeG M FG hr hgd tk (fun s' u kin => hbt s' u u1 u2) I1 (.cons r2 (.cons r1 .nil)) q
end
/-! ### fields -/
def asI (C : Addr) (G : GH) : D → Option (List Str × List D)
  | .ins C' fs xs => if C' = C then some (fs, xs) else none
  | .ref p => match G p with
    | some (.ins C' fs xs) => if C' = C then some (fs, xs) else none
    | _ => none
  | _ => none
theorem asI_at {K : PySem.W.Frag} {H : Hp} {G : GH} {C : Addr} {d : D} {v : V} {fs : List Str} {xs : List D} (r : Rep K H G d v) (g : RG K H G) (h : asI C G d = some (fs, xs)) : ∃ a dx kvs, v = .ref a ∧ H a = some (.ins C dx kvs) ∧ kvs.map (·.1) = fs ∧ RepL K H G xs (kvs.map (·.2)) := by
  cases d <;> simp only [asI] at h <;> try cases h
  · rename_i C' fs' xs'
    split at h
    · rename_i e
      subst e
      cases h
      obtain ⟨a, dx, kvs, q1, _, q3, q4, q5⟩ := r
      exact ⟨a, dx, kvs, q1, q3, q4, q5⟩
    · cases h
  · rename_i p
    split at h
    · rename_i C' fs' xs' e
      split at h
      · rename_i e2
        subst e2
        cases h
        obtain ⟨dx, kvs, k1, k2, k3⟩ := g p _ e
        exact ⟨p, dx, kvs, r, k1, k2, k3⟩
      · cases h
    · cases h
def wFld (C : Addr) (f : Str) (w : W3) : W3 := fun env G R Ex => w env G (fun x G1 => ∃ fs xs y, asI C G1 x = some (fs, xs) ∧ lookD f fs xs = some y ∧ R y G1) Ex
theorem c_fld {X : Cx} {W : WX} {C : Addr} {e : Expr} {we : W3} {f : Str} {pos : Pos} (c : Cls X.K C) (n : NoAttr X.K C f) (he : PE X e (up X.K W we)) (hb : attributeBase e f X.env (eval e X.env) = eval e X.env := by rfl) : PE X (.Attribute e f pos) (up X.K W (wFld C f we)) :=
  PE.imp (pe_fld he hb) fun σ H Q ⟨env, G, R, Ex, re, rg, h, fe, fx⟩ => by
    refine up_go re rg h fx fun x v G1 H1 e1 rx rg1 ⟨fs, xs, y, q1, q2, q3⟩ => ?_
    obtain ⟨a, dx, kvs, rfl, k1, k2, k3⟩ := asI_at rx rg1 q1
    obtain ⟨u, l1, l2⟩ := look_V k2 k3 q2
    exact ⟨a, C, dx, kvs, u, rfl, k1, c, n, l1, fe y u G1 H1 e1 l2 rg1 q3⟩
def putN (f : Str) : List Str → List Str
  | [] => [f]
  | g :: r => if g = f then g :: r else g :: putN f r
def putX (f : Str) (y : D) : List Str → List D → List D
  | g :: r, x :: xs => if g = f then y :: xs else x :: putX f y r xs
  | _, _ => [y]
theorem put_V {K : PySem.W.Frag} {H : Hp} {G : GH} {f : Str} {y : D} {v : V} (ry : Rep K H G y v) : ∀ {kvs : List (Str × V)} {fs : List Str} {xs : List D}, kvs.map (·.1) = fs → RepL K H G xs (kvs.map (·.2)) →
    (putF f v kvs).map (·.1) = putN f fs ∧ RepL K H G (putX f y fs xs) ((putF f v kvs).map (·.2))
  | [], fs, xs, e, r => by
    subst e
    cases xs with
    | nil => exact ⟨rfl, v, [], rfl, ry, rfl⟩
    | cons x xs =>
      obtain ⟨_, _, q, _⟩ := r
      cases q
  | (g, u) :: kvs, fs, [], e, r => by cases r
  | (g, u) :: kvs, fs, x :: xs, e, r => by
    subst e
    obtain ⟨u', us, q, a, t⟩ := r
    rw [List.map_cons] at q
    obtain ⟨rfl, rfl⟩ := List.cons.inj q
    show ((if g = f then (g, v) :: kvs else (g, u) :: putF f v kvs).map (·.1)) = (if g = f then g :: kvs.map (·.1) else g :: putN f (kvs.map (·.1))) ∧ RepL K H G (if g = f then y :: xs else x :: putX f y (kvs.map (·.1)) xs) ((if g = f then (g, v) :: kvs else (g, u) :: putF f v kvs).map (·.2))
    by_cases hf : g = f
    · rw [if_pos hf, if_pos hf, if_pos hf]
      exact ⟨rfl, v, _, rfl, ry, t⟩
    · rw [if_neg hf, if_neg hf, if_neg hf]
      obtain ⟨i1, i2⟩ := put_V ry (kvs := kvs) rfl t
      exact ⟨by rw [List.map_cons, i1], u, _, rfl, a, i2⟩
def wFldS (C : Addr) (f : Str) (wo wv : W3) : S3 := fun E env G => wv env G (fun y G1 => wo env G1 (fun x G2 => ∃ p fs xs, x = .ref p ∧ G2 p = some (.ins C fs xs) ∧ fs.length < 1000 ∧ E.nx env (gset G2 p (.ins C (putN f fs) (putX f y fs xs)))) E.ex) E.ex
theorem s_fld {X : Cx} {W : WX} {C : Addr} {o value : Expr} {wo wv : W3} {f : Str} {pos pos' : Pos} (c : Cls X.K C) (n : NoAttr X.K C f) (ho : PE X o (up X.K W wo)) (hv : PE X value (up X.K W wv)) (hs : swapsWith value (some (.Attribute o f pos')) pos.line X.env = pure false := by rfl) :
    PS X (.Assign [.Attribute o f pos'] value pos) (upS X.K W (wFldS C f wo wv)) := PS.imp (ps_fld ho hv hs) fun D σ H ⟨env, G, E, re, rg, h, ff⟩ => by
  refine up_go re rg h ff.ex fun y v G1 H1 e1 ry rg1 h1 => ?_
  refine up_go (re.ext e1) rg1 h1 (ff.ex.ext e1) fun x u G2 H2 e2 rx rg2 ⟨p, fs, xs, q1, q2, q3, q4⟩ => ?_
  subst q1
  obtain rfl : u = V.ref p := rx
  obtain ⟨dx, kvs, k1, k2, k3⟩ := rg2 p _ q2
  obtain ⟨i1, i2⟩ := put_V (f := f) (ry.ext e2) k2 k3
  have ew : Ext G2 H2 (gset G2 p (.ins C (putN f fs) (putX f y fs xs))) (upd H2 p (.ins C dx (putF f v kvs))) := .write q2
  have e12 := (e1.trans e2).trans ew
  refine ⟨p, C, dx, kvs, rfl, k1, c, n, by rw [← k2, List.length_map] at q3; exact q3, ff.nx env σ _ _ e12 (re.ext e12) ?_ q4⟩
  exact rg2.write (go := .ins C (putN f fs) (putX f y fs xs)) q2 ⟨dx, _, upd_same, i1, RepL.ext ew _ i2⟩
/-! ### isinstance(x, C) -/
/-- what isinstance asks of an own class's instances -/
structure InsF (K : PySem.W.Frag) (C : Addr) : Prop where
  cl : Cls K C
  ha : PySem.W.findIn K (.ref C) "__class__" = some (some (.builtin "object.__class__"))
  hn : PySem.W.specialIn K (.builtin "object.__class__") "__get__" = some (some (.builtin "getset_descriptor.__get__"))
  htk : PySem.W.takesIn K (.builtin "object.__class__") = some true
  hm : PySem.W.mroIn K C (.type "object") = some true
def tyI (K : PySem.W.Frag) (G : GH) (x : D) (t : Value) : Prop := tyD G x = some t ∨ ∃ C q, asI C G x = some q ∧ InsF K C ∧ t = .ref C
theorem tyI_X {K : PySem.W.Frag} {H : Hp} {G : GH} {x : D} {a : V} {t : Value} (r : Rep K H G x a) (g : RG K H G) (h : tyI K G x t) : TyX K H a t := by
  rcases h with h | ⟨C, ⟨fs, xs⟩, h1, h2, rfl⟩
  · exact tyD_X r g h
  · obtain ⟨p, dx, kvs, rfl, k1, _⟩ := asI_at r g h1
    exact .base (.ins k1 h2.cl h2.ha h2.hn h2.htk h2.hm)
def fIsI (K : PySem.W.Frag) : FA := fun xs G R => match xs with
  | [x, c] => ∃ t u b, tyI K G x t ∧ clsD c = some u ∧ PySem.W.kitOne K t u = some b ∧ R (.bl b) G
  | _ => False
theorem lift_isI {K : PySem.W.Frag} : LiftC K (rIsi3 K) (fIsI K) := by
  intro xs vs H G R Q r g h fe
  match xs, r, h with
  | [x, c], ⟨v1, r1, e1, a1, v2, r2, e2, a2, e3⟩, ⟨t, u, b, q1, q2, q3, q4⟩ =>
    subst e3 e2 e1
    exact .inl ⟨v1, v2, t, u, b, rfl, clsD_V a2 q2, tyI_X a1 g q1, q3, fe (.bl b) _ G H .refl rfl g q4⟩
/-! ### ==, != by an own __eq__ -/
theorem ne_K {prog : Program} {w : World} {A : Around} {E : Value → Shared → Prop} {s : Shared} {K : PySem.W.Frag} {x C f : Addr} {ox : Obj} {od : Option Obj} {b tb : Value} {Q : Value → Shared → Prop} (hu : A.units + 1 < cLine) (kin : K.In s.heap) (J : PySem.W.InstAt s.heap x ox C od)
    (hb : PySem.W.Looks (model prog w) s.heap (typeOf b) tb) (hn : PySem.W.notFirst K C tb = true) (hne : PySem.W.findIn K (.ref C) "__ne__" = some (some (.builtin "object.__ne__"))) (hm : PySem.W.mroIn K C (.type "object") = some true)
    (heq : PySem.W.findIn K (.ref C) "__eq__" = some (some (.ref f))) (hf : PySem.W.isFn K (.ref f) = true)
    (h : wpAny (model prog w) A.in1 (call (.ref f) [.ref x, b]) (fun v s' => ∃ c, v = .bool c ∧ Q (.bool (!c)) s') E s) : wpAny (model prog w) A (richCompare .NotEq (.ref x) b) Q E s := by
  have SB := PySem.F.cmp_object.ne
  have sub : PySem.W.Looks (model prog w) s.heap (isInstance (.ref x) (.type "object")) true := J.type.andThen (PySem.W.looks_mroIn kin hm)
  have inner : ∀ {Q2 : Fin → Shared → Prop}, (∀ c s', Q (.bool c) s' → Q2 (.done (.ret (.bool c))) s') → wpAny (model prog w) A.in1 (Builtin.«object.__ne__» ⟨[.ref x, b], []⟩) Q2 E s := fun {Q2} k => by
    unfold Builtin.«object.__ne__»
    refine wpAny_bind (wpAny_of_eq (a := ((Value.ref x : Value), [b])) (by first | rfl | (simp only [Builtin.slotArgs]; rfl)) ?_)
    refine wpAny_bind (wpAny_cRoomFor (show A.in1.units < cLine from hu) ?_)
    refine wpAny_bind (PySem.W.ifBound_K kin J heq hf (wpAny_mono h (fun v s' hv => ?_) fun _ _ e => e))
    obtain ⟨c, rfl, hq⟩ := hv
    show wpAny _ _ (do let r ← truthy (.bool c); ret (.bool (!r))) _ _ _
    exact wpAny_bind (wpAny_truthy_bool (wpAny_pure (k _ _ hq)))
  have one : wpAny (model prog w) A (tryCompare (.ref x) (cmpInfo .NotEq).2.1 b) (fun r s' => ∃ v, r = some v ∧ Q v s') E s := by
    have back : wpAny (model prog w) A (call (.builtin "object.__ne__") ([.ref x] ++ [b]) >>= fun v => pure (some v)) (fun r s' => ∃ c, r = some (.bool c) ∧ Q (.bool c) s') E s := by
      refine wpAny_bind (wpAny_call (codeAny_call_builtin SB.plain PySem.F.cmpEntry_ne (@PySem.W.check_slot (model prog w) _ _ s "object.__ne__" "object" "__ne__" (.ref x) [b] [] _ PySem.F.cmpKind_ne PySem.F.cmpSplit_ne sub (PySem.F.cmpArgs_ne _ _) ?_)))
      exact inner fun c s' q => wpAny_pure ⟨c, rfl, q⟩
    have two : wpAny (model prog w) A (callSpecialIfBound? (.ref x) (cmpInfo .NotEq).2.1 [b]) (fun r s' => ∃ c, r = some (.bool c) ∧ Q (.bool c) s') E s := by
      simp only [callSpecialIfBound?, bindSpecialIfBound?]
      refine wpAny_holding (wpAny_bind (wpAny_bind (wpAny_bind (J.type.here ((PySem.W.looks_findIn kin hne).here ?_)))))
      refine wpAny_bind (wpAny_askSetting (wpAny_ite ?_))
      simp only [SB.bind]
      split
      · exact wpAny_bind (wpAny_pure (wpAny_pure (by exact back)))
      · exact wpAny_tryCatch (wpAny_bind (wpAny_pure (wpAny_pure (by exact back))))
    unfold tryCompare
    refine wpAny_bind (wpAny_mono two (fun r s' hr => ?_) fun _ _ e => e)
    obtain ⟨c, rfl, q⟩ := hr
    exact wpAny_pure ⟨_, rfl, q⟩
  unfold richCompare
  simp only [oneThing_ref]
  refine wpAny_holding (wpAny_bind (wpAny_cRoomFor (Nat.lt_of_succ_lt hu) ?_))
  refine wpAny_bind (J.type.here (wpAny_bind (hb.here ?_)))
  split
  · rename_i q
    have e : PySem.W.subIn K tb (.ref C) = some false := by
      rcases Bool.or_eq_true_iff.mp hn with e | e
      · rw [beq_iff_eq.mp e] at q; simp at q
      · exact beq_iff_eq.mp e
    refine wpAny_bind ((PySem.W.looks_subIn kin e).here ?_)
    simp only [Bool.false_eq_true, if_false]
    refine wpAny_bind (wpAny_mono one (fun r s' z => ?_) fun _ _ e => e)
    obtain ⟨v, rfl, hq⟩ := z
    exact wpAny_pure hq
  · refine wpAny_bind (wpAny_pure ?_)
    simp only [Bool.false_eq_true, if_false]
    refine wpAny_bind (wpAny_mono one (fun r s' z => ?_) fun _ _ e => e)
    obtain ⟨v, rfl, hq⟩ := z
    exact wpAny_pure hq

/-- what the top says of a class with an own __eq__ -/
structure EqF (K : PySem.W.Frag) (C f : Addr) : Prop where
  eq : PySem.W.findIn K (.ref C) "__eq__" = some (some (.ref f))
  fn : PySem.W.isFn K (.ref f) = true
  ne : PySem.W.findIn K (.ref C) "__ne__" = some (some (.builtin "object.__ne__"))
  hm : PySem.W.mroIn K C (.type "object") = some true
def rEqI (K : PySem.W.Frag) (C : Addr) (S : SP3) : R2 := fun x y H Q => (∃ a dx fs, x = .ref a ∧ H a = some (.ins C dx fs)) ∧ (∃ t, TyX K H y t ∧ PySem.W.notFirst K C t = true) ∧ sp3 K 2 S [x, y] H Q (fun _ _ _ => False)
def rNeI (K : PySem.W.Frag) (C : Addr) (S : SP3) : R2 := fun x y H Q => (∃ a dx fs, x = .ref a ∧ H a = some (.ins C dx fs)) ∧ (∃ t, TyX K H y t ∧ PySem.W.notFirst K C t = true) ∧ sp3 K 2 S [x, y] H (fun v H' => ∃ c, v = .bl c ∧ Q (.bl (!c)) H') (fun _ _ _ => False)
section
variable {X : Cx} {k : Nat} {f C : Addr} {ps : List Str} {S : SP3}
theorem own_run {A : Around} {pins : List (Addr × Obj)} {σ : St} {H : Hp} {s : Shared} {Q : VK} {us : List Value} {vs : List V} (F : GoodM X.prog X.w X.K X.mg X.base f ps k S) (hp : ps.length = 2) (hr : Room k A) (hgd : A.guards = some []) (hfr : A.frames = X.A.frames) (I : Inv X pins σ H s) (r : Vals vs us)
    (h : sp3 X.K 2 S vs H Q (fun _ _ _ => False)) : wpAny (model X.prog X.w) A (call (.ref f) us) (EP X pins σ Q) X.xe s := by
  obtain ⟨fd, hk, hb, FG, _⟩ := F.ex
  rw [hp] at FG
  have hl : us.length = ps.length := by
    obtain ⟨ds, _, _, _, h1, h2, _⟩ := h
    rw [← r.length, h2.length, h1, hp]
  have b := hb s us I.kIn (by rw [List.append_nil]; exact hl)
  rw [List.append_nil] at b
  have e0 := I.env0
  have e1 : Env0 X.prog X.w X.K X.mg X.base A X.stack s H := ⟨by rw [hfr]; exact e0.frames, e0.mod, e0.bs, e0.bsz, e0.funs, e0.frf, e0.hok, e0.bare⟩
  refine wpAny_call (codeAny_mono (FG.run A X.stack s H ⟨us, []⟩ us vs Q (fun _ _ _ => False) hr hgd e1 b r h) fun r s' hq => ?_)
  cases r with
  | error e => exact passAt (W := W0) takes0 σ pins H s e s' I hq
  | ok fl =>
    cases fl with
    | ret u => exact I.after hq
    | next => exact False.elim hq
    | brk => exact False.elim hq
    | cont => exact False.elim hq
theorem op_eqI (F : GoodM X.prog X.w X.K X.mg X.base f ps k S) (hp : ps.length = 2) (E : EqF X.K C f) (hr : Room (k + 1) X.A) (hgd : X.A.guards = some []) : OpR X (compareOp .Eq) (rEqI X.K C S) := by
  rintro pins s σ H x y v u Q I rx ry ⟨⟨a, dx, fs, rfl, ha⟩, ⟨t, ty, hn⟩, hsp⟩
  obtain rfl : v = Value.ref a := rx
  obtain ⟨mA, O, _⟩ := ins_get I.hok ha
  obtain ⟨od, J, _⟩ := O.look
  obtain ⟨P, Z, p, _⟩ := kit_of I ry ty
  obtain ⟨m, hF⟩ := I.fr
  show wpAny (model X.prog X.w) X.A (richCompare .Eq (.ref a) u) (EP X pins σ Q) X.xe s
  refine PySem.W.cmp_K (op := .Eq) hr.units0 hF I.ok.mod.kin J (Z.ty _ _ I.kIn p) hn E.eq E.fn (wpAny_mono (own_run F hp (hr.mono (Nat.le_succ _)) hgd rfl I (.cons (show RelV (V.ref a) (Value.ref a) from rfl) (.cons ry .nil)) hsp) (fun r s' hq => ?_) fun _ _ e => e)
  obtain ⟨z, H', I', rz, q⟩ := hq
  have q' : EP X pins σ Q r s' := ⟨z, H', I', rz, q⟩
  cases r with
  | notImplemented => cases z <;> first | (cases rz; done) | (obtain ⟨_, rz⟩ := rz; cases rz)
  | _ => exact q'
theorem op_neI (F : GoodM X.prog X.w X.K X.mg X.base f ps k S) (hp : ps.length = 2) (E : EqF X.K C f) (hr : Room (k + 1) X.A) (hgd : X.A.guards = some []) : OpR X (compareOp .NotEq) (rNeI X.K C S) := by
  rintro pins s σ H x y v u Q I rx ry ⟨⟨a, dx, fs, rfl, ha⟩, ⟨t, ty, hn⟩, hsp⟩
  obtain rfl : v = Value.ref a := rx
  obtain ⟨mA, O, _⟩ := ins_get I.hok ha
  obtain ⟨od, J, _⟩ := O.look
  obtain ⟨P, Z, p, _⟩ := kit_of I ry ty
  show wpAny (model X.prog X.w) X.A (richCompare .NotEq (.ref a) u) (EP X pins σ Q) X.xe s
  refine ne_K (by have := hr.un; omega) I.kIn J (Z.ty _ _ I.kIn p) hn E.ne E.hm E.eq E.fn (wpAny_mono (own_run F hp hr.in1 hgd rfl I (.cons (show RelV (V.ref a) (Value.ref a) from rfl) (.cons ry .nil)) hsp) (fun r s' hq => ?_) fun _ _ e => e)
  obtain ⟨z, H', I', rz, c, rfl, q⟩ := hq
  obtain rfl : r = Value.bool c := rz
  exact ⟨c, rfl, .bl (!c), H', I', rfl, q⟩
end
def fEqI (K : PySem.W.Frag) (C : Addr) (S : SP3) : F2 := fun x y G R => (asI C G x).isSome = true ∧ (∃ t, tyI K G y t ∧ PySem.W.notFirst K C t = true) ∧ S [x, y] G R noX
def fNeI (K : PySem.W.Frag) (C : Addr) (S : SP3) : F2 := fun x y G R => (asI C G x).isSome = true ∧ (∃ t, tyI K G y t ∧ PySem.W.notFirst K C t = true) ∧ S [x, y] G (fun d G' => ∃ c, d = .bl c ∧ R (.bl (!c)) G') noX
theorem lift_eqI {K : PySem.W.Frag} {C : Addr} {S : SP3} : Lift2 K (rEqI K C S) (fEqI K C S) := by
  rintro x y a b H G R Q rx ry rg ⟨h1, ⟨t, h2, h3⟩, h4⟩ fe
  obtain ⟨⟨fs, xs⟩, h1⟩ := Option.isSome_iff_exists.mp h1
  obtain ⟨p, dx, kvs, e, k1, _⟩ := asI_at rx rg h1
  exact ⟨⟨p, dx, kvs, e, k1⟩, ⟨t, tyI_X ry rg h2, h3⟩, [x, y], G, R, noX, rfl, ⟨a, [b], rfl, rx, b, [], rfl, ry, rfl⟩, rg, h4, fe, fun _ _ _ _ _ _ _ _ _ _ _ z => z.elim⟩
theorem lift_neI {K : PySem.W.Frag} {C : Addr} {S : SP3} : Lift2 K (rNeI K C S) (fNeI K C S) := by
  rintro x y a b H G R Q rx ry rg ⟨h1, ⟨t, h2, h3⟩, h4⟩ fe
  obtain ⟨⟨fs, xs⟩, h1⟩ := Option.isSome_iff_exists.mp h1
  obtain ⟨p, dx, kvs, e, k1, _⟩ := asI_at rx rg h1
  refine ⟨⟨p, dx, kvs, e, k1⟩, ⟨t, tyI_X ry rg h2, h3⟩, [x, y], G, _, noX, rfl, ⟨a, [b], rfl, rx, b, [], rfl, ry, rfl⟩, rg, h4, ?_, fun _ _ _ _ _ _ _ _ _ _ _ z => z.elim⟩
  rintro d v G' H' e' rv rg' ⟨c, rfl, q⟩
  exact ⟨c, rv, fe (.bl (!c)) _ G' H' e' rfl rg' q⟩
/-! ### what the top says of classes -/
def clsB (x : Str) (flds : List Str) (K : PySem.W.Frag) : Bool := He.eqO (PySem.W.nsIn K mainGlobals x) (some (some (.ref (He.ga K x)))) && (PySem.W.plainGet K (He.ga K x) Str.empty && (PySem.W.hasDictIn K (He.ga K x) && (PySem.W.plainOver K (He.ga K x) &&
  (He.eqO (PySem.W.findIn K (.ref (He.ga K x)) "__setattr__") (some (some (.builtin "object.__setattr__"))) && (PySem.W.makesIn K (He.ga K x) && (PySem.W.keepIn K (.ref (He.ga K x)) && (flds.all (fun f => He.eqO (PySem.W.findIn K (.ref (He.ga K x)) f) (some none)) &&
  (He.eqO (PySem.W.findIn K (.ref (He.ga K x)) "__class__") (some (some (.builtin "object.__class__"))) && (He.eqO (PySem.W.specialIn K (.builtin "object.__class__") "__get__") (some (some (.builtin "getset_descriptor.__get__"))) && (decide (PySem.W.takesIn K (.builtin "object.__class__") = some true) &&
  (decide (PySem.W.mroIn K (He.ga K x) (.type "object") = some true) && (decide (PySem.W.kitOne K (.ref (He.ga K x)) (.ref (He.ga K x)) = some true) && (["NoneType", "bool", "int", "str", "tuple", "list", "dict"].all fun n => decide (PySem.W.kitOne K (.type n) (.ref (He.ga K x)) = some false) && PySem.W.notFirst K (He.ga K x) (.type n))))))))))))))
structure ClsF (K : PySem.W.Frag) (mg : Str → Option Value) (x : Str) (C : Addr) (flds : List Str) : Prop where
  gC : mg x = some (.ref C)
  i : InsF K C
  makes : PySem.W.makesIn K C = true
  kp : PySem.W.keepIn K (.ref C) = true
  no : ∀ f ∈ flds, NoAttr K C f
  me : PySem.W.kitOne K (.ref C) (.ref C) = some true
  ty : ∀ n ∈ ["NoneType", "bool", "int", "str", "tuple", "list", "dict"], PySem.W.kitOne K (.type n) (.ref C) = some false ∧ PySem.W.notFirst K C (.type n) = true
theorem clsB_ok {K : PySem.W.Frag} {h : Heap} {mg : Str → Option Value} (kin : K.In h) (G : h.Ns mainGlobals mg) {x : Str} {flds : List Str} (c : clsB x flds K = true) : ClsF K mg x (He.ga K x) flds := by
  unfold clsB at c
  simp only [Bool.and_eq_true, List.all_eq_true] at c
  obtain ⟨c1, c2, c3, c4, c5, c6, c7, c8, c9, c10, c11, c12, c13, c14⟩ := c
  exact ⟨PySem.W.mg_of kin G (He.eqO_ok c1), ⟨⟨c2, c3, c4, He.eqO_ok c5⟩, He.eqO_ok c9, He.eqO_ok c10, of_decide_eq_true c11, of_decide_eq_true c12⟩, c6, c7, fun f hf => He.eqO_ok (c8 f hf), of_decide_eq_true c13, fun n hn => ⟨of_decide_eq_true (c14 n hn).1, (c14 n hn).2⟩⟩
/-- a method m of the class x -/
def metB (x m : Str) (K : PySem.W.Frag) : Bool := He.eqO (PySem.W.findIn K (.ref (He.ga K x)) m) (some (some (.ref (He.ma K (He.ga K x) m)))) && PySem.W.isFn K (.ref (He.ma K (He.ga K x) m))
theorem metB_ok {K : PySem.W.Frag} {x m : Str} (c : metB x m K = true) : PySem.W.findIn K (.ref (He.ga K x)) m = some (some (.ref (He.ma K (He.ga K x) m))) ∧ PySem.W.isFn K (.ref (He.ma K (He.ga K x) m)) = true :=
  let ⟨c1, c2⟩ := Bool.and_eq_true_iff.mp c; ⟨He.eqO_ok c1, c2⟩
def noNeB (x : Str) (K : PySem.W.Frag) : Bool := He.eqO (PySem.W.findIn K (.ref (He.ga K x)) "__ne__") (some (some (.builtin "object.__ne__")))
theorem ClsF.mkF {K : PySem.W.Frag} {mg : Str → Option Value} {x : Str} {flds : List Str} (c : ClsF K mg x (He.ga K x) flds) (m : metB x "__init__" K = true) : Mk K (He.ga K x) (He.ma K (He.ga K x) "__init__") :=
  ⟨c.makes, (metB_ok m).1, (metB_ok m).2, c.kp⟩
theorem ClsF.eqF {K : PySem.W.Frag} {mg : Str → Option Value} {x : Str} {flds : List Str} (c : ClsF K mg x (He.ga K x) flds) (m : metB x "__eq__" K = true) (n : noNeB x K = true) : EqF K (He.ga K x) (He.ma K (He.ga K x) "__eq__") :=
  ⟨(metB_ok m).1, (metB_ok m).2, He.eqO_ok n, c.i.hm⟩
/-- a method among the defs that the top left -/
def dfm (C m ql : Str) (st : Stmt) : He.DefD := ⟨(C, some m), m, ql, defArgs st, defBody st, defScope st, [], []⟩
section
variable {fn : List He.DefD} {fs : List Fc} {ex : PySem.W.Frag → Bool} {K : PySem.W.Frag} {mg : Str → Option Value} {h : Heap}
theorem SaysM.metAt (c : SaysM fn ex K) (i : Nat) {C m ql : Str} {st : Stmt} {ps : List Str} (hi : fn[i]? = some (dfm C m ql st))
    (hb : ∀ (kV doc pm : Value) (an : Option Addr) (cdv ct : Value) (us : List Value), us.length = ps.length → bindArgs (PySem.W.fnOf m ql (defArgs st) (defBody st) (defScope st) .none kV doc pm an cdv ct) ⟨us, []⟩ = pure (ps.zip us)) : MAt K (He.ma K (He.ga K C) m) m ql st ps := by
  obtain ⟨fd, F⟩ := c.funD i hi
  have b : Binds K fd ps [] := FunD.bindsN F hb
  obtain ⟨oc, od, dV, kV, doc, pm, an, cdv, ct, osl, e, lk, hcd, hD, _⟩ := F.ex
  have kp := F.kp
  have hd : dV = .none := by
    rcases hD with ⟨_, a⟩ | ⟨a, _⟩
    · exact a
    · exact absurd rfl a
  subst hd
  exact ⟨fd, ⟨⟨oc, od, kV, doc, pm, an, cdv, ct, osl, e, lk, hcd⟩, kp⟩, b⟩
theorem Top.met (T : Top fn fs K mg) (i : Nat) {C m ql : Str} {st : Stmt} {ps : List Str} (hi : fn[i]? = some (dfm C m ql st))
    (hb : ∀ (kV doc pm : Value) (an : Option Addr) (cdv ct : Value) (us : List Value), us.length = ps.length → bindArgs (PySem.W.fnOf m ql (defArgs st) (defBody st) (defScope st) .none kV doc pm an cdv ct) ⟨us, []⟩ = pure (ps.zip us)) : MAt K (He.ma K (He.ga K C) m) m ql st ps := T.c.metAt i hi hb
theorem Top.cls (T : Top fn fs K mg) (i : Nat) {x : Str} {flds : List Str} (h : fs[i]? = some (.own (clsB x flds))) : ClsF K mg x (He.ga K x) flds := let ⟨_, kin, G⟩ := T.ex; clsB_ok kin G (T.own i h)
end
/-- an exception class with its own __init__ -/
def oexB (x : Str) (K : PySem.W.Frag) : Bool := match K.lookup (He.ga K x) with
  | some ⟨.type c, _, .cls cd, sl⟩ => decide (c = "type") && (match cd.mro, sl.toList with
    | .ref C' :: bm, [_, _, _, _, some (.builtin n), _] => decide (C' = He.ga K x) && (decide (n = "ValueError.__new__") && (!cd.hasDel && (cd.hasDict && PySem.HandSPX.refsVE bm)))
    | _, _ => false)
  | _ => false
def excFB (x : Str) (flds : List Str) (K : PySem.W.Frag) : Bool := He.eqO (PySem.W.nsIn K mainGlobals x) (some (some (.ref (He.ga K x)))) && (oexB x K && (PySem.W.keepIn K (.ref (He.ga K x)) && (He.eqO (PySem.W.findIn K (.ref (He.ga K x)) "__setattr__") (some (some (.builtin "object.__setattr__"))) &&
      (decide (PySem.W.subIn K (.ref (He.ga K x)) (.type "BaseException") = some true) && (decide (PySem.W.typeIn K (.ref (He.ga K x)) = some (.type "type")) && (metB x "__init__" K &&
      (He.eqO (PySem.W.findIn K (.ref (He.ga K x)) "__getattribute__") (some (some (.builtin "BaseException.__getattribute__"))) && (He.eqO (PySem.W.findIn K (.ref (He.ga K x)) "__getattr__") (some none) &&
      (PySem.W.hasDictIn K (He.ga K x) && (He.eqO (PySem.W.findIn K (.ref (He.ga K x)) "__class__") (some (some (.builtin "object.__class__"))) &&
      (He.eqO (PySem.W.specialIn K (.builtin "object.__class__") "__get__") (some (some (.builtin "getset_descriptor.__get__"))) && (decide (PySem.W.takesIn K (.builtin "object.__class__") = some true) &&
      (decide (PySem.W.mroIn K (He.ga K x) (.type "object") = some true) && flds.all (fun f => He.eqO (PySem.W.findIn K (.ref (He.ga K x)) f) (some none)))))))))))))))
structure ExcF (K : PySem.W.Frag) (mg : Str → Option Value) (x : Str) (C : Addr) (flds : List Str) : Prop where
  gC : mg x = some (.ref C)
  o : OexC K C
  ini : PySem.W.findIn K (.ref C) "__init__" = some (some (.ref (He.ma K C "__init__")))
  fn : PySem.W.typeIn K (.ref (He.ma K C "__init__")) = some (.type "function")
  c : ExcC K C
  xf : XfC K C
  no : ∀ f ∈ flds, PySem.W.findIn K (.ref C) f = some none
theorem oexB_ok {K : PySem.W.Frag} {x : Str} (c : oexB x K = true) : ∃ nm q N bs bm sn sub ab col dd k0 k1 k2 k3 k5, K.lookup (He.ga K x) = some (excClassObj nm q (He.ga K x) N bs bm true sn sub ab col dd k0 k1 k2 k3 k5 "ValueError.__new__") ∧ PySem.HandSPX.refsVE bm = true := by
  unfold oexB at c
  split at c
  · rename_i cn od cd sl ho
    obtain ⟨e1, c⟩ := Bool.and_eq_true_iff.mp c
    split at c
    · rename_i C' bm k0 k1 k2 k3 n k5 hm hs
      simp only [Bool.and_eq_true, decide_eq_true_eq, Bool.not_eq_true'] at c
      obtain ⟨rfl, rfl, hdel, hd, hbm⟩ := c
      obtain ⟨nm, bs, mro, ns, qn, hdd, sn, sub, ab, col, del⟩ := cd
      dsimp only at hm hdel hd
      subst hm hdel hd
      have hsl : sl = #[k0, k1, k2, k3, some (.builtin "ValueError.__new__"), k5] := by
        obtain ⟨l⟩ := sl
        simp only at hs
        rw [hs]
      subst hsl
      exact ⟨nm, qn, ns, bs, bm, sn, sub, ab, col, od, k0, k1, k2, k3, k5, by rw [ho, of_decide_eq_true e1], hbm⟩
    · cases c
  · cases c
theorem excFB_ok {K : PySem.W.Frag} {h : Heap} {mg : Str → Option Value} (kin : K.In h) (G : h.Ns mainGlobals mg) {x : Str} {flds : List Str} (c : excFB x flds K = true) : ExcF K mg x (He.ga K x) flds := by
  unfold excFB at c
  simp only [Bool.and_eq_true, List.all_eq_true] at c
  obtain ⟨c1, c2, c3, c4, c5, c6, c7, c8, c9, c10, c11, c12, c13, c14, c15⟩ := c
  exact ⟨PySem.W.mg_of kin G (He.eqO_ok c1), ⟨oexB_ok c2, He.eqO_ok c4, of_decide_eq_true c5, of_decide_eq_true c6, c3⟩, (metB_ok c7).1, beq_iff_eq.mp (metB_ok c7).2,
    ⟨He.eqO_ok c8, He.eqO_ok c9, of_decide_eq_true c5, c10, He.eqO_ok c11, He.eqO_ok c12, of_decide_eq_true c13, of_decide_eq_true c14⟩, ⟨He.eqO_ok c8, He.eqO_ok c9, of_decide_eq_true c5, c10⟩, fun f hf => He.eqO_ok (c15 f hf)⟩
/-- the class above, whose __init__ is ValueError's -/
def binB (x : Str) (K : PySem.W.Frag) : Bool := PySem.W.readsIn K (He.ga K x) (.type "type") && (He.eqO (PySem.W.specialIn K (.ref (He.ga K x)) "__getattribute__") (some (some (.builtin "type.__getattribute__"))) &&
  (match PySem.W.findCls K (.ref (He.ga K x)) (.type "type") "__init__" with
    | some (.val (.builtin n)) => decide (n = "ValueError.__init__")
    | _ => false))
theorem binB_ok {K : PySem.W.Frag} {x : Str} (c : binB x K = true) : PySem.W.readsIn K (He.ga K x) (.type "type") = true ∧ PySem.W.specialIn K (.ref (He.ga K x)) "__getattribute__" = some (some (.builtin "type.__getattribute__")) ∧
    PySem.W.findCls K (.ref (He.ga K x)) (.type "type") "__init__" = some (.val (.builtin "ValueError.__init__")) := by
  unfold binB at c
  obtain ⟨c1, c⟩ := Bool.and_eq_true_iff.mp c
  obtain ⟨c2, c⟩ := Bool.and_eq_true_iff.mp c
  refine ⟨c1, He.eqO_ok c2, ?_⟩
  split at c
  · rename_i n e
    rw [e, of_decide_eq_true c]
  · cases c
theorem Top.excF {fn : List He.DefD} {fs : List Fc} {K : PySem.W.Frag} {mg : Str → Option Value} (T : Top fn fs K mg) (i : Nat) {x : Str} {flds : List Str} (h : fs[i]? = some (.own (excFB x flds))) : ExcF K mg x (He.ga K x) flds := let ⟨_, kin, G⟩ := T.ex; excFB_ok kin G (T.own i h)
theorem c_clsV {X : Cx} {W : WX} {x : Str} {C : Addr} {pos : Pos} (hm : X.mg x = some (.ref C)) (hg : Gl X x := by rfl) (hd : (x == ("__debug__" : Str)) = false := by decide) : PE X (.Name x pos) (up X.K W (wC (.ref C))) :=
  c_glob (v := .ref C) hm rfl (fun _ _ => rfl) hg hd

/-! ### a op b op c op d -/
def tChain4 (r1 r2 r3 : R2) (ta tb tc td : TE) : TE := fun σ H Q => ta σ H fun x H1 => tb σ H1 fun y H2 => r1 x y H2 fun z H3 => ∃ k, z = .bl k ∧
  (if k = true then tc σ H3 fun u H4 => r2 y u H4 fun z2 H5 => ∃ k2, z2 = .bl k2 ∧ (if k2 = true then td σ H5 fun t H6 => r3 u t H6 Q else Q (.bl false) H5) else Q (.bl false) H3)
theorem pe_chain4 {X : Cx} {a b c d : Expr} {ta tb tc td : TE} {pos : Pos} {o1 o2 o3 : CmpOp} {r1 r2 r3 : R2} (h1 : OpR X (compareOp o1) r1) (h2 : OpR X (compareOp o2) r2) (h3 : OpR X (compareOp o3) r3) (ha : PE X a ta) (hb : PE X b tb) (hc : PE X c tc) (hd : PE X d td)
    (hm : lastMarks [o1, o2, o3] [b, c, d] = false := by with_unfolding_all rfl) : PE X (.Compare a [o1, o2, o3] [b, c, d] pos) (tChain4 r1 r2 r3 ta tb tc td) := by
  refine ⟨fun pins s σ H Q I h => ?_⟩
  refine Compare_chain (rs := [d]) (thn (ha.run pins s σ H _ I h) fun v s1 ⟨x, H1, I1, p1, q1⟩ => chain_link (thn (hb.run pins s1 σ H1 _ I1 q1) fun u s2 ⟨y, H2, I2, p2, q2⟩ => thn (h1 pins s2 σ H2 x y v u _ I2 p1 p2 q2) fun e1 s3 ⟨z, H3, I3, p3, k, ek, q3⟩ => ?_)) hm
  subst ek
  cases p3
  refine wpAny_truthy_bool ?_
  cases k with
  | false => exact ite_ff ⟨.bl false, H3, I3, rfl, q3⟩
  | true =>
    refine ite_tt (chain_link (thn (hc.run pins s3 σ H3 _ I3 q3) fun w4 s4 ⟨u4, H4, I4, p4, q4⟩ => thn (h2 pins s4 σ H4 y u4 u w4 _ I4 p2 p4 q4) fun e2 s5 ⟨z2, H5, I5, p5, k2, ek, q5⟩ => ?_))
    subst ek
    cases p5
    refine wpAny_truthy_bool ?_
    cases k2 with
    | false => exact ite_ff ⟨.bl false, H5, I5, rfl, q5⟩
    | true => exact ite_tt (chain_last (thn (hd.run pins s5 σ H5 _ I5 q5) fun w6 s6 ⟨t6, H6, I6, p6, q6⟩ => h3 pins s6 σ H6 u4 t6 w4 w6 Q I6 p4 p6 q6))
def w4c (f1 f2 f3 : F2) (a b c d : W3) : W3 := fun env G R Ex => a env G (fun x G1 => b env G1 (fun y G2 => f1 x y G2 fun z G3 => ∃ k, z = .bl k ∧
  if k = true then c env G3 (fun u G4 => f2 y u G4 fun z2 G5 => ∃ k2, z2 = .bl k2 ∧ if k2 = true then d env G5 (fun t G6 => f3 u t G6 R) Ex else R (.bl false) G5) Ex else R (.bl false) G3) Ex) Ex
theorem c_chain4 {X : Cx} {W : WX} {a b c d : Expr} {wa wb wc wd : W3} {pos : Pos} {o1 o2 o3 : CmpOp} {r1 r2 r3 : R2} {f1 f2 f3 : F2} (h1 : OpR X (compareOp o1) r1) (l1 : Lift2 X.K r1 f1) (h2 : OpR X (compareOp o2) r2) (l2 : Lift2 X.K r2 f2) (h3 : OpR X (compareOp o3) r3) (l3 : Lift2 X.K r3 f3)
    (ha : PE X a (up X.K W wa)) (hb : PE X b (up X.K W wb)) (hc : PE X c (up X.K W wc)) (hd : PE X d (up X.K W wd)) (hm : lastMarks [o1, o2, o3] [b, c, d] = false := by with_unfolding_all rfl) :
    PE X (.Compare a [o1, o2, o3] [b, c, d] pos) (up X.K W (w4c f1 f2 f3 wa wb wc wd)) := PE.imp (pe_chain4 h1 h2 h3 ha hb hc hd hm) fun σ H Q ⟨env, G, R, Ex, re, rg, h, fe, fx⟩ => by
  refine up_go re rg h fx fun x a1 G1 H1 e1 rx rg1 q1 => ?_
  refine up_go (re.ext e1) rg1 q1 (fx.ext e1) fun y b1 G2 H2 e2 ry rg2 q2 => ?_
  refine l1 x y a1 b1 H2 G2 _ _ (rx.ext e2) ry rg2 q2 fun z c1 G3 H3 e3 rz rg3 q3 => ?_
  obtain ⟨k, rfl, q3⟩ := q3
  have e123 := (e1.trans e2).trans e3
  refine ⟨k, rz, ?_⟩
  cases k with
  | false => exact fe (.bl false) _ G3 H3 e123 rfl rg3 q3
  | true =>
    refine up_go (re.ext e123) rg3 q3 (fx.ext e123) fun u g1 G4 H4 e4 ru rg4 q4 => ?_
    refine l2 y u b1 g1 H4 G4 _ _ ((ry.ext e3).ext e4) ru rg4 q4 fun z2 c2 G5 H5 e5 rz2 rg5 q5 => ?_
    obtain ⟨k2, rfl, q5⟩ := q5
    have e15 := (e123.trans e4).trans e5
    refine ⟨k2, rz2, ?_⟩
    cases k2 with
    | false => exact fe (.bl false) _ G5 H5 e15 rfl rg5 q5
    | true =>
      refine up_go (re.ext e15) rg5 q5 (fx.ext e15) fun t g2 G6 H6 e6 rt rg6 q6 => ?_
      exact l3 u t g1 g2 H6 G6 R Q ((ru.ext e5).ext e6) rt rg6 q6 (fe.ext (e15.trans e6))

/-! ### a, b, .. = a list -/
def gL (n : Nat) (r : Gs3) : G3 := fun d env G R => ∃ ds, asL G d = some ds ∧ ds.length = n ∧ r ds env G R
section
variable {X : Cx} {pos : Pos} {js : List Nat}
theorem g_lst {es : List Expr} {k n : Nat} {r : Gs3} (hc : X.calm = true) (h : PGs X es (upGs X.K js r)) (hn : (assignEach es X.env).length = n := by rfl) (hst : (assignEach es X.env).findIdx? (·.1) = none := by rfl) :
    PG X (.Tuple es k pos) (upG X.K js (gL n r)) := PG.imp (pg_lst hc h hn hst) fun v σ H Q ⟨d, env, G, R, rd, re, rg, ⟨ds, h1, h2, h3⟩, f⟩ => by
  obtain ⟨a, vs, e1, sq, rl⟩ := asL_at rd rg h1
  exact ⟨a, vs, e1, sq, rl.length.trans h2, ds, env, G, R, rl, re, rg, h3, f⟩
end
end L3

set_option Elab.async false
set_option linter.all false
set_option maxRecDepth 100000
namespace L3
open PySem PySem.Spec L2
open PyProof.Rows hiding St

/-! ### lambdas: the function's object -/
abbrev lamF (q : Str) (params : Arguments) (body : Expr) (scope : Scope) (cl : List (Str × Addr)) (pm cdv ct dV : Value) : FuncData :=
  { name := "<lambda>", qualname := q, params := params, body := .expr body, scope := scope, globals := mainGlobals, closure := cl, defaults := dV, kwdefaults := .none, doc := .none, pyModule := pm, annotations := none, code := cdv, closureTuple := ct, builtins := builtinsNs }
abbrev lamO (q : Str) (params : Arguments) (body : Expr) (scope : Scope) (cl : List (Str × Addr)) (pm cdv ct dV : Value) : Obj := { cls := .type "function", data := .func (lamF q params body scope cl pm cdv ct dV) }
section
open PySem.W
variable {M : Model} {A : Around} {E : Value → Shared → Prop} {s : Shared} {q : Str} {params : Arguments} {body : Expr} {scope : Scope} {env : Env} {c P : Addr} {ps : Array Value} {pos : Pos} {line : Nat} {mg : Str → Option Value} {clos : List (Str × Addr)} {dV : Value} {Q : Value → Shared → Prop}
theorem tail_new (hcl : closureFor scope env = pure clos) (eg : env.globals = mainGlobals) (ns : s.heap.Ns mainGlobals mg) (ec : env.code = .ref c) (hd : CodeHd s.heap c P) (hP : s.heap.get? P = some (tabObj ps)) (tr : TriplesOk ps.toList)
    (no : codeAmong pos ps.toList = none) (ne : mainGlobals ≠ P) (hb : s.heap.BuiltinsAt mg P)
    (h : ∀ c' ctv h' tk, Heap.ExtBut P s.heap h' → s.heap.objs.size ≤ c' → c' < h'.objs.size → h'.CodeRec (.ref c') q → h'.get? P = some (tabObj (ps ++ #[rawInt pos.line, rawInt pos.col, .ref c'])) →
      Q (.ref h'.objs.size) { s with heap := h'.push (lamO q params body scope clos ((mg "__name__").getD .none) (.ref c') ctv dV), toks := tk }) :
    wpAny M A (makeTail "<lambda>" q params (.expr body) scope env dV .none none pos line) Q E s := by
  obtain ⟨bm, ob, b1, b2, _, b3, b4, b5, b6, b7⟩ := hb
  unfold makeTail
  rw [hcl, eg]
  refine wpAny_bind (wpAny_pure ?_)
  cases clos with
  | nil =>
    simp only [List.isEmpty_nil, if_true]
    refine wpAny_bind (wpAny_pure ?_)
    refine wpAny_bind (wpAny_functionCodeX ec (hd.code hP tr) (hd.tab hP) no fun c' h' tk k1 k2 k3 _ k4 k5 _ => ?_)
    have ns' := ns.extBut k1 ne
    refine wpAny_bind (wpAny_builtinsFor ns' b1 b2 (k1 _ _ b3 b4) b5 b6 b7 ?_)
    refine wpAny_bind (wpAny_nsGet ns' ?_)
    exact wpAny_bind (wpAny_pure (wpAny_newObj_type (h c' .none h' tk k1 k2 k3 k4 k5.2) (by size_fits)))
  | cons z r =>
    simp only [List.isEmpty_cons, Bool.false_eq_true, if_false]
    refine wpAny_bind (wpAny_newTextTuple ?_)
    refine wpAny_bind (wpAny_functionCodeX ec ((hd.keeps fun b o e => Heap.get?_push_of_some _ e).code (Heap.get?_push_of_some _ hP) tr) ((hd.keeps fun b o e => Heap.get?_push_of_some _ e).tab (Heap.get?_push_of_some _ hP)) no fun c' h' tk k1 k2 k3 _ k4 k5 _ => ?_)
    have ns' := (ns.push _).extBut k1 ne
    have k1' : Heap.ExtBut P s.heap h' := fun b o nb e => k1 b o nb (Heap.get?_push_of_some _ e)
    have k2' : s.heap.objs.size ≤ c' := Nat.le_trans (by rw [Heap.size_push]; omega) k2
    refine wpAny_bind (wpAny_builtinsFor ns' b1 b2 (k1' _ _ b3 b4) b5 b6 b7 ?_)
    refine wpAny_bind (wpAny_nsGet ns' ?_)
    exact wpAny_bind (wpAny_pure (wpAny_newObj_type (h c' _ h' tk k1' k2' k3 k4 k5.2) (by size_fits)))
theorem tail_hit {cv : Value} (hcl : closureFor scope env = pure clos) (eg : env.globals = mainGlobals) (ns : s.heap.Ns mainGlobals mg) (ec : env.code = .ref c) (hd : CodeHd s.heap c P) (hP : s.heap.get? P = some (tabObj ps)) (tr : TriplesOk ps.toList)
    (hf : codeAmong pos ps.toList = some cv) (hb : s.heap.BuiltinsAt mg P)
    (h : ∀ (ctv : Value) (h' : Heap) (tk : Tok), (∀ b o, s.heap.get? b = some o → h'.get? b = some o) → s.heap.objs.size ≤ h'.objs.size →
      Q (.ref h'.objs.size) { s with heap := h'.push (lamO q params body scope clos ((mg "__name__").getD .none) cv ctv dV), toks := tk }) :
    wpAny M A (makeTail "<lambda>" q params (.expr body) scope env dV .none none pos line) Q E s := by
  obtain ⟨bm, ob, b1, b2, _, b3, b4, b5, b6, b7⟩ := hb
  unfold makeTail
  rw [hcl, eg]
  refine wpAny_bind (wpAny_pure ?_)
  cases clos with
  | nil =>
    simp only [List.isEmpty_nil, if_true]
    refine wpAny_bind (wpAny_pure ?_)
    refine wpAny_bind (wpAny_functionCode_hit ec (hd.code hP tr) hf ?_)
    refine wpAny_bind (wpAny_builtinsFor ns b1 b2 b4 b5 b6 b7 ?_)
    refine wpAny_bind (wpAny_nsGet ns ?_)
    exact wpAny_bind (wpAny_pure (wpAny_newObj_type (h .none s.heap s.toks (fun _ _ e => e) (Nat.le_refl _)) (by size_fits)))
  | cons z r =>
    simp only [List.isEmpty_cons, Bool.false_eq_true, if_false]
    refine wpAny_bind (wpAny_newTextTuple ?_)
    refine wpAny_bind (wpAny_functionCode_hit ec ((hd.keeps fun b o e => Heap.get?_push_of_some _ e).code (Heap.get?_push_of_some _ hP) tr) hf ?_)
    refine wpAny_bind (wpAny_builtinsFor (ns.push _) b1 b2 (Heap.get?_push_of_some _ b4) b5 b6 b7 ?_)
    refine wpAny_bind (wpAny_nsGet (ns.push _) ?_)
    have sz : ∀ oT : Obj, s.heap.objs.size ≤ (s.heap.push oT).objs.size := fun oT => by rw [Heap.size_push]; omega
    exact wpAny_bind (wpAny_pure (wpAny_newObj_type (h _ _ s.toks (fun b o e => Heap.get?_push_of_some _ e) (sz _)) (by size_fits)))
end
/-- what the making may have done to the abstract heap: nothing (the code object stood in the table), or a new code object -/
def Made (H : Hp) (P : Addr) (ps : Array Value) (pos : Pos) (c' : Addr) (q : Str) (H1 : Hp) : Prop :=
  (H1 = H ∧ codeAmong pos ps.toList = some (.ref c')) ∨ (H1 = upd (upd H P (.tbl (ps ++ #[rawInt pos.line, rawInt pos.col, .ref c']))) c' (LamX.CodeO c' q) ∧ H c' = none)
section
variable {X : Cx} {pins : List (Addr × Obj)} {σ : L2.St} {H : Hp} {s : Shared} {c P : Addr} {q : Str} {params : Arguments} {body : Expr} {scope : Scope} {pos : Pos} {dV : Value} {ps : Array Value} {E : Value → Shared → Prop} {Q : Value → Shared → Prop}
theorem lam_tail (I : Inv X pins σ H s) (TB : LamX.TabB X.base X.mg c P) (ec : X.env.code = .ref c) (hP : H P = some (.tbl ps)) (tr : TriplesOk ps.toList)
    (al : ∀ (pos : Pos) (cv : Value), codeAmong pos ps.toList = some cv → ∃ c, cv = .ref c ∧ H c = some (LamX.CodeO c q)) (hfree : ∀ y ∈ scope.names, y.2 = .free → ∃ c, X.env.cells.lookup y.1 = some c)
    (h : ∀ (f c' : Addr) (pm ctv : Value) (H1 : Hp) (s' : Shared), Inv X pins σ H1 s' → Made H P ps pos c' q H1 → H1 c' = some (LamX.CodeO c' q) →
      s'.heap.get? f = some (lamO q params body scope (cloFrom X.env.cells scope.names []) pm (.ref c') ctv dV) → H1 f = none → f ∉ frs X.stack → (∀ b o, b ≠ P → s.heap.get? b = some o → s'.heap.get? b = some o) → Q (.ref f) s') :
    wpAny (model X.prog X.w) X.A (makeTail "<lambda>" q params (.expr body) scope X.env dV .none none pos pos.line) Q E s := by
  have bP : s.heap.BuiltinsAt X.mg P := TB.bm.keeps I.bk
  have hP' : s.heap.get? P = some { cls := .none, data := .fields ps } := I.hok P _ hP
  have nofr : ∀ f, s.heap.objs.size ≤ f → f ∉ frs X.stack := fun f hf z => by
    rcases List.mem_cons.mp (I.stkSub _ z) with e | e
    · have h1 := I.lt
      rw [← e] at h1
      exact Nat.lt_irrefl _ (Nat.lt_of_lt_of_le h1 hf)
    · exact I.nofs hf e
  cases hc : codeAmong pos ps.toList with
  | none =>
    refine tail_new (mg := X.mg) (c := c) (P := P) (ps := ps) (closure_ok hfree) I.ok.glob (I.mod.glob.keeps I.bk) ec (TB.code.keeps I.bk) hP' tr hc TB.gP bP fun c' ctv h' tk k1 k2 k3 hrec htb => ?_
    obtain ⟨c2, oc, vs, t, e2, hoc, hd, hv⟩ := hrec
    cases e2
    have sz : s.heap.objs.size ≤ h'.objs.size := Nat.le_trans k2 (Nat.le_of_lt k3)
    have nC : H c' = none := I.hok.fresh k2
    have I1 := LamX.inv_table (t' := tk) (more := #[rawInt pos.line, rawInt pos.col, .ref c']) (h' := h'.push (lamO q params body scope (cloFrom X.env.cells scope.names []) ((X.mg "__name__").getD .none) (.ref c') ctv dV)) I hP
      (fun b o nb e => Heap.get?_push_of_some _ (k1 b o nb e)) (Heap.get?_push_of_some _ htb) k2 ⟨oc, vs, t, Heap.get?_push_of_some _ hoc, hd, hv⟩
    refine h h'.objs.size c' ((X.mg "__name__").getD .none) ctv _ _ I1 (.inr ⟨rfl, nC⟩) upd_same (Heap.get?_push_size _ rfl) ?_ (nofr _ sz) (fun b o nb e => Heap.get?_push_of_some _ (k1 b o nb e))
    have n1 : h'.objs.size ≠ c' := Nat.ne_of_gt k3
    have n2 : h'.objs.size ≠ P := Nat.ne_of_gt (Nat.lt_of_lt_of_le (Heap.lt_size hP') sz)
    rw [upd_ne n1, upd_ne n2]
    exact I.hok.fresh sz
  | some cv =>
    obtain ⟨c', e, hco⟩ := al pos cv hc
    subst e
    refine tail_hit (mg := X.mg) (c := c) (P := P) (ps := ps) (closure_ok hfree) I.ok.glob (I.mod.glob.keeps I.bk) ec (TB.code.keeps I.bk) hP' tr hc bP fun ctv h' tk k1 sz => ?_
    have I1 : Inv X pins σ H { s with heap := h'.push (lamO q params body scope (cloFrom X.env.cells scope.names []) ((X.mg "__name__").getD .none) (.ref c') ctv dV), toks := tk } := I.kept fun b o e => Heap.get?_push_of_some _ (k1 b o e)
    exact h h'.objs.size c' ((X.mg "__name__").getD .none) ctv H _ I1 (.inl ⟨rfl, hc⟩) hco (Heap.get?_push_size _ rfl) (I.hok.fresh sz) (nofr _ sz) (fun b o _ e => Heap.get?_push_of_some _ (k1 b o e))
/-- the defaults: none, or one int -/
inductive Dfl where
  | no
  | one (i : Int)
def Dfl.at_ (d : Dfl) (s : Shared) (P : Addr) (dV : Value) : Prop := match d with
  | .no => dV = .none
  | .one i => ∃ (T : Addr) (t : Tok), dV = .ref T ∧ T ≠ P ∧ s.heap.get? T = some { cls := .type "tuple", data := .seq #[.int i t] }
def Dfl.exprs (d : Dfl) (params : Arguments) : Prop := match d with
  | .no => params.defaults = []
  | .one i => ∃ j p, params.defaults = [.Constant (.int i) j p]
theorem lam_eval (dfl : Dfl) (hdf : dfl.exprs params) (hkw : params.kw_defaults = []) (I : Inv X pins σ H s) (TB : LamX.TabB X.base X.mg c P) (ec : X.env.code = .ref c) (eq : q = X.env.qual ++ "<lambda>") (hP : H P = some (.tbl ps)) (tr : TriplesOk ps.toList)
    (al : ∀ (pos : Pos) (cv : Value), codeAmong pos ps.toList = some cv → ∃ c, cv = .ref c ∧ H c = some (LamX.CodeO c q)) (hfree : ∀ y ∈ scope.names, y.2 = .free → ∃ c, X.env.cells.lookup y.1 = some c)
    (h : ∀ (f c' : Addr) (pm ctv dV : Value) (H1 : Hp) (s' : Shared), Inv X pins σ H1 s' → Made H P ps pos c' q H1 → H1 c' = some (LamX.CodeO c' q) →
      s'.heap.get? f = some (lamO q params body scope (cloFrom X.env.cells scope.names []) pm (.ref c') ctv dV) → H1 f = none → f ∉ frs X.stack → dfl.at_ s' P dV → (∀ T, dV = .ref T → H1 T = none ∧ T ∉ frs X.stack) → Q (.ref f) s') :
    wpAny (model X.prog X.w) X.A (eval (.Lambda params body scope pos) X.env) Q E s := by
  subst eq
  obtain ⟨po, ar, va, ko, kd, kw, df⟩ := params
  have ekw : kd = [] := hkw
  subst ekw
  cases dfl with
  | no =>
    have edf : df = [] := hdf
    subst edf
    refine PySem.W.kla_eval (by first | rfl | simp [defaultsOf, evalEach, evalEachOpt]) ?_
    rw [makeFunction_eq]
    simp only [List.zip_nil_right, List.filterMap_nil, List.isEmpty_nil, if_true, pure_bind]
    exact lam_tail (dV := .none) I TB ec hP tr al hfree fun f c' pm ctv H1 s' I1 md hc hf hn hr _ => h f c' pm ctv .none H1 s' I1 md hc hf hn hr rfl fun T z => by cases z
  | one i =>
    obtain ⟨j, p, edf⟩ := hdf
    have edf : df = [.Constant (.int i) j p] := edf
    subst edf
    rw [arm_eval_Lambda, show defaultsOf ⟨po, ar, va, ko, [], kw, [.Constant (.int i) j p]⟩ X.env = ([eval (.Constant (.int i) j p) X.env], []) from by first | rfl | simp [defaultsOf, evalEach, evalEachOpt]]
    show wpAny _ _ (do let dv ← evalAll [eval (.Constant (.int i) j p) X.env]; let kdv ← holding dv (evalAllOpt []); makeFunction "<lambda>" (X.env.qual ++ "<lambda>") ⟨po, ar, va, ko, [], kw, [.Constant (.int i) j p]⟩ (.expr body) scope X.env dv kdv [] pos pos.line) _ _ _
    refine wpAny_bind (wpAny_evalAll_cons (wpAny_Constant_int (wpAny_evalAll_nil ?_)))
    refine wpAny_bind (wpAny_holding (wpAny_pure ?_))
    rw [makeFunction_eq]
    simp only [List.zip_nil_right, List.filterMap_nil, List.isEmpty_nil, List.isEmpty_cons, Bool.false_eq_true, if_false, if_true, pure_bind]
    refine wpAny_bind (wpAny_newTextTuple ?_)
    have hsz : s.heap.objs.size ≠ P := fun e => by
      have z := Heap.lt_size (I.hok P _ hP)
      rw [← e] at z
      exact Nat.lt_irrefl _ z
    have hT : (s.heap.push { cls := .type "tuple", data := .seq [Value.int i s.toks].toArray }).get? s.heap.objs.size = some { cls := .type "tuple", data := .seq [Value.int i s.toks].toArray } := Heap.get?_push_size _ rfl
    have I0 : Inv X pins σ H { s with heap := s.heap.push { cls := .type "tuple", data := .seq [Value.int i s.toks].toArray }, toks := s.toks + 1 } := I.kept fun b o e => Heap.get?_push_of_some _ e
    exact lam_tail (dV := .ref s.heap.objs.size) I0 TB ec hP tr al hfree fun f c' pm ctv H1 s' I1 md hc hf hn hr k => h f c' pm ctv _ H1 s' I1 md hc hf hn hr ⟨_, s.toks, rfl, hsz, k _ _ hsz hT⟩ fun T eT => by
      cases eT
      have hT' := k _ _ hsz hT
      have nc : s.heap.objs.size ≠ c' := fun z => by
        obtain ⟨⟨oc, vs, t, e1, e2, _⟩, _, _⟩ := I1.hok c' _ hc
        rw [← z, hT'] at e1
        cases e1
        cases e2
      refine ⟨?_, fun z => ?_⟩
      · rcases md with ⟨rfl, _⟩ | ⟨rfl, _⟩
        · exact I.hok.fresh (Nat.le_refl _)
        · rw [upd_ne nc, upd_ne hsz]
          exact I.hok.fresh (Nat.le_refl _)
      · rcases List.mem_cons.mp (I.stkSub _ z) with e | e
        · have h1 := I.lt
          rw [← e] at h1
          exact Nat.lt_irrefl _ h1
        · exact I.nofs (Nat.le_refl _) e
end

/-! ### the lambda's names: captured ones, globals, parameters with defaults that the maker does not know -/
structure LamS (N : List Str) (sc scope : Scope) : Prop where
  kind : scope.kind = .function
  co : scope.isCoroutine = false
  gen : scope.isGenerator = false
  own : ∀ y ∈ scope.names, y.2 ≠ .cell ∧ (y.2 = .local → y.1 ∉ N)
  free : ∀ y ∈ scope.names, y.2 = .free → sc.names.lookup y.1 = some .cell ∨ sc.names.lookup y.1 = some .free
def lamSB (N : List Str) (sc scope : Scope) : Bool :=
  decide (scope.kind = .function) && !scope.isCoroutine && !scope.isGenerator && scope.names.all fun y => !decide (y.2 = .cell) && (!decide (y.2 = .local) || !decide (y.1 ∈ N)) && (!decide (y.2 = .free) || decide (sc.names.lookup y.1 = some .cell) || decide (sc.names.lookup y.1 = some .free))
theorem lamS_by {N : List Str} {sc scope : Scope} (h : lamSB N sc scope = true) : LamS N sc scope := by
  unfold lamSB at h
  simp only [Bool.and_eq_true, Bool.or_eq_true, Bool.not_eq_true', decide_eq_true_eq, decide_eq_false_iff_not, List.all_eq_true] at h
  obtain ⟨⟨⟨h1, h2⟩, h3⟩, h4⟩ := h
  refine ⟨h1, h2, h3, fun y hy => ⟨(h4 y hy).1.1, fun e => ?_⟩, fun y hy e => ?_⟩
  · rcases (h4 y hy).1.2 with z | z
    · exact absurd e z
    · exact z
  · rcases (h4 y hy).2 with (z | z) | z
    · exact absurd e z
    · exact .inl z
    · exact .inr z
theorem LamS.has {X : Cx} {scope : Scope} (L : LamS X.N X.env.scope scope) (ok : X.Ok) : ∀ y ∈ scope.names, y.2 = .free → ∃ c, X.env.cells.lookup y.1 = some c := fun y hy e => by
  rcases L.free y hy e with k | k
  · exact ok.has _ (.inl k)
  · exact ok.has _ (.inr k)
/-- the context of the lambda's body, entered at s from the frames outer -/
abbrev lamX (X : Cx) (A : Around) (outer : List Env) (s : Shared) (H : Hp) (E : XK) (scope : Scope) (f c' : Addr) : Cx := LamX.lamCx X A outer s H E scope f c'
section
variable {X : Cx} {pins : List (Addr × Obj)} {σ : L2.St} {H HZ : Hp} {s s1 : Shared}
theorem lam_enter {A : Around} {outer : List Env} {E : XK} {scope : Scope} {f c' : Addr} {h₁ : Heap} {tk : Nat} {m : Str → Option Value} (I : Inv X pins σ H s) (L : LamS X.N X.env.scope scope) (e0 : Env0 X.prog X.w X.K X.mg X.base A outer s1 HZ) (hd : A.handled = none)
    (un : Un (frs X.stack) [] H HZ s.heap s1.heap) (hns : h₁.Ns s1.heap.objs.size m) (kp : ∀ b o, s1.heap.get? b = some o → h₁.get? b = some o) :
    Inv (lamX X A outer s1 HZ E scope f c') [] σ HZ { s1 with heap := h₁, toks := tk } := by
  have fr := L.has I.ok
  have cm : ∀ {y c}, (cloFrom X.env.cells scope.names []).lookup y = some c → X.env.cells.lookup y = some c := fun {y c} e => by
    rcases cloFrom_mem (PySem.mem_of_lookup e) with hm | ⟨h1, h2⟩
    · cases hm
    · obtain ⟨c1, hc⟩ := fr _ h1 rfl
      have hc : X.env.cells.lookup y = some c1 := hc
      have e2 : c = c1 := by rw [h2, hc] <;> rfl
      rw [e2]
      exact hc
  have look : ∀ {y}, scope.names.lookup y = some .free → ∃ c, (cloFrom X.env.cells scope.names []).lookup y = some c := fun {y} hl =>
    mem_lookup (cloFrom_has (cells := X.env.cells) (acc := []) (PySem.mem_of_lookup hl))
  have cellK : ∀ {c : Addr} {v : Option Value}, H c = none → s.heap.IsCell c v → h₁.IsCell c v := fun {c v} n ⟨o, ho, hd⟩ => by
    obtain ⟨sl, q⟩ := un.any ho n (by simp)
    exact ⟨_, kp _ _ q, hd⟩
  have noA : ∀ b : Addr, b ∉ (lamX X A outer s1 HZ E scope f c').ex := fun b z => absurd (show b ∈ ([] : List Addr) from z) (by simp)
  refine ⟨⟨e0.mod, L.kind, rfl, rfl, Nat.le_refl _, fun y z c e1 e2 => I.ok.inj y z c (cm e1) (cm e2), fun y hy => ?_, fun y c z _ => ?_, fun _ => hd, Around.frames_deeper e0.frames, .inr ⟨rfl, rfl⟩, fun b z => absurd z (noA b), e0.bs, e0.bsz, fun b _ _ => noA b,
      fun b z => absurd z (noA b), e0.funs, e0.frf⟩,
    rfl, e0.bare, Un.kept kp, ⟨_, hns, fun i y v e1 e2 e3 => ?_⟩, fun y c e => ?_, e0.hok.fresh (Nat.le_refl _), fun y c e => ?_, fun q hq => absurd (show q ∈ ([] : List (Addr × Obj)) ++ [] from hq) (by simp), e0.hok.kept kp, I.len⟩
  · have hy : scope.names.lookup y = some .cell ∨ scope.names.lookup y = some .free := hy
    rcases hy with hy | hy
    · exact absurd rfl (L.own _ (PySem.mem_of_lookup hy)).1
    · exact look hy
  · have z : false = true := z
    cases z
  · have e3 : Vis scope y := e3
    rcases e3 with k | k | k
    · exact absurd (List.mem_of_getElem? e1) ((L.own _ (PySem.mem_of_lookup k)).2 rfl)
    · exact absurd rfl (L.own _ (PySem.mem_of_lookup k)).1
    · obtain ⟨m, hn, hl⟩ := I.loc
      have hvis : Vis X.env.scope y := (L.free _ (PySem.mem_of_lookup k) rfl).elim (fun k => .inr (.inl k)) (fun k => .inr (.inr k))
      obtain ⟨w', r, q⟩ := hl i y v e1 e2 hvis
      obtain ⟨c2, h2⟩ := look k
      refine ⟨w', r, .inr ⟨.inr k, c2, h2, ?_⟩⟩
      have c1 := cm h2
      rcases q with ⟨k', _⟩ | ⟨_, c3, e', z⟩
      · have k' : X.env.scope.names.lookup y = some .local := k'
        rcases L.free _ (PySem.mem_of_lookup k) rfl with k2 | k2 <;> rw [show X.env.scope.names.lookup y = _ from k2] at k' <;> cases k'
      · rw [c1] at e'
        cases e'
        exact cellK (I.freeC y _ c1) z
  · obtain ⟨w', z⟩ := I.cell y c (cm e)
    exact ⟨w', cellK (I.freeC y c (cm e)) z⟩
  · obtain ⟨v, o, ho, hd⟩ := I.cell y c (cm e)
    exact un.free c o ho (I.freeC y c (cm e)) (by simp)
end
/-! ### what the lambda sees -/
def valsOf : Env3 → L2.St → List V
  | [], _ => []
  | none :: e, _ :: σ => valsOf e σ
  | none :: e, [] => valsOf e []
  | some _ :: e, some v :: σ => v :: valsOf e σ
  | some _ :: e, none :: σ => .non :: valsOf e σ
  | some _ :: e, [] => .non :: valsOf e []
theorem REnv.toL {K : PySem.W.Frag} {H : Hp} {G : GH} : ∀ {env : Env3} {σ : L2.St}, REnv K H G env σ → RepL K H G (env.filterMap id) (valsOf env σ)
  | [], σ, h => by rw [show σ = [] from h]; rfl
  | none :: e, σ, ⟨v, r, q, h⟩ => by
    rw [q]
    show RepL K H G (e.filterMap id) (valsOf e r)
    exact REnv.toL h
  | some d :: e, σ, ⟨v, r, q, a, h⟩ => by
    rw [q]
    exact ⟨v, _, rfl, a, REnv.toL h⟩
theorem REnv.ofL {K : PySem.W.Frag} {H H' : Hp} {G G' : GH} : ∀ {env : Env3} {σ : L2.St}, REnv K H G env σ → RepL K H' G' (env.filterMap id) (valsOf env σ) → REnv K H' G' env σ
  | [], σ, h, _ => h
  | none :: e, σ, ⟨v, r, q, h⟩, t => by
    subst q
    exact ⟨v, r, rfl, REnv.ofL h t⟩
  | some d :: e, σ, ⟨v, r, q, a, h⟩, t => by
    subst q
    obtain ⟨v', r', q', a', t'⟩ := (show RepL K H' G' (d :: e.filterMap id) (v :: valsOf e r) from t)
    obtain ⟨rfl, rfl⟩ := List.cons.inj q'
    exact ⟨_, r, rfl, a', REnv.ofL h t'⟩
/-! ### the call of a lambda in hand -/
/-- what a lambda's call makes -/
abbrev SL := GH → K3 → (Value → Option (List Str × List D) → GH → Prop) → Prop
def wAct (f c' : Addr) (q : Str) (vs : List V) (xs : List D) (L : SL) : W3 := fun env G R Ex => at3 env 0 = some (.lam f c' q vs xs) ∧ L G R (fun c fs G' => Ex c fs env G')
def slOf (env : Env3) (wb : W3) : SL := fun G R Ex => wb env G R (fun c fs _ G' => Ex c fs G')
section
variable {X : Cx} {pins : List (Addr × Obj)} {σ : L2.St} {H : Hp} {G : GH} {s : Shared}
theorem c_act {Ng : List Str} {qg a : Str} {sg : Scope} {g f c' P : Addr} {cdg pm ctv dV : Value} {params : Arguments} {body : Expr} {scope : Scope} {k : Nat} {pn : List (Addr × Obj)} {xe : Value → Shared → Prop} {W : WX} {Eg : XK} {wb : W3} {p1 p2 : Pos} {q : Str} {envD : Env3} (dfl : Dfl)
    (I : Inv X pins σ H s) (re0 : REnv X.K H G envD σ) (L : LamS X.N X.env.scope scope) (eq : q = X.env.qual ++ "<lambda>") (hf : s.heap.get? f = some (lamO q params body scope (cloFrom X.env.cells scope.names []) pm (.ref c') ctv dV)) (hfn : H f = none) (hfr : f ∉ frs X.stack)
    (hT : dfl.at_ s P dV) (hTn : ∀ T, dV = .ref T → H T = none ∧ T ∉ frs X.stack)
    (hbind : ∀ (s1 : Shared), dfl.at_ s1 P dV → ∃ binds, BindsTo s1 (lamF q params body scope (cloFrom X.env.cells scope.names []) pm (.ref c') ctv dV) ⟨[], []⟩ binds ∧ ∀ y ∈ binds, scope.names.lookup y.1 = some .local)
    (tk : Takes ((cx3 X.prog X.w X.K X.mg X.base Ng qg sg g cdg X.A X.stack s H Eg).tr pn xe) W) (hr : Room (k + 1) (X.A.deeper (envOfC qg sg s.heap.objs.size g cdg))) (hgd : X.A.guards = some [])
    (hbody : ∀ (A : Around) (outer : List Env) (s : Shared) (H : Hp) (E : XK), (lamX X A outer s H E scope f c').A.guards = some [] → Room k (lamX X A outer s H E scope f c').A → Takes (lamX X A outer s H E scope f c') (WEx E) → PE (lamX X A outer s H E scope f c') body (up X.K (WEx E) wb))
    (hN : Ng[0]? = some a) (hv : Vis sg a) (hd : (a == ("__debug__" : Str)) = false) (hcd : (a == ("__classdict__" : Str)) = false) :
    PE ((cx3 X.prog X.w X.K X.mg X.base Ng qg sg g cdg X.A X.stack s H Eg).tr pn xe) (.Call (.Name a p1) [] [] p2) (up X.K W (wAct f c' q (valsOf envD σ) (envD.filterMap id) (slOf envD wb))) := by
  refine ⟨fun pinsZ sZ σZ HZ Q IZ ⟨env, GZ, R, Ex, re, rg, ⟨hat, hSL⟩, fe, fx⟩ => ?_⟩
  obtain ⟨v0, hs, rep⟩ := re.get hat
  obtain ⟨rfl, gc, hc, rl⟩ := rep
  refine wpAny_Call_Name_kw (thn ((pe_var (pos := p1) (i := 0) hN hv hd hcd).run pinsZ sZ σZ HZ (fun v H1 => v = .ref f ∧ H1 = HZ) IZ ⟨.ref f, hs, rfl, rfl⟩) fun u s1 ⟨v, H1, I1, r1, q1⟩ => ?_)
  obtain ⟨ev, eH⟩ := q1
  subst ev
  rw [eH] at I1
  obtain rfl : u = Value.ref f := r1
  have kept : ∀ b o, s.heap.get? b = some o → H b = none → b ∉ frs X.stack → s1.heap.get? b = some o := fun b o e n m => I1.base.keep b _ e n m (fun z => nomatch (show b ∈ ([] : List Addr) from z))
  have of1 := kept f _ hf hfn hfr
  have hT1 : dfl.at_ s1 P dV := by
    cases dfl with
    | no => exact hT
    | one i =>
      obtain ⟨T, t, e1, e2, e3⟩ := hT
      obtain ⟨n1, n2⟩ := hTn T e1
      exact ⟨T, t, e1, e2, kept T _ e3 n1 n2⟩
  refine PySem.W.callWith_F0 ⟨_, _, _, _, of1⟩ ?_
  have un : Un (frs X.stack) [] H HZ s.heap s1.heap := I1.base
  obtain ⟨⟨oc, vs, t, hoc, hdc, hvc⟩, _, _⟩ := I1.hok c' _ hc
  have reD : REnv X.K HZ GZ envD σ := REnv.ofL re0 rl
  have rc : codeAny (model X.prog X.w) (X.A.deeper (envOfC qg sg s.heap.objs.size g cdg)) (.call (.ref f) ⟨[], []⟩) (CR (L2.CX X.prog X.w) (envOfC qg sg s.heap.objs.size g cdg :: X.stack) X.prog X.w HZ s1 Q (WE W σZ)) s1 := by
    refine PySem.W.kla_callFunE hr.depth of1 rfl L.co L.gen rfl ⟨c', oc, vs, t, rfl, hoc, hdc, hvc⟩ ?_
    obtain ⟨binds, hb1, hloc⟩ := hbind s1 hT1
    refine hb1 _ _ _ _ ?_
    refine wpAny_newFunctionEnv (fun y hy => (L.own y hy).1) hloc (fun h₁ hns hsb => ⟨I1.nolimit.fresh _ hsb, ?_⟩) L.kind
    subst eq
    show codeAny _ _ (.expr body (LamX.lamEnv X scope s1.heap.objs.size f c')) _ _
    have kp : ∀ b o, s1.heap.get? b = some o → h₁.get? b = some o := fun b o e => hsb.extBut b o (Nat.ne_of_lt (Heap.lt_size e)) (Heap.get?_push_of_some _ e)
    have J : Inv (lamX X (X.A.deeper (envOfC qg sg s.heap.objs.size g cdg)) (envOfC qg sg s.heap.objs.size g cdg :: X.stack) s1 HZ (WE W σZ) scope f c') [] σ HZ { s1 with heap := h₁, toks := s1.toks + binds.length } :=
      lam_enter I L I1.env0 hr.hd un hns kp
    refine PySem.W.kla_codeExpr (wpAny_mono ((hbody (X.A.deeper (envOfC qg sg s.heap.objs.size g cdg)) (envOfC qg sg s.heap.objs.size g cdg :: X.stack) s1 HZ (WE W σZ) hgd (hr.deeper _) (takes_of rfl rfl rfl rfl)).run [] _ _ HZ Q J ?_) (fun v s' hq => ?_) fun e s' hq => hq)
    · exact ⟨envD, GZ, R, _, reD, rg, hSL, fe, fun c fs d env' σ' G' H' e' re' rg' rx ex => fx c fs d env σZ G' H' e' (re.ext e') rg' rx ex⟩
    · obtain ⟨w', H', J', rv, q⟩ := hq
      exact ⟨w', H', J'.os, J'.bare, J'.base, J'.hok, rv, q⟩
  refine wpAny_call (codeAny_mono rc fun r s' hq => ?_)
  cases r with
  | error e => exact passAt tk σZ pinsZ HZ s1 e s' I1 hq
  | ok fl =>
    cases fl with
    | ret u => exact I1.after hq
    | next => exact False.elim hq
    | brk => exact False.elim hq
    | cont => exact False.elim hq
end

/-! ### what the top says of a def that makes lambdas -/
def cA (K : PySem.W.Frag) (x : Str) : Addr := match K.lookup (He.ga K x) with
  | some ⟨_, _, .func fd, _⟩ => (match fd.code with
    | .ref c => c
    | _ => 0)
  | _ => 0
def tA (K : PySem.W.Frag) (x : Str) : Addr := match K.lookup (cA K x) with
  | some ⟨_, _, .fields vs, _⟩ => (match (vs[11]? : Option Value) with
    | some (.ref P) => P
    | _ => 0)
  | _ => 0
def bltB (K : PySem.W.Frag) (P : Addr) : Bool := match PySem.W.nsIn K mainGlobals "__builtins__" with
  | some (some (.ref bm)) => (match K.lookup bm with
    | some ⟨.type c, some d, .plain, _⟩ => decide (c = "module") && (decide (d = builtinsNs) && (decide (bm ≠ builtinsNs) && (decide (bm ≠ mainGlobals) && decide (bm ≠ P))))
    | _ => false)
  | _ => false
theorem bltB_ok {K : PySem.W.Frag} {h : Heap} {mg : Str → Option Value} {P : Addr} (kin : K.In h) (G : h.Ns mainGlobals mg) (c : bltB K P = true) : h.BuiltinsAt mg P := by
  unfold bltB at c
  split at c
  · rename_i bm e
    split at c
    · rename_i cn d sl ho
      simp only [Bool.and_eq_true, decide_eq_true_eq] at c
      obtain ⟨rfl, rfl, c3, c4, c5⟩ := c
      exact ⟨bm, _, PySem.W.mg_of kin G e, c3, c4, c5, kin _ _ ho, rfl, rfl, rfl⟩
    · cases c
  · cases c
def tabFB (x : Str) (K : PySem.W.Frag) : Bool := He.eqO (PySem.W.nsIn K mainGlobals x) (some (some (.ref (He.ga K x)))) && (PySem.W.codeHdIn K (cA K x) (tA K x) && (bltB K (tA K x) && (decide (mainGlobals ≠ tA K x) && decide (K.lookup (tA K x) = none))))
structure TabF (K : PySem.W.Frag) (mg : Str → Option Value) (x : Str) : Prop where
  gf : mg x = some (.ref (He.ga K x))
  hd : PySem.W.codeHdIn K (cA K x) (tA K x) = true
  bl : bltB K (tA K x) = true
  ne : mainGlobals ≠ tA K x
  out : K.lookup (tA K x) = none
theorem tabFB_ok {K : PySem.W.Frag} {h : Heap} {mg : Str → Option Value} (kin : K.In h) (G : h.Ns mainGlobals mg) {x : Str} (c : tabFB x K = true) : TabF K mg x := by
  unfold tabFB at c
  simp only [Bool.and_eq_true, decide_eq_true_eq] at c
  obtain ⟨c1, c2, c3, c4, c5⟩ := c
  exact ⟨PySem.W.mg_of kin G (He.eqO_ok c1), c2, c3, c4, c5⟩
theorem Top.tab {fn : List He.DefD} {fs : List Fc} {K : PySem.W.Frag} {mg : Str → Option Value} (T : Top fn fs K mg) (i : Nat) {x : Str} (h : fs[i]? = some (.own (tabFB x))) : TabF K mg x := let ⟨_, kin, G⟩ := T.ex; tabFB_ok kin G (T.own i h)
theorem TabF.b {K : PySem.W.Frag} {mg : Str → Option Value} {x : Str} (t : TabF K mg x) {base : Heap} (m : Mod K mg base) : LamX.TabB base mg (cA K x) (tA K x) := ⟨PySem.W.codeHd_of_K m.kin t.hd, bltB_ok m.kin m.glob t.bl, t.ne⟩
section
variable {P : Program} {w : World} {K : PySem.W.Frag} {mg : Str → Option Value} {base : Heap}
theorem goodT_of {nm : Str} {st : Stmt} {N ps : List Str} {k : Nat} {S : SP3} (d : DefAt K mg nm st ps) (hg : mg nm = some (.ref (He.ga K nm))) (sc : FnScope N ps (defScope st))
    (hb : ∀ (f : Addr) (cd : Value) (A : Around) (outer : List Env) (s : Shared) (H : Hp) (E : XK), cd = .ref (cA K nm) →
      PassesOwn (model P w) (cx3 P w K mg base N nm (defScope st) f cd A outer s H E).A (cx3 P w K mg base N nm (defScope st) f cd A outer s H E).env (cx3 P w K mg base N nm (defScope st) f cd A outer s H E).xe →
      Takes (cx3 P w K mg base N nm (defScope st) f cd A outer s H E) (WEx E) → (cx3 P w K mg base N nm (defScope st) f cd A outer s H E).A.guards = some [] → Room k (cx3 P w K mg base N nm (defScope st) f cd A outer s H E).A →
      ∃ u : S3, PSs (cx3 P w K mg base N nm (defScope st) f cd A outer s H E) (defBody st) (upS K (WEx E) u) ∧ ∀ ds G R Ex, ds.length = ps.length → S ds G R Ex → u { nx := fun _ G => R .non G, rt := R, ex := Ex } (start3 N ds) G) :
    Good P w K mg base nm ps (k + 1) S := by
  obtain ⟨f, fd, hm, F, hbd⟩ := d.ex
  have kp := F.kp
  obtain ⟨oc, od, kV, doc, pm, an, cdv, ct, osl, rfl, lk, hcd⟩ := F.ex
  have ef : f = He.ga K nm := by
    rw [hg] at hm
    cases hm
    rfl
  have ecd : cdv = .ref (cA K nm) := by
    have h1 := hcd
    unfold PySem.W.codeIn at h1
    split at h1
    · rename_i c
      unfold cA
      rw [← ef, lk]
    · cases h1
  have hlen : ∀ vs H Q E, sp3 K ps.length S vs H Q E → vs.length = ps.length := fun vs H Q E ⟨ds, G, R, Ex, h1, h2, _⟩ => h2.length.trans h1
  refine ⟨f, _, hm, kp, hbd, fn_G lk hcd sc hlen fun A outer s H vs Q E hg hr hs => ?_⟩
  obtain ⟨u, hu, hw⟩ := hb f cdv A outer s H E ecd (passes_of rfl) (takes_of rfl rfl rfl rfl) hg hr
  refine ⟨_, hu, ?_⟩
  obtain ⟨ds, G, R, Ex, h1, h2, h3, h4, h5, h6⟩ := hs
  refine ⟨start3 N ds, G, _, ?_, h3, hw ds G R Ex h1 h4, ⟨fun env σ G' H' e re rg q => h5 .non .non G' H' e rfl rg q, h5, fun _ _ _ _ _ _ _ z => z.elim, fun _ _ _ _ _ _ _ z => z.elim, h6⟩⟩
  unfold start3 L2.start
  rw [h2.length]
  exact REnv.start h2 (REnv.nones _)
end
/-! ### a def that calls what it is handed -/
abbrev SPL := SL → GH → K3 → (Value → Option (List Str × List D) → GH → Prop) → Prop
structure GoodL (P : Program) (w : World) (K : PySem.W.Frag) (mg : Str → Option Value) (base : Heap) (x : Str) (st : Stmt) (N : List Str) (a : Str) (k : Nat) (S : SPL) : Prop where
  d : DefAt K mg x st [a]
  sc : FnScope N [a] (defScope st)
  h0 : N[0]? = some a
  vis : Vis (defScope st) a
  hd : (a == ("__debug__" : Str)) = false
  hcd : (a == ("__classdict__" : Str)) = false
  body : ∀ (g : Addr) (cd : Value) (A : Around) (outer : List Env) (s : Shared) (H : Hp) (E : XK) (f c' : Addr) (q : Str) (vs : List V) (xs : List D) (L : SL),
    PassesOwn (model P w) (cx3 P w K mg base N x (defScope st) g cd A outer s H E).A (cx3 P w K mg base N x (defScope st) g cd A outer s H E).env (cx3 P w K mg base N x (defScope st) g cd A outer s H E).xe →
    Takes (cx3 P w K mg base N x (defScope st) g cd A outer s H E) (WEx E) → (cx3 P w K mg base N x (defScope st) g cd A outer s H E).A.guards = some [] → Room k (cx3 P w K mg base N x (defScope st) g cd A outer s H E).A →
    (∀ (W : WX) (pn : List (Addr × Obj)) (xe : Value → Shared → Prop) (p1 p2 : Pos), Takes ((cx3 P w K mg base N x (defScope st) g cd A outer s H E).tr pn xe) W →
      PE ((cx3 P w K mg base N x (defScope st) g cd A outer s H E).tr pn xe) (.Call (.Name a p1) [] [] p2) (up K W (wAct f c' q vs xs L))) →
    ∃ u : S3, PSs (cx3 P w K mg base N x (defScope st) g cd A outer s H E) (defBody st) (upS K (WEx E) u) ∧
      ∀ G R Ex, S L G R Ex → u { nx := fun _ G => R .non G, rt := R, ex := fun c fs _ G => Ex c fs G } (start3 N [.lam f c' q vs xs]) G
/-- the table that the lambda's maker has, after it -/
theorem made_G {K : PySem.W.Frag} {H H1 : Hp} {G : GH} {P c' : Addr} {ps : Array Value} {pos : Pos} {q : Str} (rg : RG K H G) (gP : G P = some (.tab q)) (hP : H P = some (.tbl ps)) (tr : TriplesOk ps.toList)
    (al : ∀ (pos : Pos) (cv : Value), codeAmong pos ps.toList = some cv → ∃ c, cv = .ref c ∧ G c = none ∧ H c = some (LamX.CodeO c q)) (md : Made H P ps pos c' q H1) : Ext G H G H1 ∧ RG K H1 G ∧ G c' = none := by
  rcases md with ⟨rfl, hc⟩ | ⟨rfl, nC⟩
  · obtain ⟨c2, e, g, _⟩ := al _ _ hc
    cases e
    exact ⟨.refl, rg, g⟩
  · have gC := rg.fresh nC
    have nPc : P ≠ c' := ne_of_none hP nC
    have ex : Ext G H G (upd (upd H P (.tbl (ps ++ #[rawInt pos.line, rawInt pos.col, .ref c']))) c' (LamX.CodeO c' q)) := ⟨fun b o e gb => by
      have n1 : b ≠ c' := ne_of_none e nC
      have n2 : b ≠ P := fun z => by rw [z, gP] at gb; cases gb
      exact ⟨by rw [upd_ne n1, upd_ne n2]; exact e, gb⟩⟩
    refine ⟨ex, fun p o hp => ?_, gC⟩
    have npc : p ≠ c' := fun z => by rw [z, gC] at hp; cases hp
    by_cases hpP : p = P
    · subst hpP
      rw [gP] at hp
      cases hp
      have eL : (ps ++ #[rawInt pos.line, rawInt pos.col, .ref c']).toList = ps.toList ++ [rawInt pos.line, rawInt pos.col, .ref c'] := by simp
      refine ⟨_, by rw [upd_ne nPc, upd_same], by rw [eL]; exact PySem.TriplesOk_snoc _ _ _ _ tr, fun p' cv hcv => ?_⟩
      rw [eL] at hcv
      rcases LamX.among_app _ tr hcv with z | z
      · obtain ⟨c0, e1, e2, e3⟩ := al p' cv z
        obtain ⟨k1, k2⟩ := ex.keep _ _ e3 e2
        exact ⟨c0, e1, k2, k1⟩
      · exact ⟨c', z, gC, upd_same⟩
    · exact (rg p o hp).ext ex (by rw [upd_ne npc, upd_ne hpP])
/-- x(lambda: body) -/
def wLam (P : Addr) (q : Str) (S : SPL) (wb : W3) : W3 := fun env G R Ex => G P = some (.tab q) ∧ S (slOf env wb) G R (fun c fs G' => Ex c fs env G')
theorem c_lam {X : Cx} {W : WX} {nm x a : Str} {st : Stmt} {Ng : List Str} {kg k : Nat} {S : SPL} {params : Arguments} {body : Expr} {scope : Scope} {wb : W3} {p lpos pos : Pos} (dfl : Dfl)
    (F : GoodL X.prog X.w X.K X.mg X.base x st Ng a kg S) (tb : TabF X.K X.mg nm) (ec : X.env.code = .ref (cA X.K nm)) (hr : Room (k + 2) X.A) (hkg : kg ≤ k + 1) (hgd : X.A.guards = some []) (tk : Takes X W) (L : LamS X.N X.env.scope scope)
    (hdf : dfl.exprs params) (hkw : params.kw_defaults = [])
    (hbind : ∀ (q : Str) (cl : List (Str × Addr)) (pm cv ctv dV : Value) (P : Addr) (s1 : Shared), dfl.at_ s1 P dV → ∃ binds, BindsTo s1 (lamF q params body scope cl pm cv ctv dV) ⟨[], []⟩ binds ∧ ∀ y ∈ binds, scope.names.lookup y.1 = some .local)
    (hbody : ∀ (A : Around) (outer : List Env) (s : Shared) (H : Hp) (E : XK) (f c' : Addr), (lamX X A outer s H E scope f c').A.guards = some [] → Room k (lamX X A outer s H E scope f c').A → Takes (lamX X A outer s H E scope f c') (WEx E) → PE (lamX X A outer s H E scope f c') body (up X.K (WEx E) wb))
    (hg : Gl X x := by rfl) (hdb : (x == ("__debug__" : Str)) = false := by decide) :
    PE X (.Call (.Name x p) [.Lambda params body scope lpos] [] pos) (up X.K W (wLam (tA X.K nm) (X.env.qual ++ "<lambda>") S wb)) := by
  obtain ⟨g, fd, hm, F0, hbd⟩ := F.d.ex
  have kp := F0.kp
  obtain ⟨oc, od, kV, doc, pm, an, cdv, ct, osl, rfl, lk, hcd⟩ := F0.ex
  refine ⟨fun pins s σ H Q I ⟨env, G, R, Ex, re, rg, ⟨gP, hS⟩, fe, fx⟩ => ?_⟩
  obtain ⟨ps, hP, tr, al⟩ := rg _ _ gP
  refine wpAny_Call_Name_kw (ld_glob I hg hm ?_ hdb)
  refine PySem.W.callWith_K (h₀ := X.base) I.ok.mod.kin kp ?_ (by rfl) (by rfl)
  show wpAny _ _ (spliced ((false, eval (.Lambda params body scope lpos) X.env) :: backTo pos (starEach [] X.env))) _ _ s
  refine Calls.spliced_cons (lam_eval dfl hdf hkw I (tb.b I.ok.mod) ec rfl hP tr (fun pos cv h => let ⟨c, e1, _, e2⟩ := al pos cv h; ⟨c, e1, e2⟩) (L.has I.ok) fun f c' pm' ctv dV H1 s' I1 md hco hf hfn hfr hT hTn => ?_)
  obtain ⟨e1, rg1, gc⟩ := made_G rg gP hP tr al md
  refine Calls.spliced_nil ⟨I1.kIn, ?_⟩
  have re1 := re.ext e1
  have rep : Rep X.K H1 G (.lam f c' (X.env.qual ++ "<lambda>") (valsOf env σ) (env.filterMap id)) (.ref f) := ⟨rfl, gc, hco, re1.toL⟩
  have rc : codeAny (model X.prog X.w) X.A (.call (.ref g) ⟨[.ref f], []⟩) (CR (L2.CX X.prog X.w) X.stack X.prog X.w H1 s' Q (WE W σ)) s' := by
    refine LamX.run_ofS (CX := L2.CX X.prog X.w) (N := Ng) (ps := [a]) (us := [.ref f]) (vs := [.ref f]) lk hcd F.sc (k := k + 1) hr I1.env0 (hbd s' [.ref f] I1.kIn rfl) (.cons rfl .nil) rfl fun hr' => ?_
    obtain ⟨u, hu, hw⟩ := F.body g cdv X.A X.stack s' H1 (WE W σ) f c' (X.env.qual ++ "<lambda>") (valsOf env σ) (env.filterMap id) (slOf env wb) (passes_of rfl) (takes_of rfl rfl rfl rfl) hgd (hr'.mono hkg)
      (fun W' pn xe p1 p2 tk' => c_act (k := k) dfl I1 re1 L rfl hf hfn hfr hT hTn (fun s1 h1 => hbind _ _ _ _ _ _ _ s1 h1) tk' hr' hgd (fun A outer s H E => hbody A outer s H E f c') F.h0 F.vis F.hd F.hcd)
    refine ⟨_, hu, start3 Ng [.lam f c' (X.env.qual ++ "<lambda>") (valsOf env σ) (env.filterMap id)], G, _, ?_, rg1, hw G R (fun c fs G' => Ex c fs env G') hS, ⟨fun env' σ' G' H' e re' rg' q => fe.ext e1 .non .non G' H' e rfl rg' q, fe.ext e1, fun _ _ _ _ _ _ _ z => z.elim, fun _ _ _ _ _ _ _ z => z.elim,
      fun c fs d env' σ' G' H' e re' rg' rx ex => fx c fs d env σ G' H' (e1.trans e) (re.ext (e1.trans e)) rg' rx ex⟩⟩
    exact REnv.start (K := X.K) (.cons rep rfl) (REnv.nones _)
  refine wpAny_call (codeAny_mono rc fun r s2 hq => ?_)
  cases r with
  | error e => exact passAt tk σ pins H1 s' e s2 I1 hq
  | ok fl =>
    cases fl with
    | ret u => exact I1.after hq
    | next => exact False.elim hq
    | brk => exact False.elim hq
    | cont => exact False.elim hq

/-! ### the law's own call, tables of code objects tracked -/
def lamQ (x : Str) : Str := x ++ ".<locals>." ++ "<lambda>"
section
variable {P : Program} {w : World} {K : PySem.W.Frag} {mg mb : Str → Option Value} {k : Nat} {fa a : Addr} {x nm : Str} {S : SP3} {s : Shared} {vs : List Value} {ns : List Int}
def scriptT (K : PySem.W.Frag) (a : Addr) (o : Obj) (xs : List V) (tf : List Str) : Hp := fun b => if b = a ∧ K.lookup a = none then some (.frz o (.lst xs)) else if b ≠ a ∧ b ∈ tf.map (tA K) then some (.tbl #[]) else none
def tabG (K : PySem.W.Frag) (tf : List Str) : GH := fun b => (tf.find? fun x => decide (tA K x = b)).map fun x => .tab (lamQ x)
theorem enterT {tf : List Str} (kin : K.In s.heap) (gl : s.heap.Ns mainGlobals mg) (bu : s.heap.Ns builtinsNs mb) (bo : ∀ y : Str, y ≠ "__name__" → mb y = bootBuiltins y) (nl : s.heap.NoLimit) (ge : s.gens = #[])
    (tabs : ∀ x ∈ tf, s.heap.get? (tA K x) = some { cls := .none, data := .fields #[] }) (tout : ∀ x ∈ tf, TabF K mg x) (dist : ∀ x ∈ tf, ∀ y ∈ tf, tA K x = tA K y → x = y)
    (sc : s.heap.get? a = some { cls := .type "list", data := .seq vs.toArray }) (iv : IntsAre vs ns) (len : ns.length ≤ sizeLine) (room : Room k callerA)
    (F : ∀ base : Heap, Good P w K mg base nm [x] k S) (nam : mg nm = some (.ref fa))
    (hS : ∀ (G : GH) (R : K3) (Ex : X3), (∀ x ∈ tf, G (tA K x) = some (.tab (lamQ x))) → (∀ G', R (.bl true) G') → S [.lsx (ns.map D.int)] G R Ex) :
    codeAny (model P w) callerA (.call (.ref fa) ⟨[.ref a], []⟩) (fun r s' => r = .ok (.ret (.bool true)) ∧ OldK s.heap s'.heap ∧ s'.os = s.os ∧ AllBare s'.gens) s := by
  generalize eo : ({ cls := .type "list", data := .seq vs.toArray } : Obj) = ob at sc
  have rv := vals_ints iv
  have lv : vs.length = ns.length := iv.length
  have isT : ∀ b : Addr, b ∈ tf.map (tA K) → s.heap.get? b = some { cls := .none, data := .fields #[] } := fun b hb => by
    obtain ⟨x, hx, e⟩ := List.mem_map.mp hb
    rw [← e]
    exact tabs x hx
  have aT : a ∉ tf.map (tA K) := fun z => by
    have q := isT a z
    rw [sc, ← eo] at q
    have z' : Data.seq vs.toArray _ = Data.fields #[] := congrArg Obj.data (Option.some.inj q)
    cases z'
  generalize eH : scriptT K a ob (ns.map V.int) tf = H
  have H1 : ∀ b u, H b = some u → (b = a ∧ K.lookup a = none ∧ u = .frz ob (.lst (ns.map V.int))) ∨ (b ∈ tf.map (tA K) ∧ u = .tbl #[]) := fun b u e => by
    rw [← eH] at e
    unfold scriptT at e
    by_cases q : b = a ∧ K.lookup a = none
    · rw [if_pos q] at e
      cases e
      exact .inl ⟨q.1, q.2, rfl⟩
    · rw [if_neg q] at e
      by_cases q2 : b ≠ a ∧ b ∈ tf.map (tA K)
      · rw [if_pos q2] at e
        cases e
        exact .inr ⟨q2.2, rfl⟩
      · rw [if_neg q2] at e; cases e
  have HT : ∀ b ∈ tf.map (tA K), H b = some (.tbl #[]) := fun b hb => by
    have nb : b ≠ a := fun z => aT (z ▸ hb)
    rw [← eH]
    unfold scriptT
    rw [if_neg (fun z => nb z.1), if_pos ⟨nb, hb⟩]
  have ok : HOk P w H s.heap := fun b u e => by
    rcases H1 b u e with ⟨q1, _, q2⟩ | ⟨q1, q2⟩
    · rw [q1, q2]
      refine ⟨sc, by rw [List.length_map]; exact len, vs, 0, rv, ?_⟩
      rw [sc, ← eo]
    · rw [q2]
      exact isT b q1
  have free : ∀ {b : Addr} {o : Obj}, s.heap.get? b = some o → (∀ vs n, o.data ≠ .seq vs n) → o.data ≠ .fields #[] → H b = none := fun {b o} e h1 h2 => by
    cases q : H b with
    | none => rfl
    | some u =>
      rcases H1 b u q with ⟨q1, _, _⟩ | ⟨q1, _⟩
      · rw [q1, sc, ← eo] at e
        cases e
        exact (h1 _ _ rfl).elim
      · rw [isT b q1] at e
        cases e
        exact (h2 rfl).elim
  have nsG : ∀ {b : Addr} {m : Str → Option Value}, s.heap.Ns b m → (hidT s.heap H).Ns b m := fun ⟨o, es, n, e, d, r⟩ => ⟨o, es, n, hidT_get e (free e (fun vs n z => by rw [d] at z; cases z) (fun z => by rw [d] at z; cases z)), d, r⟩
  have kinG : K.In (hidT s.heap H) := fun b o e => hidT_get (kin b o e) (by
    cases q : H b with
    | none => rfl
    | some u =>
      rcases H1 b u q with ⟨q1, q2, _⟩ | ⟨q1, _⟩
      · rw [q1, q2] at e; cases e
      · obtain ⟨x, hx, ex⟩ := List.mem_map.mp q1
        rw [← ex, (tout x hx).out] at e; cases e)
  have md : Mod K mg (hidT s.heap H) := ⟨kinG, nsG gl, ⟨mb, nsG bu, bo⟩, let ⟨mc, p, q⟩ := nl; ⟨mc, nsG p, q⟩⟩
  have env : Env0 P w K mg (hidT s.heap H) callerA [] s H := ⟨rfl, md, fun _ _ e => of_hidT e, Nat.le_of_eq (hidT_size _ _), trivial, fun b hb => absurd (show b ∈ ([] : List Addr) from hb) List.not_mem_nil, ok, .of_eq ge⟩
  have gT : ∀ x ∈ tf, tabG K tf (tA K x) = some (.tab (lamQ x)) := fun x hx => by
    unfold tabG
    obtain ⟨y, hy⟩ : ∃ y, tf.find? (fun y => decide (tA K y = tA K x)) = some y := by
      cases e : tf.find? (fun y => decide (tA K y = tA K x)) with
      | some y => exact ⟨y, rfl⟩
      | none => exact absurd (by simp) (List.find?_eq_none.mp e x hx)
    rw [hy]
    have h1 : tA K y = tA K x := of_decide_eq_true (List.find?_some (p := fun y => decide (tA K y = tA K x)) hy)
    have h2 : y ∈ tf := List.mem_of_find?_eq_some hy
    have exy : y = x := dist y h2 x hx h1
    rw [exy]
    rfl
  have gA : ∀ b, b ∉ tf.map (tA K) → tabG K tf b = none := fun b nb => by
    unfold tabG
    rw [List.find?_eq_none.mpr fun x hx z => nb (List.mem_map.mpr ⟨x, hx, of_decide_eq_true z⟩)]
    rfl
  have rgT : RG K H (tabG K tf) := fun p o hp => by
    by_cases hpt : p ∈ tf.map (tA K)
    · obtain ⟨x, hx, rfl⟩ := List.mem_map.mp hpt
      rw [gT x hx] at hp
      cases hp
      exact ⟨#[], HT _ hpt, True.intro, fun pos cv hc => by
        have z : codeAmong pos [] = some cv := hc
        simp [codeAmong] at z⟩
    · rw [gA p hpt] at hp
      cases hp
  have rep : RepL K H (tabG K tf) [D.lsx (ns.map D.int)] [V.ref a] := .one ⟨a, ns.map V.int, rfl, by
    cases q : K.lookup a with
    | none => exact .inl ⟨gA a aT, .inr ⟨ob, by rw [← eH]; exact if_pos ⟨rfl, q⟩⟩⟩
    | some o =>
      have e := kin a o q
      rw [sc] at e
      cases e
      refine .inr ⟨ob, vs.toArray, 0, q, by rw [← eo], by rw [← eo], ?_, by rw [List.size_toArray, lv]; exact len, by simpa using rv⟩
      rw [← eo], RepL.ints⟩
  have want : sp3 K 1 S [V.ref a] H (fun v _ => v = .bl true) (fun _ _ _ => False) := ⟨_, tabG K tf, fun d _ => d = .bl true, fun _ _ _ _ => False, rfl, rep, rgT, hS _ _ _ gT fun _ => rfl, fun d v _ _ _ r _ e => by
    rw [e] at r
    exact r, fun _ _ _ _ _ _ _ _ _ _ _ z => z.elim⟩
  obtain ⟨f, fd, hm, _, bt, FG⟩ := (F (hidT s.heap H)).ex
  obtain rfl : fa = f := by
    rw [nam] at hm
    cases hm
    rfl
  refine codeAny_mono (FG.run callerA [] s H ⟨[.ref a], []⟩ [.ref a] [.ref a] _ _ room rfl env (bt s [.ref a] kin rfl) (.cons rfl .nil) want) fun r s' h => ?_
  rcases r with e | fl
  · obtain ⟨_, _, _, _, _, _, _, _, _, _, _, _, z⟩ := h
    exact z.elim
  · cases fl with
    | next => exact h.elim
    | brk => exact h.elim
    | cont => exact h.elim
    | ret u =>
      obtain ⟨v, H', os, bare, un, ok', ru, q⟩ := h
      obtain rfl : v = .bl true := q
      obtain rfl : u = Value.bool true := ru
      have key : ∀ b o, b ∉ tf.map (tA K) → s.heap.get? b = some o → s'.heap.get? b = some o := fun b o nb e => by
        cases q : H b with
        | none => exact un.keep b o e q (fun z => absurd (show b ∈ ([] : List Addr) from z) List.not_mem_nil) (by simp)
        | some u =>
          rcases H1 b u q with ⟨_, _, rfl⟩ | ⟨z, _⟩
          · obtain ⟨e1, _⟩ := ok b _ q
            obtain ⟨e2, _⟩ := ok' b _ (un.frzs b _ _ q)
            rw [e] at e1
            cases e1
            exact e2
          · exact absurd z nb
      have grown : ∀ b ∈ tf.map (tA K), ∃ more : Array Value, s'.heap.get? b = some { cls := .none, data := .fields more } := fun b hb => by
        obtain ⟨more, z⟩ := un.tbls b #[] (HT b hb)
        exact ⟨_, ok' b _ z⟩
      refine ⟨rfl, ⟨fun b o e => ?_, fun b o e => ?_⟩, os, bare⟩
      · by_cases hb : b ∈ tf.map (tA K)
        · obtain ⟨more, hm⟩ := grown b hb
          obtain ⟨x, hx, rfl⟩ := List.mem_map.mp hb
          rw [tabs x hx] at e
          cases e
          exact .inr (.inl ⟨((PySem.W.codeHd_of_K kin (tout x hx).hd).tab (tabs x hx)).isCodeTable, rfl, #[], more, rfl, by rw [Array.empty_append]; exact hm⟩)
        · exact .inl (key b o hb e)
      · by_cases hb : b ∈ tf.map (tA K)
        · obtain ⟨more, hm⟩ := grown b hb
          exact ⟨_, hm⟩
        · exact ⟨o, key b o hb e⟩
end
/-- the hook, tables asked as well -/
def obsMT (n : Nat) (fn : List He.DefD) (ex : PySem.W.Frag → Bool) (tf : List Str) (g : Addr → Option Obj) : AlM × Bool := (obsM n fn ex g, (tf.all fun x => tf.all fun y => !decide (tA (frM n g) x = tA (frM n g) y) || decide (x = y)) && tf.all fun x => match g (tA (frM n g) x) with
  | some o => He.emptyTab o
  | none => false)
structure SaysT (fn : List He.DefD) (ex : PySem.W.Frag → Bool) (tf : List Str) (h : Heap) (K : PySem.W.Frag) : Prop where
  m : SaysM fn ex K
  nd : ∀ x ∈ tf, ∀ y ∈ tf, tA K x = tA K y → x = y
  emp : ∀ x ∈ tf, h.get? (tA K x) = some { cls := .none, data := .fields #[] }
theorem saysT_of {n : Nat} {fn : List He.DefD} {ex : PySem.W.Frag → Bool} {tf : List Str} {h : Heap} (e : obsMT n fn ex tf h.get? = (valM fn, true)) : SaysT fn ex tf h (frM n h.get?) := by
  have e1 : obsM n fn ex h.get? = valM fn := congrArg (fun z : AlM × Bool => z.1) e
  have e2 : ((tf.all fun x => tf.all fun y => !decide (tA (frM n h.get?) x = tA (frM n h.get?) y) || decide (x = y)) && tf.all fun x => match h.get? (tA (frM n h.get?) x) with
    | some o => He.emptyTab o
    | none => false) = true := congrArg (fun z : AlM × Bool => z.2) e
  obtain ⟨h1, h2⟩ := Bool.and_eq_true_iff.mp e2
  refine ⟨⟨e1⟩, fun x hx y hy e => ?_, fun x hx => ?_⟩
  · have z := List.all_eq_true.mp (List.all_eq_true.mp h1 x hx) y hy
    rw [e] at z
    simpa using z
  have z := List.all_eq_true.mp h2 x hx
  cases q : h.get? (tA (frM n h.get?) x) with
  | none => rw [q] at z; cases z
  | some o =>
    rw [q] at z
    rw [He.emptyTab_eq z]
def hookMT (n : Nat) (fn : List He.DefD) (ex : PySem.W.Frag → Bool) (tf : List Str) : PySem.W.Hook where
  α := AlM × Bool
  obs := fun s => obsMT n fn ex tf s.heap.get?
  val := fun _ => (valM fn, true)
  says := fun _ h => ∃ K : PySem.W.Frag, K.In h ∧ SaysT fn ex tf h K
  of := fun _ _ e => ⟨_, He.frG_in, saysT_of e⟩
  keeps := fun _ _ _ ⟨K, hK, c⟩ k => ⟨K, PySem.W.Frag.In.keeps hK k, ⟨c.m, c.nd, fun x hx => k _ _ (c.emp x hx)⟩⟩
theorem obsMT_eq {n : Nat} {fn : List He.DefD} {ex : PySem.W.Frag → Bool} {tf : List Str} {g : Addr → Option Obj} {s : Shared} (h : ∀ a, g a = s.heap.get? a) : obsMT n fn ex tf g = (hookMT n fn ex tf).obs s := by
  obtain rfl : g = s.heap.get? := funext h
  rfl
theorem walk_ofT {l : PySem.W.OpenLaw} {n k : Nat} {q : Program} {loose : List Str} {XP : (Str → Option Value) → Heap → Prop} {d : DefRec} {x nm : Str} {fn : List He.DefD} {fs : List Fc} {tf : List Str} {S : PySem.W.Frag → SP3}
    (hn : l.most = some n) (hn2 : n ≤ sizeLine) (hdf : d.params.defaults = []) (hr : Room k callerA) (hnm : d.name = nm)
    (F : ∀ (w : World) (K : PySem.W.Frag) (mg : Str → Option Value) (base : Heap), Top fn fs K mg → Good l.prog w K mg base nm [x] k (S K))
    (ht : ∀ (K : PySem.W.Frag) (mg : Str → Option Value), Top fn fs K mg → ∀ x ∈ tf, TabF K mg x)
    (fin : ∀ (K : PySem.W.Frag) (mg : Str → Option Value) (ns : List Int), Top fn fs K mg → ns.length ≤ n → (∀ z ∈ ns, Builtin.Int.intBits z ≤ 1048576) → ∀ (G : GH) (R : K3) (Ex : X3), (∀ x ∈ tf, G (tA K x) = some (.tab (lamQ x))) → (∀ G', R (.bl true) G') → S K [.lsx (ns.map D.int)] G R Ex) :
    PySem.W.WalkO q loose XP (fun _ h => ∃ K : PySem.W.Frag, K.In h ∧ SaysT fn (exOf fs) tf h K) l.row.toRowW d [] (fun f vs => PySem.call f vs) := by
  refine Att.attach_callB hn hdf fun w s0 s1 mg mb fa o pm cd doc a vs ns G Y ho hd hcd hmg hobj hints hlen hbits hgen => ?_
  obtain ⟨K, KX, c⟩ := Y
  have T : Top fn fs K mg := ⟨⟨_, KX, G.T.g⟩, c.m⟩
  exact enterT KX G.T.g G.T.b G.T.builtins G.T.nolimit hgen c.emp (ht K mg T) c.nd hobj hints (Nat.le_trans hlen hn2) hr (fun base => F w K mg base T) (by rw [← hnm]; exact hmg) fun G R Ex hG h => fin K mg ns T hlen hbits G R Ex hG h

/-! ### t * k, k from 0 -/
theorem tuple_mulS (l : Addr) (items : Array Value) (n : Nat) (dd : Option Addr) (sl : Array (Option Value)) (x : Int) (u : Tok) (c0 : (decide (x < -(2 ^ 63)) || decide (x ≥ 2 ^ 63)) = false) (c1 : (items.isEmpty || x == 1) = true) :
    Meets (Builtin.«tuple.__mul__» ⟨[.ref l, .int x u], []⟩) (fun _ R s => s.heap.get? l = some { cls := .type "tuple", dict := dd, data := .seq items n, slots := sl } ∧
      R (.ok (.ret (Value.ref l))) s) :=
  .of_wp fun prog w A R s h => by
    obtain ⟨hp, g, d, tk, os⟩ := s
    obtain ⟨hl, h⟩ := h
    have f1 := AutoSeq1.idx_int
    wp_walk using wpAny_loadPart' hl
    repeat (first
      | (refine wpAny_ite_false (decide_eq_false (by rw [c0]; exact Bool.false_ne_true)) ?_; wp_walk using wpAny_loadPart' hl)
      | (refine wpAny_ite_true (decide_eq_true (by rw [c1])) ?_; wp_walk using wpAny_loadPart' hl)
      )
    exact ⟨_, rfl, h⟩
theorem tuple_mul0 (l : Addr) (items : Array Value) (n : Nat) (dd : Option Addr) (sl : Array (Option Value)) (x : Int) (u : Tok) (c0 : (decide (x < -(2 ^ 63)) || decide (x ≥ 2 ^ 63)) = false) (c1 : (items.isEmpty || x == 1) = false) (c2 : (decide (x ≤ 0) || items.isEmpty) = true) :
    Meets (Builtin.«tuple.__mul__» ⟨[.ref l, .int x u], []⟩) (fun _ R s => s.heap.get? l = some { cls := .type "tuple", dict := dd, data := .seq items n, slots := sl } ∧
      R (.ok (.ret (Value.ref s.heap.objs.size))) { s with heap := s.heap.push { cls := Value.type "tuple", data := Data.seq #[] }, toks := s.toks }) :=
  .of_wp fun prog w A R s h => by
    obtain ⟨hp, g, d, tk, os⟩ := s
    obtain ⟨hl, h⟩ := h
    have f1 := AutoSeq1.idx_int
    wp_walk using wpAny_loadPart' hl
    repeat (first
      | (refine wpAny_ite_false (decide_eq_false (by rw [c0]; exact Bool.false_ne_true)) ?_; wp_walk using wpAny_loadPart' hl)
      | (refine wpAny_ite_false (decide_eq_false (by rw [c1]; exact Bool.false_ne_true)) ?_; wp_walk using wpAny_loadPart' hl)
      | (refine wpAny_ite_true (decide_eq_true (by rw [c2])) ?_; wp_walk using wpAny_loadPart' hl)
      )
    exact ⟨_, rfl, h⟩
/-- a tuple some times, none or once as well -/
def rRepZ (K : PySem.W.Frag) : R2 := fun x y H Q => ∃ l k xs, x = .ref l ∧ y = .int k ∧ SqT K H l xs ∧ xs ≠ [] ∧ 0 ≤ k ∧ k ≤ 1000 ∧ xs.length ≤ 1000 ∧ (k = 1 → Q (.ref l) H) ∧ (k ≠ 1 → ∀ p, H p = none → Q (.ref p) (upd H p (.tup (List.replicate k.toNat xs).flatten)))
theorem op_repZ {X : Cx} : OpR X (binaryOp .Mult) (rRepZ X.K) := by
  intro pins s σ H x y v u Q I rx ry h
  obtain ⟨l, k, xs, rfl, rfl, hT, hne, h1, h2, hz, q1, q2⟩ := h
  by_cases k2 : 2 ≤ k
  · exact op_repT pins s σ H _ _ v u Q I rx ry ⟨l, k, xs, rfl, rfl, hT, hne, k2, h2, hz, q2 (by omega)⟩
  cases rx
  obtain ⟨t, rfl⟩ := ry
  obtain ⟨its, r, ⟨⟨cls, dd, data, sl⟩, ho, hc, n, hd⟩, hs⟩ := I.tuple hT
  simp only at hc hd
  subst hc hd
  have hle : its.length = xs.length := r.length.symm
  have hn : its ≠ [] := fun e => hne (by
    rw [e] at hle
    exact List.eq_nil_of_length_eq_zero hle.symm)
  have hi : its.toArray.isEmpty = false := by
    cases its with
    | nil => exact absurd rfl hn
    | cons a b => rfl
  have c0 : (decide (k < -(2 ^ 63)) || decide (k ≥ 2 ^ 63)) = false := by
    rw [decide_eq_false (by omega), decide_eq_false (by omega)] <;> rfl
  by_cases k1 : k = 1
  · subst k1
    refine wpAny_binaryOp_repeat_ref (T := "tuple") (U := "int") (by decide) ⟨_, ho, rfl⟩ (fun s' => typeIs_int s' 1 t) noFill_tuple_mul F.fills_int_mul F.slot_int_rmul repeat_tuple F.slot_int_index.lookup
      (call_meets F.slot_int_rmul (typeIs_int s 1 t) F.entry_int_rmul (F.args_int_rmul_2 _ _) (int_rmul_tuple 1 t l its.toArray n dd sl)
        ⟨ho, rfl, ⟨_, ho, rfl⟩, call_meets F.slot_tuple_mul ⟨_, ho, rfl⟩ F.entry_tuple_mul (F.args_tuple_mul_2 _ _) (tuple_mulS l its.toArray n dd sl 1 t c0 (by rw [hi]; rfl)) ⟨ho, ?_⟩⟩)
    exact ⟨.ref l, _, I, rfl, q1 rfl⟩
  · have k0 : k = 0 := by omega
    subst k0
    refine wpAny_binaryOp_repeat_ref (T := "tuple") (U := "int") (by decide) ⟨_, ho, rfl⟩ (fun s' => typeIs_int s' 0 t) noFill_tuple_mul F.fills_int_mul F.slot_int_rmul repeat_tuple F.slot_int_index.lookup
      (call_meets F.slot_int_rmul (typeIs_int s 0 t) F.entry_int_rmul (F.args_int_rmul_2 _ _) (int_rmul_tuple 0 t l its.toArray n dd sl)
        ⟨ho, rfl, ⟨_, ho, rfl⟩, call_meets F.slot_tuple_mul ⟨_, ho, rfl⟩ F.entry_tuple_mul (F.args_tuple_mul_2 _ _) (tuple_mul0 l its.toArray n dd sl 0 t c0 (by rw [hi]; rfl) (by rw [hi]; rfl)) ⟨ho, ?_⟩⟩)
    refine ⟨.ref s.heap.objs.size, _, I.laid (t' := s.toks) (o := .tup (List.replicate (0 : Int).toNat xs).flatten) (fun b ob q => Heap.get?_push_of_some _ q) (Nat.le_refl _) ?_, rfl, q2 (by decide) _ (I.hok.fresh (Nat.le_refl _))⟩
    exact ⟨by rw [sizeLine_eq]; exact Nat.zero_le _, [], .nil, IsTup.new _ _⟩
def fRepZ : F2 := fun x y G R => ∃ xs k, x = .tup xs ∧ y = .int k ∧ xs ≠ [] ∧ 0 ≤ k ∧ k ≤ 1000 ∧ xs.length ≤ 1000 ∧ R (.tup (List.replicate k.toNat xs).flatten) G
theorem lift_repZ {K : PySem.W.Frag} : Lift2 K (rRepZ K) fRepZ := by
  rintro x y a b H G R Q rx ry rg ⟨xs, k, rfl, rfl, h1, h2, h3, h4, h5⟩ fe
  obtain ⟨p, vs, rfl, sq, rl⟩ := asT_at rx (show asT (.tup xs) = some xs from rfl)
  have hn : vs ≠ [] := fun e => h1 (List.length_eq_zero_iff.mp (by rw [← rl.length, e]; rfl))
  refine ⟨p, k, vs, rfl, ry, sq, hn, h2, h3, by rw [rl.length]; exact h4, fun e => ?_, fun e => fin_tup (rl.reps _) rg fe h5⟩
  subst e
  have e1 : (List.replicate (1 : Int).toNat xs).flatten = xs := by
    show (List.replicate 1 xs).flatten = xs
    simp
  rw [e1] at h5
  exact fe _ _ G H .refl rx rg h5
end L3

set_option Elab.async false
set_option linter.all false
set_option maxRecDepth 100000
set_option maxHeartbeats 4000000
namespace L3
open PySem PySem.Spec L2
open PyProof.Rows hiding St

/-! ### no limit on digits is set -/
def digB (K : PySem.W.Frag) : Bool := match K.lookup cStatics with
  | some ⟨_, _, .dict es _, _⟩ => es.toList.all (fun e => match e.key with | .str _ _ => true | _ => false) && (match nsFind es "sys.int_max_str_digits" with | none => true | some _ => false)
  | _ => false
theorem digB_ok {K : PySem.W.Frag} {h : Heap} (kin : K.In h) (c : digB K = true) : h.NoDigits := by
  unfold digB at c
  split at c
  · rename_i cl d es n sl e
    rw [Bool.and_eq_true, List.all_eq_true] at c
    refine ⟨nsFind es, ⟨_, es, n, kin _ _ e, rfl, fun x hx => ?_, fun _ => rfl⟩, ?_⟩
    · have := c.1 x (by simpa using hx)
      split at this
      · rename_i k t ek
        exact ⟨k, t, ek⟩
      · cases this
    · have := c.2
      split at this
      · assumption
      · cases this
  · cases c
theorem Top.dig {fn : List He.DefD} {fs : List Fc} {K : PySem.W.Frag} {mg : Str → Option Value} (T : Top fn fs K mg) (i : Nat) (h : fs[i]? = some (.own digB)) : digB K = true := T.own i h
/-- str(i), i to 2000 digits; str(x) -/
def rStrD : List V → Hp → VK → Prop := fun xs H Q => (∃ i, xs = [.int i] ∧ i.natAbs < 10 ^ 4300 ∧ Q (.str (toString i)) H) ∨ ∃ a, xs = [.str a] ∧ Q (.str a) H
def fStrD : FA := fun xs G R => match xs with
  | [.int i] => i.natAbs < 10 ^ 4300 ∧ R (.str (toString i)) G
  | [.str x] => R (.str x) G
  | _ => False
theorem call_str_dig {X : Cx} (hc : X.calm = true) (dig : digB X.K = true) : CallR X (.type "str") (fun xs H Q => ∃ i, xs = [.int i] ∧ i.natAbs < 10 ^ 4300 ∧ Q (.str (toString i)) H) := by
  intro pins s σ H xs us Q I r h
  obtain ⟨i, rfl, hz, q⟩ := h
  obtain ⟨u, rfl, t, rfl⟩ := vals1 r
  generalize hP : 10 ^ 4300 = P at hz
  exact str_of_int_or (I.ok.hd hc) (digB_ok I.kIn dig) (fun _ => ⟨.str _, H, I.tok _, ⟨_, rfl⟩, q⟩) fun hge => absurd hz (by rw [← hP]; omega)
theorem call_strD {X : Cx} (hc : X.calm = true) (dig : digB X.K = true) : CallR X (.type "str") rStrD := CallR.or (call_str_dig hc dig) SkE.call_str_str
theorem lift_strD {K : PySem.W.Frag} : LiftC K rStrD fStrD := by
  intro xs vs H G R Q r g h fe
  unfold fStrD at h
  split at h
  · obtain ⟨v, rfl, a⟩ := r.one_inv
    exact .inl ⟨_, by rw [show v = _ from a], h.1, fe (.str _) _ G H .refl rfl g h.2⟩
  · obtain ⟨v, rfl, a⟩ := r.one_inv
    exact .inr ⟨_, by rw [show v = _ from a], fe (.str _) _ G H .refl rfl g h⟩
  · exact h.elim
/-- {x} in an f'..', x a text or an int -/
def tFmtD (te : TE) : TE := fun σ H Q => te σ H fun x H1 => (∃ y : Str, x = .str y ∧ y.length ≤ sizeLine ∧ Q (.str y) H1) ∨ ∃ i : Int, x = .int i ∧ i.natAbs < 10 ^ 4300 ∧ Q (.str (toString i)) H1
section
variable {X : Cx}
theorem pe_fmtD {e : Expr} {te : TE} {pos : Pos} (hc : X.calm = true) (dig : digB X.K = true) (he : PE X e te) : PE X (.FormattedValue e (-1) none pos) (tFmtD te) := by
  refine ⟨fun pins s σ H Q I h => ?_⟩
  refine wpAny_FormattedValue_plain (thn (he.run pins s σ H _ I h) fun v s1 hv => ?_)
  obtain ⟨x, H1, I1, r1, q⟩ := hv
  rcases q with ⟨y, rfl, hz, q⟩ | ⟨i, rfl, hz, q⟩
  · obtain ⟨t, rfl⟩ := r1
    exact wpAny_formatField_str ⟨.str y, H1, I1, ⟨t, rfl⟩, q⟩ ⟨.str y, H1, I1.tok _, ⟨_, rfl⟩, q⟩ hz
  · obtain ⟨t, rfl⟩ := r1
    generalize hP : 10 ^ 4300 = P at hz
    exact formatField_int (I1.ok.hd hc) (digB_ok I1.kIn dig) (fun _ => ⟨.str (toString i), H1, I1.tok _, ⟨_, rfl⟩, q⟩) fun hge => absurd hz (by rw [← hP]; omega)
end
theorem dig_lt {i : Int} (h : i.natAbs.log2 < 2000) : i.natAbs < 10 ^ 4300 := Nat.lt_of_lt_of_le (lt_of_log2 (Nat.lt_trans h (by decide : 2000 < 12900))) pow_lo
theorem dig_len {i : Int} (h : i.natAbs.log2 < 2000) : (Str.ofString (toString i)).length ≤ 2001 := by
  have e := int_text_length_le (k := 2000) (by decide) h
  rw [PySem.ofString_length]
  omega
/-- f'{a}z{b}' of two ints -/
def wJs (z : Str) (a b : W3) : W3 := fun env G R Ex => a env G (fun x G1 => ∃ i, x = .int i ∧ i.natAbs.log2 < 2000 ∧ z.length ≤ 1000 ∧ b env G1 (fun y G2 => ∃ j, y = .int j ∧ j.natAbs.log2 < 2000 ∧ R (.str (Str.ofString (toString i) ++ z ++ Str.ofString (toString j))) G2) Ex) Ex
theorem empty_app {y : Str} : Str.empty ++ y = y := by
  show (⟨Str.empty.cps ++ y.cps⟩ : Str) = y
  simp [Str.empty]
theorem c_js {X : Cx} {W : WX} {a b : Expr} {wa wb : W3} {z : Str} {j : Nat} {p1 p2 p3 pos : Pos} (hc : X.calm = true) (dig : digB X.K = true) (ha : PE X a (up X.K W wa)) (hb : PE X b (up X.K W wb)) :
    PE X (.JoinedStr [.FormattedValue a (-1) none p1, .Constant (.str z) j p2, .FormattedValue b (-1) none p3] pos) (up X.K W (wJs z wa wb)) :=
  PE.imp (pe_joined (.cons (pe_fmtD hc dig ha) (.cons pe_str (.cons (pe_fmtD hc dig hb) .nil)))) fun σ H Q ⟨env, G, R, Ex, re, rg, h, fe, fx⟩ => by
    refine up_go re rg h fx fun x v G1 H1 e1 rx rg1 ⟨i, q1, q2, q3, h1⟩ => ?_
    subst q1
    have li := dig_len q2
    refine .inr ⟨i, rx, dig_lt q2, _, rfl, ?_, z, rfl, ?_, up_go (re.ext e1) rg1 h1 (fx.ext e1) fun y u G2 H2 e2 ry rg2 ⟨k, q4, q5, h2⟩ => ?_⟩
    · rw [empty_app, sizeLine_eq]
      omega
    · rw [app_len, empty_app, sizeLine_eq]
      omega
    · subst q4
      have lk := dig_len q5
      refine .inr ⟨k, ry, dig_lt q5, _, rfl, ?_, ?_⟩
      · rw [app_len, app_len, empty_app, sizeLine_eq]
        omega
      · rw [empty_app]
        exact fe (.str _) _ G2 H2 (e1.trans e2) rfl rg2 h2

/-! ### methods of texts -/
def fSplit : FM := fun x xs G R => ∃ a b, x = .str a ∧ xs = [.str b] ∧ (b.length == 0) = false ∧ a.length + 2 ≤ sizeLine ∧ R (.lst ((Txt.split a b).map D.str)) G
theorem strs_rep {K : PySem.W.Frag} {H : Hp} {G : GH} : ∀ (ys : List Str), RepL K H G (ys.map D.str) (ys.map V.str)
  | [] => rfl
  | y :: ys => ⟨.str y, ys.map V.str, rfl, rfl, strs_rep ys⟩
theorem strs_of {K : PySem.W.Frag} {H : Hp} {G : GH} : ∀ {ys : List Str} {vs : List V}, RepL K H G (ys.map D.str) vs → vs = ys.map V.str
  | [], _, h => h
  | y :: ys, _, ⟨v, r, q, a, t⟩ => by
    rw [q, show v = .str y from a, strs_of t]
    rfl
theorem m_split {K : PySem.W.Frag} : LiftM K "str" (fun x xs H Q => ∃ a b, x = .str a ∧ xs = [.str b] ∧ (b.length == 0) = false ∧ a.length + 2 ≤ sizeLine ∧ rNewStrs (Txt.split a b) H Q) fSplit cS := ⟨tyS, by
  rintro x a xs vs H G R Q rx rs g ⟨y, z, rfl, rfl, h1, h2, h3⟩ fe
  obtain ⟨v, rfl, rv⟩ := rs.one_inv
  exact ⟨y, z, rx, by rw [show v = _ from rv], h1, h2, fin_lst (strs_rep _) g fe h3⟩⟩
def fJoin : FM := fun x xs G R => ∃ a y ys, x = .str a ∧ xs = [y] ∧ asS G y = some (ys.map D.str) ∧ (ys.map (·.length)).sum + ys.length * a.length ≤ 16777216 ∧ R (.str (Txt.join a ys)) G
theorem m_join {K : PySem.W.Frag} : LiftM K "str" (fun x xs H Q => ∃ a p, ∃ ys : List Str, x = .str a ∧ xs = [.ref p] ∧ (SqL K H p (ys.map V.str) ∨ SqT K H p (ys.map V.str)) ∧
    (ys.map (·.length)).sum + ys.length * a.length ≤ 16777216 ∧ Q (.str (Txt.join a ys)) H) fJoin cS := ⟨tyS, by
  rintro x a xs vs H G R Q rx rs g ⟨y, z, ys, rfl, rfl, h1, h2, h3⟩ fe
  obtain ⟨v, rfl, rv⟩ := rs.one_inv
  obtain ⟨p, ws, rfl, sq, rl⟩ := asS_at rv g h1
  rw [strs_of rl] at sq
  exact ⟨y, p, ys, rx, rfl, sq, h2, fe (.str _) _ G H .refl rfl g h3⟩⟩
def fStarts : FM := fun x xs G R => ∃ a b, x = .str a ∧ xs = [.str b] ∧ R (.bl (Txt.startswith a b)) G
theorem m_starts {K : PySem.W.Frag} : LiftM K "str" (fun x xs H Q => ∃ a b, x = .str a ∧ xs = [.str b] ∧ Q (.bl (Txt.startswith a b)) H) fStarts cS := ⟨tyS, by
  rintro x a xs vs H G R Q rx rs g ⟨y, z, rfl, rfl, h3⟩ fe
  obtain ⟨v, rfl, rv⟩ := rs.one_inv
  exact ⟨y, z, rx, by rw [show v = _ from rv], fe (.bl _) _ G H .refl rfl g h3⟩⟩

/-! ### one sign in a text; int(text) -/
def fInC : F2 := fun x y G R => ∃ (c : Nat) (z : Str), x = .str ⟨#[c]⟩ ∧ y = .str z ∧ R (.bl (decide (c ∈ z.cps.toList))) G
theorem lift_inC {K : PySem.W.Frag} : Lift2 K (fun x y H Q => ∃ (c : Nat) (z : Str), x = .str ⟨#[c]⟩ ∧ y = .str z ∧ Q (.bl (decide (c ∈ z.cps.toList))) H) fInC := by
  rintro x y a b H G R Q rx ry rg ⟨c, z, rfl, rfl, h⟩ fe
  exact ⟨c, z, rx, ry, fe (.bl _) _ G H .refl rfl rg h⟩
def rIntS : List V → Hp → VK → Prop := fun xs H Q => ∃ a n, xs = [.str a] ∧ PySem.intText? a = some n ∧ a.length ≤ 640 ∧ Q (.int n) H
def fIntS : FA := fun xs G R => ∃ a n, xs = [.str a] ∧ PySem.intText? a = some n ∧ a.length ≤ 640 ∧ R (.int n) G
theorem lift_intS {K : PySem.W.Frag} : LiftC K rIntS fIntS := by
  rintro xs vs H G R Q r g ⟨a, n, rfl, h1, h2, h3⟩ fe
  obtain ⟨v, rfl, rv⟩ := r.one_inv
  exact ⟨a, n, by rw [show v = _ from rv], h1, h2, fe (.int n) _ G H .refl rfl g h3⟩

/-! ### a text some times -/
def rMulS : R2 := fun x y H Q => ∃ (a : Str) (k : Int), x = .str a ∧ y = .int k ∧ 2 ≤ k ∧ k ≤ 1000 ∧ 1 ≤ a.length ∧ a.length ≤ 1000 ∧ Q (.str ⟨(List.replicate k.toNat a.cps).foldl (· ++ ·) #[]⟩) H
def fMulS : F2 := fun x y G R => ∃ (a : Str) (k : Int), x = .str a ∧ y = .int k ∧ 2 ≤ k ∧ k ≤ 1000 ∧ 1 ≤ a.length ∧ a.length ≤ 1000 ∧ R (.str ⟨(List.replicate k.toNat a.cps).foldl (· ++ ·) #[]⟩) G
theorem fold_size (c : Array Nat) : ∀ (n : Nat) (acc : Array Nat), ((List.replicate n c).foldl (· ++ ·) acc).size = acc.size + n * c.size
  | 0, acc => by simp
  | n + 1, acc => by
    rw [List.replicate_succ, List.foldl_cons, fold_size c n, Array.size_append, Nat.succ_mul]
    omega
theorem op_mulS {X : Cx} : OpR X (binaryOp .Mult) rMulS := by
  intro pins s σ H x y v u Q I rx ry h
  obtain ⟨a, k, rfl, rfl, h1, h2, h3, h4, q⟩ := h
  obtain ⟨t, rfl⟩ := rx
  obtain ⟨t', rfl⟩ := ry
  have hle : a.length * k.toNat ≤ 1000 * 1000 := Nat.mul_le_mul h4 (by omega)
  refine PySem.P.mul_str (by rw [decide_eq_false (by omega), decide_eq_false (by omega)]; rfl) (fun _ _ => ?_) (fun _ _ => ?_) ?_
  · have hm : (a.length : Int) * k ≤ 1000 * 1000 := Int.mul_le_mul (by omega) h2 (by omega) (by decide)
    have hd : (a.length : Int) ≤ (2 ^ 63 - 1) / k := (Int.le_ediv_iff_mul_le (by omega)).mpr (Int.le_trans hm (by decide))
    omega
  · show decide (a.length * k.toNat > sizeLine) = false
    rw [sizeLine_eq, decide_eq_false_iff_not]
    omega
  · rw [if_neg (by omega), if_neg (by
      rw [Bool.or_eq_true, beq_iff_eq, beq_iff_eq]
      omega)]
    refine ⟨?_, ?_⟩
    · show (Array.size ((List.replicate k.toNat a.cps).foldl (· ++ ·) #[])) ≤ sizeLine
      rw [fold_size, sizeLine_eq]
      have e : a.cps.size = a.length := rfl
      rw [e, Nat.mul_comm]
      show 0 + _ ≤ _
      omega
    · exact ⟨.str _, H, I.tok _, ⟨_, rfl⟩, q⟩
theorem lift_mulS {K : PySem.W.Frag} : Lift2 K rMulS fMulS := by
  rintro x y a b H G R Q rx ry rg ⟨c, k, rfl, rfl, h1, h2, h3, h4, h⟩ fe
  exact ⟨c, k, rx, ry, h1, h2, h3, h4, fe (.str _) _ G H .refl rfl rg h⟩

/-! ### a text with other texts in place of some: a token must be out -/
section
variable {X : Cx} {W : WX} {e f : Expr} {es : List Expr} {we wf : W3} {ar : A3} {pos : Pos} {st : Stmt} {rest : List Stmt} {a b : S3}
theorem PET.imp {t t' : TE} (h : PET X e t) (k : ∀ σ H Q, t' σ H Q → t σ H Q) : PET X e t' := fun pins s σ H Q h0 I q => h pins s σ H Q h0 I (k _ _ _ q)
theorem PAT.imp {t t' : TA} (h : PAT X es t) (k : ∀ σ H Q, t' σ H Q → t σ H Q) : PAT X es t' := fun pos pins s σ H Q h0 I q => h pos pins s σ H Q h0 I (k _ _ _ q)
theorem PST.imp {t t' : TS} (h : PST X st t) (k : ∀ D σ H, t' D σ H → t D σ H) : PST X st t' := fun pins s σ H D h0 I q => h pins s σ H D h0 I (k _ _ _ q)
theorem PSsT.imp {t t' : TS} (h : PSsT X rest t) (k : ∀ D σ H, t' D σ H → t D σ H) : PSsT X rest t' := fun pins s σ H D h0 I q => h pins s σ H D h0 I (k _ _ _ q)
theorem z_cons (h1 : PST X st (upS X.K W a)) (h2 : PSsT X rest (upS X.K W b)) : PSsT X (st :: rest) (upS X.K W (wSeq a b)) := PSsT.imp (psst_cons h1 h2) fun D σ H ⟨env, G, E, re, rg, h, f⟩ => by
  refine upS_go re rg h ⟨fun env' σ' G' H' e' re' rg' h' => ?_, f.rt, f.bk, f.ct, f.ex⟩
  exact upS_go re' rg' h' (f.ext e')
theorem z_of (h : PSs X rest (upS X.K W a)) : PSsT X rest (upS X.K W a) := PSsT.of h
theorem z_st (h : PS X st (upS X.K W a)) : PST X st (upS X.K W a) := PST.of h
theorem pst_set {i : Nat} {x : Str} {te : TE} {pos' : Pos} (hN : X.N.Nodup) (hi : X.N[i]? = some x) (hx : Loc X.env.scope x) (he : PET X e te) (hs : swapsWith e (some (.Name x pos')) pos.line X.env = pure false) (hf : X.fn x = true ∨ X.env.scope.names.lookup x = some .local) :
    PST X (.Assign [.Name x pos'] e pos) (tAsg te (gName i)) := by
  intro pins s σ H D h0 I h
  refine wpAny_Assign_Name (thn (he pins s σ H _ h0 I h) fun v s1 ⟨y, H1, I1, r1, q1⟩ => ?_) hs
  exact store_ok I1 hN hi hx r1 (fun s2 I2 => ⟨_, H1, I2, q1⟩) hf
theorem z_set (i : Nat) {x : Str} {pos' : Pos} (hN : X.N.Nodup) (hi : X.N[i]? = some x) (hx : Loc X.env.scope x) (hf : X.fn x = true) (he : PET X e (up X.K W we)) (hs : swapsWith e (some (.Name x pos')) pos.line X.env = pure false := by rfl) :
    PST X (.Assign [.Name x pos'] e pos) (upS X.K W (wSet i we)) := PST.imp (pst_set hN hi hx he hs (.inl hf)) fun D σ H ⟨env, G, E, re, rg, h, f⟩ =>
  up_go re rg h f.ex fun d v G1 H1 e1 rd rg1 h1 => f.nx _ _ G1 H1 e1 ((re.ext e1).set rd i) rg1 h1
theorem za_nil : PAT X [] (upA X.K W aNil) := PAT.imp pat_nil fun σ H Q ⟨env, G, R, Ex, re, rg, h, fe, fx⟩ => fe [] [] G H .refl rfl rg h
theorem za_cons (ha : PET X e (up X.K W we)) (hr : PAT X es (upA X.K W ar)) (hs : starEach (e :: es) X.env = (false, eval e X.env) :: starEach es X.env := by rfl) : PAT X (e :: es) (upA X.K W (aCons we ar)) :=
  PAT.imp (pat_cons ha hr hs) fun σ H Q ⟨env, G, R, Ex, re, rg, h, fe, fx⟩ => by
    refine up_go re rg h fx fun x a G1 H1 e1 rx rg1 h1 => ?_
    refine upA_go (re.ext e1) rg1 h1 (fx.ext e1) fun xs vs G2 H2 e2 rs rg2 h2 => ?_
    exact fe (x :: xs) (a :: vs) G2 H2 (e1.trans e2) ⟨a, vs, rfl, rx.ext e2, rs⟩ rg2 h2
theorem z_e (h : PE X e (up X.K W we)) : PET X e (up X.K W we) := fun pins s σ H Q _ I q => h.run pins s σ H Q I q
theorem z_lst (h : PAT X es (upA X.K W ar)) : PET X (.List es pos) (up X.K W (wLst ar)) := PET.imp (pet_lst h) fun σ H Q ⟨env, G, R, Ex, re, rg, h, fe, fx⟩ => by
  refine upA_go re rg h fx fun ds vs G1 H1 e1 rd rg1 h1 => ?_
  exact ⟨by rw [rd.length]; exact h1.1, fin_lst rd rg1 (fe.ext e1) h1.2⟩
theorem z_lstO (h : PAT X es (upA X.K W ar)) : PET X (.List es pos) (up X.K W (wLstO ar)) := PET.imp (pet_lst h) fun σ H Q ⟨env, G, R, Ex, re, rg, h, fe, fx⟩ => by
  refine upA_go re rg h fx fun ds vs G1 H1 e1 rd rg1 h1 => ?_
  exact ⟨by rw [rd.length]; exact h1.1, fin_lstO rd rg1 (fe.ext e1) h1.2⟩
theorem z_op {op : Operator} {r : R2} {g : F2} (ho : OpR X (binaryOp op) r) (hl : Lift2 X.K r g) (ha : PET X e (up X.K W we)) (hb : PET X f (up X.K W wf)) : PET X (.BinOp e op f pos) (up X.K W (w2 g we wf)) :=
  PET.imp (CwR.pet_op ho ha hb) fun _ _ _ h => up_2 hl h
def wRepl (y z : Str) (w : W3) : W3 := fun env G R Ex => w env G (fun d G1 => ∃ x, d = .str x ∧ x.length + (x.length + 1) * z.length ≤ 16777216 ∧ R (.str (Txt.replace x y z)) G1) Ex
theorem z_repl {y z : Str} {j k : Nat} {c0 c1 apos : Pos} (ho : PE X e (up X.K W we)) (hyz : (y == z) = false := by decide)
    (hst : starEach [.Constant (.str y) j c0, .Constant (.str z) k c1] X.env = [(false, eval (.Constant (.str y) j c0) X.env), (false, eval (.Constant (.str z) k c1) X.env)] := by rfl)
    (hbase : attributeBase e "replace" X.env (eval e X.env) = eval e X.env := by rfl) (hline : (apos.endLine == pos.line) = true := by rfl) :
    PET X (.Call (.Attribute e "replace" apos) [.Constant (.str y) j c0, .Constant (.str z) k c1] [] pos) (up X.K W (wRepl y z we)) :=
  PET.imp (CwR.pet_replC ho hyz hst hbase hline) fun σ H Q ⟨env, G, R, Ex, re, rg, h, fe, fx⟩ => by
    refine up_go re rg h fx fun d v G1 H1 e1 rd rg1 ⟨x, q1, q2, q3⟩ => ?_
    subst q1
    exact ⟨x, rd, q2, fe (.str _) _ G1 H1 e1 rfl rg1 q3⟩
end
section
variable {P : Program} {w : World} {K : PySem.W.Frag} {mg : Str → Option Value} {base : Heap} {CX : CXT}
/-- a def whose body begins with a token out -/
theorem fn_GT {k : Nat} {f : Addr} {nm ql : Str} {pa : Arguments} {bd : List Stmt} {sc : Scope} {dV kV dc pm cv ct oc : Value} {an od : Option Addr} {sl : Array (Option Value)} {N ps : List Str} {sp : Sp}
    (lk : K.lookup f = some ⟨oc, od, .func (PySem.W.fnOf nm ql pa bd sc dV kV dc pm an cv ct), sl⟩) (hc : PySem.W.codeIn K cv ql = true) (S : FnScope N ps sc) (hnc : ∀ y ∈ sc.names, y.2 ≠ .cell) (hps : 1 ≤ ps.length)
    (len : ∀ vs H Q E, sp vs H Q E → vs.length = ps.length)
    (hb : ∀ (A : Around) (outer : List Env) (s : Shared) (H : Hp) (vs : List V) (Q : VK) (E : XK), A.guards = some [] → Room k (A.deeper (envOfC ql sc s.heap.objs.size f cv)) → sp vs H Q E →
      ∃ t, PSsT (cxOf CX P w K mg base N ql sc f cv A outer s H E) bd t ∧ t { nx := fun _ H' => Q .non H', rt := Q } (start N vs) H) :
    FnG P w K mg base CX (k + 1) f (PySem.W.fnOf nm ql pa bd sc dV kV dc pm an cv ct) ps sp := by
  constructor
  · exact len
  intro A outer s H args us vs Q E hr hg e0 bt rv hs
  have hl := len _ _ _ _ hs
  have hul : us.length = ps.length := by rw [← rv.length, hl]
  have there := fun b o e => (e0.bs b o e).1
  have KX := e0.mod.kin.keeps there
  have lim := e0.mod.nolimit.keeps there
  have hloc : ∀ y ∈ ps.zip us, sc.names.lookup y.1 = some .local := fun ⟨n, v⟩ hy => by
    rcases S.par n (List.of_mem_zip hy).1 with q | q
    · exact q
    · exact absurd rfl (hnc _ (PySem.mem_of_lookup q))
  refine codeAny_call_function hr.depth (KX _ _ lk) rfl S.co S.gen rfl (PySem.W.codeRec_of KX hc) (bt _ _ _ _ ?_)
  refine wpAny_newFunctionEnv hnc hloc (fun h1 hns hsb => ?_) S.kind
  have hz : (ps.zip us).length = ps.length := by rw [List.length_zip, hul, Nat.min_self]
  have keep : ∀ b o, s.heap.get? b = some o → h1.get? b = some o := fun b o e => hsb.extBut b o (Nat.ne_of_lt (Heap.lt_size e)) (Heap.get?_push_of_some _ e)
  have hcl : cellsFrom (s.heap.objs.size + 1) sc.names [] = [] := cells_none _ _ _ hnc
  have hkl : ∀ y ∈ ps.zip us, (envOfC ql sc s.heap.objs.size f cv).kindOf y.1 = some .local := fun y hy => by
    first
    | exact hloc y hy
    | (simp only [Env.kindOf]; exact hloc y hy)
    | (unfold Env.kindOf; rw [if_pos S.kind]; exact hloc y hy)
    | simpa [Env.kindOf, envOfC, newEnv, S.kind] using hloc y hy
  have hm : (bindL (envOfC ql sc s.heap.objs.size f cv).kindOf (ps.zip us) fun _ => none) = fun x => (ps.zip us).reverse.lookup x := by
    funext y
    rw [bindL_loc _ _ hkl y]
    cases (ps.zip us).reverse.lookup y <;> rfl
  have x : InCallC s s.heap.objs.size (bindL (envOfC ql sc s.heap.objs.size f cv).kindOf (ps.zip us) fun _ => none) (cellsFrom (s.heap.objs.size + 1) sc.names [])
      (bindC (envOfC ql sc s.heap.objs.size f cv).kindOf (ps.zip us) fun _ => none) ({ s with heap := h1, toks := s.toks + (ps.zip us).length } : Shared) := by
    rw [hm, hcl]
    exact ⟨⟨⟨_, _, rfl⟩, hns, keep, Nat.le_refl _⟩, fun n c hc => absurd hc (by simp), .nil, fun n c hc => absurd hc (by simp)⟩
  have henv : newEnv sc s.heap.objs.size mainGlobals [] (ql ++ ".<locals>.") (some f) cv none builtinsNs = envOfC ql sc s.heap.objs.size f cv := by
    unfold envOfC
    rw [hcl] <;> rfl
  have hto : 1 ≤ ({ s with heap := h1, toks := s.toks + (ps.zip us).length } : Shared).toks := by
    show 1 ≤ s.toks + (ps.zip us).length
    omega
  show ({ s with heap := h1, toks := s.toks + (ps.zip us).length } : Shared).heap.NoLimit ∧ codeAny (model P w) A (.func bd (newEnv sc s.heap.objs.size mainGlobals [] (ql ++ ".<locals>.") (some f) cv none builtinsNs)) _ ({ s with heap := h1, toks := s.toks + (ps.zip us).length } : Shared)
  rw [henv]
  generalize ({ s with heap := h1, toks := s.toks + (ps.zip us).length } : Shared) = s1 at x hto ⊢
  refine ⟨lim.keeps x.toInCall.keep, codeAny_func ?_⟩
  obtain ⟨t, ht, hq⟩ := hb A outer s H vs Q E hg (hr.deeper _) hs
  have I := inv_start (CX := CX) (w := w) (E := E) (N := N) S hr.hd e0 hl rv x
  refine wpAny_mono (ht [] s1 _ H _ hto I hq) (fun fl s' o => ?_) fun _ _ o => o
  cases fl with
  | next =>
    obtain ⟨σ', H', J, q⟩ := o
    exact ⟨.non, H', J.os, J.bare, J.base, J.hok, rfl, q⟩
  | ret u =>
    obtain ⟨v, σ', H', J, r', q⟩ := o
    exact ⟨v, H', J.os, J.bare, J.base, J.hok, r', q⟩
  | brk =>
    obtain ⟨_, _, _, q⟩ := o
    exact (show False from q).elim
  | cont =>
    obtain ⟨_, _, _, q⟩ := o
    exact (show False from q).elim
theorem goodZ_of {nm : Str} {st : Stmt} {N ps : List Str} {k : Nat} {S : SP3} (d : DefAt K mg nm st ps) (sc : FnScope N ps (defScope st)) (hnc : ((defScope st).names.all fun y => !decide (y.2 = .cell)) = true) (hps : 1 ≤ ps.length)
    (hb : ∀ (f : Addr) (cd : Value) (A : Around) (outer : List Env) (s : Shared) (H : Hp) (E : XK),
      PassesOwn (model P w) (cx3 P w K mg base N nm (defScope st) f cd A outer s H E).A (cx3 P w K mg base N nm (defScope st) f cd A outer s H E).env (cx3 P w K mg base N nm (defScope st) f cd A outer s H E).xe →
      Takes (cx3 P w K mg base N nm (defScope st) f cd A outer s H E) (WEx E) → (cx3 P w K mg base N nm (defScope st) f cd A outer s H E).A.guards = some [] → Room k (cx3 P w K mg base N nm (defScope st) f cd A outer s H E).A →
      ∃ u : S3, PSsT (cx3 P w K mg base N nm (defScope st) f cd A outer s H E) (defBody st) (upS K (WEx E) u) ∧ ∀ ds G R Ex, ds.length = ps.length → S ds G R Ex → u { nx := fun _ G => R .non G, rt := R, ex := Ex } (start3 N ds) G) :
    Good P w K mg base nm ps (k + 1) S := by
  obtain ⟨f, fd, hm, F, hbd⟩ := d.ex
  have kp := F.kp
  obtain ⟨oc, od, kV, doc, pm, an, cdv, ct, osl, rfl, lk, hcd⟩ := F.ex
  have hlen : ∀ vs H Q E, sp3 K ps.length S vs H Q E → vs.length = ps.length := fun vs H Q E ⟨ds, G, R, Ex, h1, h2, _⟩ => h2.length.trans h1
  rw [List.all_eq_true] at hnc
  refine ⟨f, _, hm, kp, hbd, fn_GT lk hcd sc (fun y hy => of_decide_eq_false (by simpa using hnc y hy)) hps hlen fun A outer s H vs Q E hg hr hs => ?_⟩
  obtain ⟨u, hu, hw⟩ := hb f cdv A outer s H E (passes_of rfl) (takes_of rfl rfl rfl rfl) hg hr
  refine ⟨_, hu, ?_⟩
  obtain ⟨ds, G, R, Ex, h1, h2, h3, h4, h5, h6⟩ := hs
  refine ⟨start3 N ds, G, _, ?_, h3, hw ds G R Ex h1 h4, ⟨fun env σ G' H' e re rg q => h5 .non .non G' H' e rfl rg q, h5, fun _ _ _ _ _ _ _ z => z.elim, fun _ _ _ _ _ _ _ z => z.elim, h6⟩⟩
  unfold start3 L2.start
  rw [h2.length]
  exact REnv.start h2 (REnv.nones _)
end

/-! ### i += j -/
theorem lift_ipadd {K : PySem.W.Frag} : Lift2 K (ipI fun i j => i + j) (fI2 fun i j => .int (i + j)) := by
  intro x y a b H G R Q rx ry rg h fe
  cases x with
  | int i =>
    cases y with
    | int j => exact ⟨i, j, rx, ry, fe (.int _) _ G H .refl rfl rg h⟩
    | _ => exact h.elim
  | _ => exact h.elim
end L3

set_option Elab.async false
set_option linter.all false
set_option maxRecDepth 100000
set_option maxHeartbeats 0
namespace K69
open PySem PySem.Spec L2 L3
open PyProof.Rows hiding St
def topS (i : Nat) : Stmt := PySem.Challenge.pw_seenbins_k69_whole_plan_texts.main.body.getD i (.Pass ⟨0, 0, 0, 0⟩)
abbrev s_BadText___init__ : Stmt := inClass (topS 3) 0
theorem sc_BadText___init__ : FnScope ["self", "line"] ["self", "line"] (defScope s_BadText___init__) := ⟨rfl, rfl, rfl, by decide +kernel, rfl, by decide +kernel, by decide +kernel⟩
abbrev s_is_int : Stmt := topS 6
theorem sc_is_int : FnScope ["thing"] ["thing"] (defScope s_is_int) := ⟨rfl, rfl, rfl, by decide +kernel, rfl, by decide +kernel, by decide +kernel⟩
abbrev s_divisor : Stmt := topS 7
theorem sc_divisor : FnScope ["one", "other"] ["one", "other"] (defScope s_divisor) := ⟨rfl, rfl, rfl, by decide +kernel, rfl, by decide +kernel, by decide +kernel⟩
abbrev s_is_fraction : Stmt := topS 8
theorem sc_is_fraction : FnScope ["thing"] ["thing"] (defScope s_is_fraction) := ⟨rfl, rfl, rfl, by decide +kernel, rfl, by decide +kernel, by decide +kernel⟩
abbrev s_is_row : Stmt := topS 9
theorem sc_is_row : FnScope ["thing", "many", "part"] ["thing", "many"] (defScope s_is_row) := ⟨rfl, rfl, rfl, by decide +kernel, rfl, by decide +kernel, by decide +kernel⟩
abbrev s_negative : Stmt := topS 10
theorem sc_negative : FnScope ["one"] ["one"] (defScope s_negative) := ⟨rfl, rfl, rfl, by decide +kernel, rfl, by decide +kernel, by decide +kernel⟩
abbrev s_fraction_text : Stmt := topS 11
theorem sc_fraction_text : FnScope ["one"] ["one"] (defScope s_fraction_text) := ⟨rfl, rfl, rfl, by decide +kernel, rfl, by decide +kernel, by decide +kernel⟩
abbrev s_read_whole : Stmt := topS 12
theorem sc_read_whole : FnScope ["text", "at", "digits", "end"] ["text", "at", "digits"] (defScope s_read_whole) := ⟨rfl, rfl, rfl, by decide +kernel, rfl, by decide +kernel, by decide +kernel⟩
abbrev s_read_amount : Stmt := topS 13
theorem sc_read_amount : FnScope ["text", "at", "digits", "first", "n", "end", "second"] ["text", "at", "digits"] (defScope s_read_amount) := ⟨rfl, rfl, rfl, by decide +kernel, rfl, by decide +kernel, by decide +kernel⟩
abbrev s_amount_word : Stmt := topS 14
theorem sc_amount_word : FnScope ["word", "digits", "found"] ["word", "digits"] (defScope s_amount_word) := ⟨rfl, rfl, rfl, by decide +kernel, rfl, by decide +kernel, by decide +kernel⟩
abbrev s_signed_word : Stmt := topS 15
theorem sc_signed_word : FnScope ["word", "digits", "found"] ["word", "digits"] (defScope s_signed_word) := ⟨rfl, rfl, rfl, by decide +kernel, rfl, by decide +kernel, by decide +kernel⟩
abbrev s_is_short : Stmt := topS 22
theorem sc_is_short : FnScope ["one"] ["one"] (defScope s_is_short) := ⟨rfl, rfl, rfl, by decide +kernel, rfl, by decide +kernel, by decide +kernel⟩
abbrev s_is_plan_form : Stmt := topS 23
theorem sc_is_plan_form : FnScope ["thing", "one"] ["thing"] (defScope s_is_plan_form) := ⟨rfl, rfl, rfl, by decide +kernel, rfl, by decide +kernel, by decide +kernel⟩
abbrev s_plan_text : Stmt := topS 24
theorem sc_plan_text : FnScope ["plan", "draws", "drying", "words", "one"] ["plan"] (defScope s_plan_text) := ⟨rfl, rfl, rfl, by decide +kernel, rfl, by decide +kernel, by decide +kernel⟩
abbrev s_plan_words : Stmt := topS 25
theorem sc_plan_words : FnScope ["words", "at", "draws", "drying", "word", "one"] ["words"] (defScope s_plan_words) := ⟨rfl, rfl, rfl, by decide +kernel, rfl, by decide +kernel, by decide +kernel⟩
abbrev s_read_plan : Stmt := topS 26
theorem sc_read_plan : FnScope ["text", "found"] ["text"] (defScope s_read_plan) := ⟨rfl, rfl, rfl, by decide +kernel, rfl, by decide +kernel, by decide +kernel⟩
abbrev s__law_hand : Stmt := topS 28
theorem sc__law_hand : FnScope ["script", "cells", "cell"] ["script"] (defScope s__law_hand) := ⟨rfl, rfl, rfl, by decide +kernel, rfl, by decide +kernel, by decide +kernel⟩
abbrev s__law_draw : Stmt := topS 29
theorem sc__law_draw : FnScope ["hand", "many", "cell", "digit", "number"] ["hand", "many"] (defScope s__law_draw) := ⟨rfl, rfl, rfl, by decide +kernel, rfl, by decide +kernel, by decide +kernel⟩
abbrev s__law_some : Stmt := topS 30
theorem sc__law_some : FnScope ["hand", "things"] ["hand", "things"] (defScope s__law_some) := ⟨rfl, rfl, rfl, by decide +kernel, rfl, by decide +kernel, by decide +kernel⟩
abbrev s__law_is : Stmt := topS 31
theorem sc__law_is : FnScope ["got", "due", "one", "other"] ["got", "due"] (defScope s__law_is) := ⟨rfl, rfl, rfl, by decide +kernel, rfl, by decide +kernel, by decide +kernel⟩
abbrev s__law_cut : Stmt := topS 32
theorem sc__law_cut : FnScope ["n", "d", "one", "other"] ["n", "d"] (defScope s__law_cut) := ⟨rfl, rfl, rfl, by decide +kernel, rfl, by decide +kernel, by decide +kernel⟩
abbrev s__law_written : Stmt := topS 33
theorem sc__law_written : FnScope ["thing", "error"] ["thing"] (defScope s__law_written) := ⟨rfl, rfl, rfl, by decide +kernel, rfl, by decide +kernel, by decide +kernel⟩
abbrev s__law_told : Stmt := topS 34
theorem sc__law_told : FnScope ["text", "error"] ["text"] (defScope s__law_told) := ⟨rfl, rfl, rfl, by decide +kernel, rfl, by decide +kernel, by decide +kernel⟩
abbrev s__law_number : Stmt := topS 35
theorem sc__law_number : FnScope ["hand", "way", "found", "turn"] ["hand"] (defScope s__law_number) := ⟨rfl, rfl, rfl, by decide +kernel, rfl, by decide +kernel, by decide +kernel⟩
abbrev s__law_fraction : Stmt := topS 36
theorem sc__law_fraction : FnScope ["hand", "one", "way"] ["hand"] (defScope s__law_fraction) := ⟨rfl, rfl, rfl, by decide +kernel, rfl, by decide +kernel, by decide +kernel⟩
abbrev s__law_word : Stmt := topS 37
theorem sc__law_word : FnScope ["one"] ["one"] (defScope s__law_word) := ⟨rfl, rfl, rfl, by decide +kernel, rfl, by decide +kernel, by decide +kernel⟩
abbrev s__law_text : Stmt := topS 38
theorem sc__law_text : FnScope ["pair", "one"] ["pair"] (defScope s__law_text) := ⟨rfl, rfl, rfl, by decide +kernel, rfl, by decide +kernel, by decide +kernel⟩
abbrev s__law_wrong_texts : Stmt := topS 39
theorem sc__law_wrong_texts : FnScope ["hand", "pair", "text", "words", "found", "at", "wrong", "word", "great"] ["hand", "pair", "text"] (defScope s__law_wrong_texts) := ⟨rfl, rfl, rfl, by decide +kernel, rfl, by decide +kernel, by decide +kernel⟩
abbrev s__law_wrong_plans : Stmt := topS 40
theorem sc__law_wrong_plans : FnScope ["pair", "draws", "drying", "great", "turn", "found"] ["pair"] (defScope s__law_wrong_plans) := ⟨rfl, rfl, rfl, by decide +kernel, rfl, by decide +kernel, by decide +kernel⟩
abbrev s_law : Stmt := topS 41
theorem sc_law : FnScope ["script", "hand", "turn", "draws", "pair", "text", "at", "wrong", "thing"] ["script"] (defScope s_law) := ⟨rfl, rfl, rfl, by decide +kernel, rfl, by decide +kernel, by decide +kernel⟩
def fnL : List He.DefD := ([dfm "BadText" "__init__" "BadText.__init__" s_BadText___init__, dfn "is_int" s_is_int, dfn "divisor" s_divisor, dfn "is_fraction" s_is_fraction, dfn "is_row" s_is_row, dfn "negative" s_negative, dfn "fraction_text" s_fraction_text, dfn "read_whole" s_read_whole, dfn "read_amount" s_read_amount, dfn "amount_word" s_amount_word, dfn "signed_word" s_signed_word, dfn "is_short" s_is_short, dfn "is_plan_form" s_is_plan_form, dfn "plan_text" s_plan_text, dfn "plan_words" s_plan_words, dfn "read_plan" s_read_plan, dfn "_law_hand" s__law_hand, dfn "_law_draw" s__law_draw, dfn "_law_some" s__law_some, dfn "_law_is" s__law_is, dfn "_law_cut" s__law_cut, dfn "_law_written" s__law_written, dfn "_law_told" s__law_told, dfn "_law_number" s__law_number, dfn "_law_fraction" s__law_fraction, dfn "_law_word" s__law_word, dfn "_law_text" s__law_text, dfn "_law_wrong_texts" s__law_wrong_texts, dfn "_law_wrong_plans" s__law_wrong_plans, dfn "law" s_law] : List He.DefD)
def fcL : List Fc := ([.glo "is_int", .glo "divisor", .glo "is_fraction", .glo "is_row", .glo "negative", .glo "fraction_text", .glo "read_whole", .glo "read_amount", .glo "amount_word", .glo "signed_word", .glo "is_short", .glo "is_plan_form", .glo "plan_text", .glo "plan_words", .glo "read_plan", .glo "_law_hand", .glo "_law_draw", .glo "_law_some", .glo "_law_is", .glo "_law_cut", .glo "_law_written", .glo "_law_told", .glo "_law_number", .glo "_law_fraction", .glo "_law_word", .glo "_law_text", .glo "_law_wrong_texts", .glo "_law_wrong_plans", .glo "law", .own (excFB "BadText" ["line"])] : List Fc) ++ ([.own (binB "BinError"), .free "abs", .free "all", .free "any", .free "bool", .free "int", .free "isinstance", .free "len", .free "list", .free "range", .free "str", .free "tuple", .free "zip", .dat "DIGITS" (.str "0123456789"), .dat "PLAN_DIGITS" (.int 600), .dat "TOO_GREAT" (.int 1000000000000000000000000000000000000000000000000000000000000000000000000000000000000000000000000000000000000000000000000000000000000000000000000000000000000000000000000000000000000000000000000000000000000000000000000000000000000000000000000000000000000000000000000000000000000000000000000000000000000000000000000000000000000000000000000000000000000000000000000000000000000000000000000000000000000000000000000000000000000000000000000000000000000000000000000000000000000000000000000000000000000000000000000000000000000000000000000000000000000000000000000000000000000000000000000000000000000000000000000), .dat "DRAW" (.str "draw"), .dat "RUN" (.str "dry"), .exc "BinError", .exc "BadPlan", .exm "BadPlan" "BinError" true, .exm "BadText" "BinError" true, .kit "BadPlan" "BadPlan" true, .kit "BadText" "BadText" true, .own digB] : List Fc)
abbrev Tx (K : PySem.W.Frag) (mg : Str → Option Value) : Prop := Top fnL fcL K mg
section
variable {K : PySem.W.Frag} {mg : Str → Option Value}
theorem d_BadText___init__ (T : Tx K mg) : MAt K (He.ma K (He.ga K "BadText") "__init__") "__init__" "BadText.__init__" s_BadText___init__ ["self", "line"] := T.met 0 rfl fun _ _ _ _ _ _ us hl => match us, hl with | [_, _], _ => rfl
theorem d_is_int (T : Tx K mg) : DefAt K mg "is_int" s_is_int ["thing"] := T.def_ 1 0 rfl rfl fun _ _ _ _ _ _ us hl => match us, hl with | [_], _ => rfl
theorem d_divisor (T : Tx K mg) : DefAt K mg "divisor" s_divisor ["one", "other"] := T.def_ 2 1 rfl rfl fun _ _ _ _ _ _ us hl => match us, hl with | [_, _], _ => rfl
theorem d_is_fraction (T : Tx K mg) : DefAt K mg "is_fraction" s_is_fraction ["thing"] := T.def_ 3 2 rfl rfl fun _ _ _ _ _ _ us hl => match us, hl with | [_], _ => rfl
theorem d_is_row (T : Tx K mg) : DefAt K mg "is_row" s_is_row ["thing", "many"] := T.def_ 4 3 rfl rfl fun _ _ _ _ _ _ us hl => match us, hl with | [_, _], _ => rfl
theorem d_negative (T : Tx K mg) : DefAt K mg "negative" s_negative ["one"] := T.def_ 5 4 rfl rfl fun _ _ _ _ _ _ us hl => match us, hl with | [_], _ => rfl
theorem d_fraction_text (T : Tx K mg) : DefAt K mg "fraction_text" s_fraction_text ["one"] := T.def_ 6 5 rfl rfl fun _ _ _ _ _ _ us hl => match us, hl with | [_], _ => rfl
theorem d_read_whole (T : Tx K mg) : DefAt K mg "read_whole" s_read_whole ["text", "at", "digits"] := T.def_ 7 6 rfl rfl fun _ _ _ _ _ _ us hl => match us, hl with | [_, _, _], _ => rfl
theorem d_read_amount (T : Tx K mg) : DefAt K mg "read_amount" s_read_amount ["text", "at", "digits"] := T.def_ 8 7 rfl rfl fun _ _ _ _ _ _ us hl => match us, hl with | [_, _, _], _ => rfl
theorem d_amount_word (T : Tx K mg) : DefAt K mg "amount_word" s_amount_word ["word", "digits"] := T.def_ 9 8 rfl rfl fun _ _ _ _ _ _ us hl => match us, hl with | [_, _], _ => rfl
theorem d_signed_word (T : Tx K mg) : DefAt K mg "signed_word" s_signed_word ["word", "digits"] := T.def_ 10 9 rfl rfl fun _ _ _ _ _ _ us hl => match us, hl with | [_, _], _ => rfl
theorem d_is_short (T : Tx K mg) : DefAt K mg "is_short" s_is_short ["one"] := T.def_ 11 10 rfl rfl fun _ _ _ _ _ _ us hl => match us, hl with | [_], _ => rfl
theorem d_is_plan_form (T : Tx K mg) : DefAt K mg "is_plan_form" s_is_plan_form ["thing"] := T.def_ 12 11 rfl rfl fun _ _ _ _ _ _ us hl => match us, hl with | [_], _ => rfl
theorem d_plan_text (T : Tx K mg) : DefAt K mg "plan_text" s_plan_text ["plan"] := T.def_ 13 12 rfl rfl fun _ _ _ _ _ _ us hl => match us, hl with | [_], _ => rfl
theorem d_plan_words (T : Tx K mg) : DefAt K mg "plan_words" s_plan_words ["words"] := T.def_ 14 13 rfl rfl fun _ _ _ _ _ _ us hl => match us, hl with | [_], _ => rfl
theorem d_read_plan (T : Tx K mg) : DefAt K mg "read_plan" s_read_plan ["text"] := T.def_ 15 14 rfl rfl fun _ _ _ _ _ _ us hl => match us, hl with | [_], _ => rfl
theorem d__law_hand (T : Tx K mg) : DefAt K mg "_law_hand" s__law_hand ["script"] := T.def_ 16 15 rfl rfl fun _ _ _ _ _ _ us hl => match us, hl with | [_], _ => rfl
theorem d__law_draw (T : Tx K mg) : DefAt K mg "_law_draw" s__law_draw ["hand", "many"] := T.def_ 17 16 rfl rfl fun _ _ _ _ _ _ us hl => match us, hl with | [_, _], _ => rfl
theorem d__law_some (T : Tx K mg) : DefAt K mg "_law_some" s__law_some ["hand", "things"] := T.def_ 18 17 rfl rfl fun _ _ _ _ _ _ us hl => match us, hl with | [_, _], _ => rfl
theorem d__law_is (T : Tx K mg) : DefAt K mg "_law_is" s__law_is ["got", "due"] := T.def_ 19 18 rfl rfl fun _ _ _ _ _ _ us hl => match us, hl with | [_, _], _ => rfl
theorem d__law_cut (T : Tx K mg) : DefAt K mg "_law_cut" s__law_cut ["n", "d"] := T.def_ 20 19 rfl rfl fun _ _ _ _ _ _ us hl => match us, hl with | [_, _], _ => rfl
theorem d__law_written (T : Tx K mg) : DefAt K mg "_law_written" s__law_written ["thing"] := T.def_ 21 20 rfl rfl fun _ _ _ _ _ _ us hl => match us, hl with | [_], _ => rfl
theorem d__law_told (T : Tx K mg) : DefAt K mg "_law_told" s__law_told ["text"] := T.def_ 22 21 rfl rfl fun _ _ _ _ _ _ us hl => match us, hl with | [_], _ => rfl
theorem d__law_number (T : Tx K mg) : DefAt K mg "_law_number" s__law_number ["hand"] := T.def_ 23 22 rfl rfl fun _ _ _ _ _ _ us hl => match us, hl with | [_], _ => rfl
theorem d__law_fraction (T : Tx K mg) : DefAt K mg "_law_fraction" s__law_fraction ["hand"] := T.def_ 24 23 rfl rfl fun _ _ _ _ _ _ us hl => match us, hl with | [_], _ => rfl
theorem d__law_word (T : Tx K mg) : DefAt K mg "_law_word" s__law_word ["one"] := T.def_ 25 24 rfl rfl fun _ _ _ _ _ _ us hl => match us, hl with | [_], _ => rfl
theorem d__law_text (T : Tx K mg) : DefAt K mg "_law_text" s__law_text ["pair"] := T.def_ 26 25 rfl rfl fun _ _ _ _ _ _ us hl => match us, hl with | [_], _ => rfl
theorem d__law_wrong_texts (T : Tx K mg) : DefAt K mg "_law_wrong_texts" s__law_wrong_texts ["hand", "pair", "text"] := T.def_ 27 26 rfl rfl fun _ _ _ _ _ _ us hl => match us, hl with | [_, _, _], _ => rfl
theorem d__law_wrong_plans (T : Tx K mg) : DefAt K mg "_law_wrong_plans" s__law_wrong_plans ["pair"] := T.def_ 28 27 rfl rfl fun _ _ _ _ _ _ us hl => match us, hl with | [_], _ => rfl
theorem d_law (T : Tx K mg) : DefAt K mg "law" s_law ["script"] := T.def_ 29 28 rfl rfl fun _ _ _ _ _ _ us hl => match us, hl with | [_], _ => rfl
theorem n_abs (T : Tx K mg) : mg "abs" = none := T.free 31
theorem n_all (T : Tx K mg) : mg "all" = none := T.free 32
theorem n_any (T : Tx K mg) : mg "any" = none := T.free 33
theorem n_bool (T : Tx K mg) : mg "bool" = none := T.free 34
theorem n_int (T : Tx K mg) : mg "int" = none := T.free 35
theorem n_isinstance (T : Tx K mg) : mg "isinstance" = none := T.free 36
theorem n_len (T : Tx K mg) : mg "len" = none := T.free 37
theorem n_list (T : Tx K mg) : mg "list" = none := T.free 38
theorem n_range (T : Tx K mg) : mg "range" = none := T.free 39
theorem n_str (T : Tx K mg) : mg "str" = none := T.free 40
theorem n_tuple (T : Tx K mg) : mg "tuple" = none := T.free 41
theorem n_zip (T : Tx K mg) : mg "zip" = none := T.free 42
theorem v_DIGITS (T : Tx K mg) : ∃ u v, mg "DIGITS" = some u ∧ RelV v u ∧ ∀ H G, Rep K H G (.str "0123456789") v := T.dat 43
theorem v_PLAN_DIGITS (T : Tx K mg) : ∃ u v, mg "PLAN_DIGITS" = some u ∧ RelV v u ∧ ∀ H G, Rep K H G (.int 600) v := T.dat 44
theorem v_TOO_GREAT (T : Tx K mg) : ∃ u v, mg "TOO_GREAT" = some u ∧ RelV v u ∧ ∀ H G, Rep K H G (.int 1000000000000000000000000000000000000000000000000000000000000000000000000000000000000000000000000000000000000000000000000000000000000000000000000000000000000000000000000000000000000000000000000000000000000000000000000000000000000000000000000000000000000000000000000000000000000000000000000000000000000000000000000000000000000000000000000000000000000000000000000000000000000000000000000000000000000000000000000000000000000000000000000000000000000000000000000000000000000000000000000000000000000000000000000000000000000000000000000000000000000000000000000000000000000000000000000000000000000000000000000) v := T.dat 45
theorem v_DRAW (T : Tx K mg) : ∃ u v, mg "DRAW" = some u ∧ RelV v u ∧ ∀ H G, Rep K H G (.str "draw") v := T.dat 46
theorem v_RUN (T : Tx K mg) : ∃ u v, mg "RUN" = some u ∧ RelV v u ∧ ∀ H G, Rep K H G (.str "dry") v := T.dat 47
theorem e_BinError (T : Tx K mg) : ExcT K mg "BinError" (He.ga K "BinError") := T.exc 48
theorem e_BadPlan (T : Tx K mg) : ExcT K mg "BadPlan" (He.ga K "BadPlan") := T.exc 49
theorem m_BadPlan_BinError (T : Tx K mg) : PySem.W.exmOne K (.ref (He.ga K "BadPlan")) (.ref (He.ga K "BinError")) = some true := Fc.exm_ok (T.fc 50 (f := .exm "BadPlan" "BinError" true))
theorem m_BadText_BinError (T : Tx K mg) : PySem.W.exmOne K (.ref (He.ga K "BadText")) (.ref (He.ga K "BinError")) = some true := Fc.exm_ok (T.fc 51 (f := .exm "BadText" "BinError" true))
theorem x_BadText (T : Tx K mg) : ExcF K mg "BadText" (He.ga K "BadText") ["line"] := T.excF 29 rfl
theorem bin_BinError (T : Tx K mg) : binB "BinError" K = true := T.own 30 rfl
theorem k_BadPlan_BadPlan (T : Tx K mg) : PySem.W.kitOne K (.ref (He.ga K "BadPlan")) (.ref (He.ga K "BadPlan")) = some true := Fc.kit_ok (T.fc 52 (f := .kit "BadPlan" "BadPlan" true))
theorem k_BadText_BadText (T : Tx K mg) : PySem.W.kitOne K (.ref (He.ga K "BadText")) (.ref (He.ga K "BadText")) = some true := Fc.kit_ok (T.fc 53 (f := .kit "BadText" "BadText" true))
theorem dig_at (T : Tx K mg) : digB K = true := T.dig 54 rfl
end

end K69

set_option Elab.async false
set_option linter.all false
set_option maxRecDepth 100000
set_option maxHeartbeats 0
namespace K69
open PySem PySem.Spec L2 L3
open PyProof.Rows hiding St
/-! ### numbers -/
/-- a bound far beyond what the law makes -/
def Bd (i : Int) : Prop := i.natAbs < 2 ^ 8000
theorem Bd.log {i : Int} (h : Bd i) : i.natAbs.log2 < 8000 := by
  by_cases z : i.natAbs = 0
  · rw [z]; decide
  · exact (Nat.log2_lt z).mpr h
theorem Bd.mul {i j : Int} (h : Bd i) (k : Bd j) : MulC i j := MulC.w (by have := h.log; have := k.log; omega)
theorem Bd.div {i j : Int} (k : Bd j) (h : j ≠ 0) : DivC i j := ⟨h, by have := k.log; omega⟩
theorem Bd.le {i j : Int} (h : Bd j) (k : i.natAbs ≤ j.natAbs) : Bd i := Nat.lt_of_le_of_lt k h
theorem Bd.small {i : Int} (h1 : -(2 ^ 63) < i) (h2 : i < 2 ^ 63) : Bd i := by
  have : i.natAbs < 2 ^ 63 := by omega
  exact Nat.lt_of_lt_of_le this (Nat.pow_le_pow_right (by decide) (by decide))
theorem euclid {a b : Int} (hb : 0 < b) : Int.gcd b (a - a.fdiv b * b) = Int.gcd a b ∧ 0 ≤ a - a.fdiv b * b ∧ a - a.fdiv b * b < b := by
  have e : a - a.fdiv b * b = a.fmod b := by
    have := Int.fdiv_mul_self a b
    omega
  refine ⟨?_, ?_, ?_⟩
  · have : a - a.fdiv b * b = a + (-(a.fdiv b)) * b := by rw [Int.neg_mul]; rfl
    rw [this, Int.gcd_add_mul_right_right, Int.gcd_comm]
  · rw [e]; exact Int.fmod_nonneg_of_pos a hb
  · rw [e]; exact Int.fmod_lt_of_pos a hb
def redN (n d : Int) : Int := n / (Int.gcd n d : Int)
def redD (n d : Int) : Int := d / (Int.gcd n d : Int)
def frD (n d : Int) : D := .tup [.int (redN n d), .int (redD n d)]
/-- p/q is n/m -/
def Rt (p q n m : Int) : Prop := 0 < q ∧ 0 < m ∧ p * m = n * q
theorem gcd_pos {n d : Int} (hd : 0 < d) : (0 : Int) < (Int.gcd n d : Int) := by
  have := Int.gcd_pos_of_ne_zero_right n (show d ≠ 0 by omega)
  omega
theorem red_eq {n d : Int} (hd : 0 < d) : redN n d * (Int.gcd n d : Int) = n ∧ redD n d * (Int.gcd n d : Int) = d :=
  ⟨Int.ediv_mul_cancel (Int.gcd_dvd_left n d), Int.ediv_mul_cancel (Int.gcd_dvd_right n d)⟩
theorem redD_pos {n d : Int} (hd : 0 < d) : 0 < redD n d := by
  have g := gcd_pos (n := n) hd
  have e := (red_eq (n := n) hd).2
  rcases Int.lt_or_le 0 (redD n d) with h | h
  · exact h
  · have : redD n d * (Int.gcd n d : Int) ≤ 0 := Int.mul_nonpos_of_nonpos_of_nonneg h (Int.le_of_lt g)
    omega
theorem red_rt {n d : Int} (hd : 0 < d) : Rt (redN n d) (redD n d) n d := by
  obtain ⟨e1, e2⟩ := red_eq (n := n) hd
  refine ⟨redD_pos hd, hd, ?_⟩
  generalize redN n d = p at *
  generalize redD n d = q at *
  generalize (Int.gcd n d : Int) = g at *
  subst e1 e2
  grind
theorem red_le {n d : Int} (hd : 0 < d) : (redN n d).natAbs ≤ n.natAbs ∧ (redD n d).natAbs ≤ d.natAbs := by
  have g := Int.gcd_pos_of_ne_zero_right n (show d ≠ 0 by omega)
  unfold redN redD
  rw [Int.natAbs_ediv_of_dvd (Int.gcd_dvd_left n d), Int.natAbs_ediv_of_dvd (Int.gcd_dvd_right n d)]
  exact ⟨Nat.div_le_self _ _, Nat.div_le_self _ _⟩
theorem red_one {n : Int} : redN n 1 = n ∧ redD n 1 = 1 := by
  unfold redN redD
  rw [Int.gcd_one]
  simp
section
variable {P : Program} {w : World} {K : PySem.W.Frag} {mg : Str → Option Value} {base : Heap}
def S_is_int : SP3 := fun ds G R _ => match ds with
  | [x] => rdD x = true ∧ R (.bl (isIntD x)) G
  | _ => False
theorem ok_is_int (T : Tx K mg) : Good P w K mg base "is_int" ["thing"] 1 S_is_int := by
  refine good_of (d_is_int T) sc_is_int fun f cd A outer s H E hp tk hgd hr => ⟨_, (s_one (s_ret (c_and (c_callB call_isi3 (lift_isi (K := K)) (n_isinstance T) (a_cons (c_var 0) (a_cons (c_bltn (n := "int") (n_int T)) a_nil))) (c_one (c_not (c_callB call_isi3 (lift_isi (K := K)) (n_isinstance T) (a_cons (c_var 0) (a_cons (c_bltn (n := "bool") (n_bool T)) a_nil)))))))), fun ds G R Ex hlen hS => ?_⟩
  clear hp tk hgd hr hlen
  match ds, hS with
  | [x], ⟨h1, h2⟩ =>
    rw [show start3 ["thing"] [x] = [some (x)] from rfl]
    simp only [wExpr, wRaise, gSb, wSeq, wNext, wRet, wRetN, wExpr, wIfS, wSet, wAsg, wPar, wAug, w1, w2, wA, aNil, aCons, wVar, wVarT, wC, tOfW, w3c, wAnd, wOr, wNot, tAnd3, tOr3, tNot3, wIf, wTup, wLst, wLstO, wCall, wSl, pNone, pSome, wipe3, List.map_cons, List.map_nil, fI2, fI2C, fI1, fAbs, addI, mulI, intI, eqS, neS, isN_, notN_, L3.isNon, gN, gsN, gsC, gT, asT, at3, List.set_cons_zero, List.set_cons_succ, Option.some.injEq, exists_eq_left', D.bl.injEq, D.int.injEq, D.tup.injEq, List.length_cons, List.length_nil, Nat.reduceAdd, true_and, if_true, if_false, Bool.false_eq_true, reduceIte, ite_true, ite_false, len_t0, len_t1, len_t2, len_t3, len_l0, len_l1, eqI, neI, Int.reduceBEq, Int.reduceLT, Int.reduceLE, Int.reduceNeg, decide_true, decide_false, Bool.not_true, Bool.not_false, ix0, ix1, ix2, and_true, and_self, isi_int h1, isi_bool h1]
    cases x <;> exact h2
def isWithin (x : D) (a b : Int) : Bool := match x with
  | .int i => decide (a ≤ i) && decide (i ≤ b)
  | _ => false
def S_is_within : SP3 := fun ds G R _ => match ds with
  | [x, .int a, .int b] => rdD x = true ∧ R (.bl (isWithin x a b)) G
  | _ => False
theorem whl_div {E : E3} {G : GH} {tt : T3} {bb : S3} (Hyp : ∀ (a b : Int), 0 ≤ b → Bd a → Bd b → ∀ (n : Nat) (E : E3), (b = 0 → E.nx [some (.int a), some (.int b)] G) → (0 < b → whl tt bb E n [some (.int b), some (.int (a - a.fdiv b * b))] G) → whl tt bb E (n + 1) [some (.int a), some (.int b)] G) :
    ∀ (m : Nat) (a b : Int), b.natAbs ≤ m → 0 ≤ b → Bd a → Bd b → (∀ x : Int, x.natAbs = Int.gcd a b → Bd x → E.nx [some (.int x), some (.int 0)] G) → whl tt bb E (m + 1) [some (.int a), some (.int b)] G
  | 0, a, b, h1, h2, h3, h4, h5 => by
    have e : b = 0 := by omega
    subst e
    exact Hyp a 0 h2 h3 h4 0 E (fun _ => h5 a (by simp) h3) (fun z => by omega)
  | m + 1, a, b, h1, h2, h3, h4, h5 => by
    refine Hyp a b h2 h3 h4 (m + 1) E (fun e => ?_) (fun hb => ?_)
    · subst e
      exact h5 a (by simp) h3
    · obtain ⟨e1, e2, e3⟩ := euclid (a := a) hb
      refine whl_div Hyp m b _ (by omega) e2 h4 (h4.le (by omega)) fun x hx bx => h5 x (by rw [← e1]; exact hx) bx
def S_divisor : SP3 := fun ds G R _ => match ds with
  | [.int n, .int d] => 0 < d ∧ Bd n ∧ Bd d ∧ R (.int (Int.gcd n d : Nat)) G
  | _ => False
theorem ok_divisor (T : Tx K mg) : Good P w K mg base "divisor" ["one", "other"] 1 S_divisor := by
  refine good_of (d_divisor T) sc_divisor fun f cd A outer s H E hp tk hgd hr => ⟨_, (s_cons (s_while hp (t_cmp (op_ne3 hr.units) lift_ne (c_var 1) c_int) (s_one (s_par 0 1 rfl sc_divisor.nd rfl rfl (by decide) rfl rfl (a_cons (c_var 1) (a_cons (c_op op_sub lift_I2i (c_var 0) (c_op op_mul3 lift_mul (c_op op_fdivG lift_I2C (c_var 0) (c_var 1)) (c_var 1))) a_nil)) rfl)))
      (s_one (s_ret (c_callB call_abs lift_abs (n_abs T) (a_cons (c_var 0) a_nil))))), fun ds G R Ex hlen hS => ?_⟩
  clear hp tk hgd hr hlen
  match ds, hS with
  | [.int n, .int d], ⟨h1, h2, h3, h4⟩ =>
    rw [show start3 ["one", "other"] [.int n, .int d] = [some (.int n), some (.int d)] from rfl]
    simp only [wExpr, wRaise, gSb, wSeq, wNext, wRet, wRetN, wExpr, wIfS, wSet, wAsg, wPar, wAug, w1, w2, wA, aNil, aCons, wVar, wVarT, wC, tOfW, w3c, wAnd, wOr, wNot, tAnd3, tOr3, tNot3, wIf, wTup, wLst, wLstO, wCall, wSl, pNone, pSome, wipe3, List.map_cons, List.map_nil, fI2, fI2C, fI1, fAbs, addI, mulI, intI, eqS, neS, isN_, notN_, L3.isNon, gN, gsN, gsC, gT, asT, at3, List.set_cons_zero, List.set_cons_succ, Option.some.injEq, exists_eq_left', D.bl.injEq, D.int.injEq, D.tup.injEq, List.length_cons, List.length_nil, Nat.reduceAdd, true_and, if_true, if_false, Bool.false_eq_true, reduceIte, ite_true, ite_false, len_t0, len_t1, len_t2, len_t3, len_l0, len_l1, eqI, neI, Int.reduceBEq, Int.reduceLT, Int.reduceLE, Int.reduceNeg, decide_true, decide_false, Bool.not_true, Bool.not_false, ix0, ix1, ix2, and_true, and_self, wWhile]
    refine ⟨d.natAbs + 1, whl_div ?_ d.natAbs n d (Nat.le_refl _) (by omega) h2 h3 fun x hx bx => ?_⟩
    · intro a b hb ha hB k E he hg
      simp only [whl, wExpr, wRaise, gSb, wSeq, wNext, wRet, wRetN, wExpr, wIfS, wSet, wAsg, wPar, wAug, w1, w2, wA, aNil, aCons, wVar, wVarT, wC, tOfW, w3c, wAnd, wOr, wNot, tAnd3, tOr3, tNot3, wIf, wTup, wLst, wLstO, wCall, wSl, pNone, pSome, wipe3, List.map_cons, List.map_nil, fI2, fI2C, fI1, fAbs, addI, mulI, intI, eqS, neS, isN_, notN_, L3.isNon, gN, gsN, gsC, gT, asT, at3, List.set_cons_zero, List.set_cons_succ, Option.some.injEq, exists_eq_left', D.bl.injEq, D.int.injEq, D.tup.injEq, List.length_cons, List.length_nil, Nat.reduceAdd, true_and, if_true, if_false, Bool.false_eq_true, reduceIte, ite_true, ite_false, len_t0, len_t1, len_t2, len_t3, len_l0, len_l1, eqI, neI, Int.reduceBEq, Int.reduceLT, Int.reduceLE, Int.reduceNeg, decide_true, decide_false, Bool.not_true, Bool.not_false, ix0, ix1, ix2, and_true, and_self]
      by_cases z : b = 0
      · subst z
        simpa using he rfl
      · have zb : (b == 0) = false := by simpa using z
        simp only [zb, Bool.not_false, if_true]
        have hb' : 0 < b := by omega
        refine ⟨hB.div z, ?_, hg hb'⟩
        obtain ⟨_, e2, e3⟩ := euclid (a := a) hb'
        refine MulC.w ?_
        have q : (a.fdiv b).natAbs ≤ a.natAbs + 1 := by
          rw [Int.fdiv_eq_ediv_of_nonneg a hb]
          have := Int.natAbs_ediv_le_natAbs a b
          omega
        have l1 := ha.log
        have l2 := hB.log
        have l3 : (a.fdiv b).natAbs.log2 ≤ 8001 := by
          by_cases z2 : (a.fdiv b).natAbs = 0
          · rw [z2]; decide
          · have : (a.fdiv b).natAbs < 2 ^ 8001 := by
              have : a.natAbs < 2 ^ 8000 := ha
              have p1 : (2 : Nat) ^ 8001 = 2 * 2 ^ 8000 := by rw [Nat.pow_succ, Nat.mul_comm]
              have p2 : 0 < (2 : Nat) ^ 2000 := Nat.pow_pos (by decide)
              rw [p1]
              generalize (2 : Nat) ^ 2000 = B at *
              omega
            have := (Nat.log2_lt z2).mpr this
            omega
        omega
    · have e : (if x < 0 then -x else x) = ((Int.gcd n d : Nat) : Int) := by
        rw [← hx]
        split <;> omega
      simp only [wExpr, wRaise, gSb, wSeq, wNext, wRet, wRetN, wExpr, wIfS, wSet, wAsg, wPar, wAug, w1, w2, wA, aNil, aCons, wVar, wVarT, wC, tOfW, w3c, wAnd, wOr, wNot, tAnd3, tOr3, tNot3, wIf, wTup, wLst, wLstO, wCall, wSl, pNone, pSome, wipe3, List.map_cons, List.map_nil, fI2, fI2C, fI1, fAbs, addI, mulI, intI, eqS, neS, isN_, notN_, L3.isNon, gN, gsN, gsC, gT, asT, at3, List.set_cons_zero, List.set_cons_succ, Option.some.injEq, exists_eq_left', D.bl.injEq, D.int.injEq, D.tup.injEq, List.length_cons, List.length_nil, Nat.reduceAdd, true_and, if_true, if_false, Bool.false_eq_true, reduceIte, ite_true, ite_false, len_t0, len_t1, len_t2, len_t3, len_l0, len_l1, eqI, neI, Int.reduceBEq, Int.reduceLT, Int.reduceLE, Int.reduceNeg, decide_true, decide_false, Bool.not_true, Bool.not_false, ix0, ix1, ix2, and_true, and_self, e]
      exact h4
end

end K69

set_option Elab.async false
set_option linter.all false
set_option maxRecDepth 100000
set_option maxHeartbeats 0
namespace K69
open PySem PySem.Spec L2 L3
open PyProof.Rows hiding St
section
variable {P : Program} {w : World} {K : PySem.W.Frag} {mg : Str → Option Value} {base : Heap}
def S_fraction : SP3 := fun ds G R _ => match ds with
  | [.int n, .int d] => 0 < d ∧ Bd n ∧ Bd d ∧ R (frD n d) G
  | _ => False
def fracAt (a b : D) : Bool := match a, b with
  | .int n, .int d => decide (1 ≤ d) && (Int.gcd n d == 1)
  | _, _ => false
def isFracD : D → Bool
  | .tup [a, b] => fracAt a b
  | _ => false
def S_is_fraction : SP3 := fun ds G R _ => match ds with
  | [x] => saneD x = true ∧ R (.bl (isFracD x)) G
  | _ => False
theorem ok_is_fraction (T : Tx K mg) : Good P w K mg base "is_fraction" ["thing"] 2 S_is_fraction := by
  have g_is_int := ok_is_int (P := P) (w := w) (base := base) T
  have g_divisor := ok_divisor (P := P) (w := w) (base := base) T
  refine good_of (d_is_fraction T) sc_is_fraction fun f cd A outer s H E hp tk hgd hr => ⟨_, (s_cons (s_if (t_w (o_or (t_not (t_val (c_callB call_isi3 (lift_isi (K := K)) (n_isinstance T) (a_cons (c_var 0) (a_cons (c_bltn (n := "tuple") (n_tuple T)) a_nil))))) (o_or (t_cmp (op_ne3 hr.units) lift_ne (c_callB call_len lift_len (n_len T) (a_cons (c_var 0) a_nil)) c_int) (o_or (t_not (t_val (c_call g_is_int (hr.mono (by omega)) hgd tk (a_cons (c_ix (c_var 0) c_int) a_nil)))) (o_or1 (t_not (t_val (c_call g_is_int (hr.mono (by omega)) hgd tk (a_cons (c_ix (c_var 0) c_int) a_nil))))))))) (s_one (s_ret c_bl)) s_nil)
      (s_one (s_ret (c_and (c_cmp op_ge lift_I2b (c_ix (c_var 0) c_int) c_int) (c_one (c_cmp (op_eq3 hr.units) lift_eq (c_call g_divisor (hr.mono (by omega)) hgd tk (a_cons (c_ix (c_var 0) c_int) (a_cons (c_ix (c_var 0) c_int) a_nil))) c_int)))))), fun ds G R Ex hlen hS => ?_⟩
  clear hp tk hgd hr hlen
  match ds, hS with
  | [x], ⟨h1, h2⟩ =>
    rw [show start3 ["thing"] [x] = [some (x)] from rfl]
    have hr := sane_rd x h1
    simp only [wExpr, wRaise, gSb, wSeq, wNext, wRet, wRetN, wExpr, wIfS, wSet, wAsg, wPar, wAug, w1, w2, wA, aNil, aCons, wVar, wVarT, wC, tOfW, w3c, wAnd, wOr, wNot, tAnd3, tOr3, tNot3, wIf, wTup, wLst, wLstO, wCall, wSl, pNone, pSome, wipe3, List.map_cons, List.map_nil, fI2, fI2C, fI1, fAbs, addI, mulI, intI, eqS, neS, isN_, notN_, L3.isNon, gN, gsN, gsC, gT, asT, at3, List.set_cons_zero, List.set_cons_succ, Option.some.injEq, exists_eq_left', D.bl.injEq, D.int.injEq, D.tup.injEq, List.length_cons, List.length_nil, Nat.reduceAdd, true_and, if_true, if_false, Bool.false_eq_true, reduceIte, ite_true, ite_false, len_t0, len_t1, len_t2, len_t3, len_l0, len_l1, eqI, neI, Int.reduceBEq, Int.reduceLT, Int.reduceLE, Int.reduceNeg, decide_true, decide_false, Bool.not_true, Bool.not_false, ix0, ix1, ix2, and_true, and_self, S_is_int, S_divisor, isi_tup hr]
    cases x with
    | tup xs =>
      have hx := sane_tup h1
      simp only [wExpr, wRaise, gSb, wSeq, wNext, wRet, wRetN, wExpr, wIfS, wSet, wAsg, wPar, wAug, w1, w2, wA, aNil, aCons, wVar, wVarT, wC, tOfW, w3c, wAnd, wOr, wNot, tAnd3, tOr3, tNot3, wIf, wTup, wLst, wLstO, wCall, wSl, pNone, pSome, wipe3, List.map_cons, List.map_nil, fI2, fI2C, fI1, fAbs, addI, mulI, intI, eqS, neS, isN_, notN_, L3.isNon, gN, gsN, gsC, gT, asT, at3, List.set_cons_zero, List.set_cons_succ, Option.some.injEq, exists_eq_left', D.bl.injEq, D.int.injEq, D.tup.injEq, List.length_cons, List.length_nil, Nat.reduceAdd, true_and, if_true, if_false, Bool.false_eq_true, reduceIte, ite_true, ite_false, len_t0, len_t1, len_t2, len_t3, len_l0, len_l1, eqI, neI, Int.reduceBEq, Int.reduceLT, Int.reduceLE, Int.reduceNeg, decide_true, decide_false, Bool.not_true, Bool.not_false, ix0, ix1, ix2, and_true, and_self, isTupD, sane_rd]
      match xs, hx with
      | [], _ => (simp only [wExpr, wRaise, gSb, wSeq, wNext, wRet, wRetN, wExpr, wIfS, wSet, wAsg, wPar, wAug, w1, w2, wA, aNil, aCons, wVar, wVarT, wC, tOfW, w3c, wAnd, wOr, wNot, tAnd3, tOr3, tNot3, wIf, wTup, wLst, wLstO, wCall, wSl, pNone, pSome, wipe3, List.map_cons, List.map_nil, fI2, fI2C, fI1, fAbs, addI, mulI, intI, eqS, neS, isN_, notN_, L3.isNon, gN, gsN, gsC, gT, asT, at3, List.set_cons_zero, List.set_cons_succ, Option.some.injEq, exists_eq_left', D.bl.injEq, D.int.injEq, D.tup.injEq, List.length_cons, List.length_nil, Nat.reduceAdd, true_and, if_true, if_false, Bool.false_eq_true, reduceIte, ite_true, ite_false, len_t0, len_t1, len_t2, len_t3, len_l0, len_l1, eqI, neI, Int.reduceBEq, Int.reduceLT, Int.reduceLE, Int.reduceNeg, decide_true, decide_false, Bool.not_true, Bool.not_false, ix0, ix1, ix2, and_true, and_self]; exact h2)
      | [a], _ => (simp only [wExpr, wRaise, gSb, wSeq, wNext, wRet, wRetN, wExpr, wIfS, wSet, wAsg, wPar, wAug, w1, w2, wA, aNil, aCons, wVar, wVarT, wC, tOfW, w3c, wAnd, wOr, wNot, tAnd3, tOr3, tNot3, wIf, wTup, wLst, wLstO, wCall, wSl, pNone, pSome, wipe3, List.map_cons, List.map_nil, fI2, fI2C, fI1, fAbs, addI, mulI, intI, eqS, neS, isN_, notN_, L3.isNon, gN, gsN, gsC, gT, asT, at3, List.set_cons_zero, List.set_cons_succ, Option.some.injEq, exists_eq_left', D.bl.injEq, D.int.injEq, D.tup.injEq, List.length_cons, List.length_nil, Nat.reduceAdd, true_and, if_true, if_false, Bool.false_eq_true, reduceIte, ite_true, ite_false, len_t0, len_t1, len_t2, len_t3, len_l0, len_l1, eqI, neI, Int.reduceBEq, Int.reduceLT, Int.reduceLE, Int.reduceNeg, decide_true, decide_false, Bool.not_true, Bool.not_false, ix0, ix1, ix2, and_true, and_self]; exact h2)
      | [a, b], hx =>
        have ha := hx a (by simp)
        have hb := hx b (by simp)
        simp only [wExpr, wRaise, gSb, wSeq, wNext, wRet, wRetN, wExpr, wIfS, wSet, wAsg, wPar, wAug, w1, w2, wA, aNil, aCons, wVar, wVarT, wC, tOfW, w3c, wAnd, wOr, wNot, tAnd3, tOr3, tNot3, wIf, wTup, wLst, wLstO, wCall, wSl, pNone, pSome, wipe3, List.map_cons, List.map_nil, fI2, fI2C, fI1, fAbs, addI, mulI, intI, eqS, neS, isN_, notN_, L3.isNon, gN, gsN, gsC, gT, asT, at3, List.set_cons_zero, List.set_cons_succ, Option.some.injEq, exists_eq_left', D.bl.injEq, D.int.injEq, D.tup.injEq, List.length_cons, List.length_nil, Nat.reduceAdd, true_and, if_true, if_false, Bool.false_eq_true, reduceIte, ite_true, ite_false, len_t0, len_t1, len_t2, len_t3, len_l0, len_l1, eqI, neI, Int.reduceBEq, Int.reduceLT, Int.reduceLE, Int.reduceNeg, decide_true, decide_false, Bool.not_true, Bool.not_false, ix0, ix1, ix2, and_true, and_self, sane_rd a ha, sane_rd b hb]
        cases a with
        | int n =>
          cases b with
          | int d =>
            have bn := sane_int ha
            have bd := sane_int hb
            simp only [wExpr, wRaise, gSb, wSeq, wNext, wRet, wRetN, wExpr, wIfS, wSet, wAsg, wPar, wAug, w1, w2, wA, aNil, aCons, wVar, wVarT, wC, tOfW, w3c, wAnd, wOr, wNot, tAnd3, tOr3, tNot3, wIf, wTup, wLst, wLstO, wCall, wSl, pNone, pSome, wipe3, List.map_cons, List.map_nil, fI2, fI2C, fI1, fAbs, addI, mulI, intI, eqS, neS, isN_, notN_, L3.isNon, gN, gsN, gsC, gT, asT, at3, List.set_cons_zero, List.set_cons_succ, Option.some.injEq, exists_eq_left', D.bl.injEq, D.int.injEq, D.tup.injEq, List.length_cons, List.length_nil, Nat.reduceAdd, true_and, if_true, if_false, Bool.false_eq_true, reduceIte, ite_true, ite_false, len_t0, len_t1, len_t2, len_t3, len_l0, len_l1, eqI, neI, Int.reduceBEq, Int.reduceLT, Int.reduceLE, Int.reduceNeg, decide_true, decide_false, Bool.not_true, Bool.not_false, ix0, ix1, ix2, and_true, and_self, isIntD]
            simp only [isFracD, fracAt] at h2
            by_cases hd : 1 ≤ d
            · have hd' : 0 < d := by omega
              simp only [hd, decide_true, Bool.true_and] at h2
              simp only [hd, hd', Bd.small bn.1 bn.2, Bd.small bd.1 bd.2, true_and, if_true]
              have e : (((Int.gcd n d : Nat) : Int) == 1) = (Int.gcd n d == 1) := by
                rw [Bool.eq_iff_iff, beq_iff_eq, beq_iff_eq]
                omega
              rw [e]
              exact h2
            · simp only [hd, decide_false, Bool.false_and] at h2
              simp only [hd, wExpr, wRaise, gSb, wSeq, wNext, wRet, wRetN, wExpr, wIfS, wSet, wAsg, wPar, wAug, w1, w2, wA, aNil, aCons, wVar, wVarT, wC, tOfW, w3c, wAnd, wOr, wNot, tAnd3, tOr3, tNot3, wIf, wTup, wLst, wLstO, wCall, wSl, pNone, pSome, wipe3, List.map_cons, List.map_nil, fI2, fI2C, fI1, fAbs, addI, mulI, intI, eqS, neS, isN_, notN_, L3.isNon, gN, gsN, gsC, gT, asT, at3, List.set_cons_zero, List.set_cons_succ, Option.some.injEq, exists_eq_left', D.bl.injEq, D.int.injEq, D.tup.injEq, List.length_cons, List.length_nil, Nat.reduceAdd, true_and, if_true, if_false, Bool.false_eq_true, reduceIte, ite_true, ite_false, len_t0, len_t1, len_t2, len_t3, len_l0, len_l1, eqI, neI, Int.reduceBEq, Int.reduceLT, Int.reduceLE, Int.reduceNeg, decide_true, decide_false, Bool.not_true, Bool.not_false, ix0, ix1, ix2, and_true, and_self]
              exact h2
          | _ => (simp only [wExpr, wRaise, gSb, wSeq, wNext, wRet, wRetN, wExpr, wIfS, wSet, wAsg, wPar, wAug, w1, w2, wA, aNil, aCons, wVar, wVarT, wC, tOfW, w3c, wAnd, wOr, wNot, tAnd3, tOr3, tNot3, wIf, wTup, wLst, wLstO, wCall, wSl, pNone, pSome, wipe3, List.map_cons, List.map_nil, fI2, fI2C, fI1, fAbs, addI, mulI, intI, eqS, neS, isN_, notN_, L3.isNon, gN, gsN, gsC, gT, asT, at3, List.set_cons_zero, List.set_cons_succ, Option.some.injEq, exists_eq_left', D.bl.injEq, D.int.injEq, D.tup.injEq, List.length_cons, List.length_nil, Nat.reduceAdd, true_and, if_true, if_false, Bool.false_eq_true, reduceIte, ite_true, ite_false, len_t0, len_t1, len_t2, len_t3, len_l0, len_l1, eqI, neI, Int.reduceBEq, Int.reduceLT, Int.reduceLE, Int.reduceNeg, decide_true, decide_false, Bool.not_true, Bool.not_false, ix0, ix1, ix2, and_true, and_self, isIntD]; exact h2)
        | _ => (simp only [wExpr, wRaise, gSb, wSeq, wNext, wRet, wRetN, wExpr, wIfS, wSet, wAsg, wPar, wAug, w1, w2, wA, aNil, aCons, wVar, wVarT, wC, tOfW, w3c, wAnd, wOr, wNot, tAnd3, tOr3, tNot3, wIf, wTup, wLst, wLstO, wCall, wSl, pNone, pSome, wipe3, List.map_cons, List.map_nil, fI2, fI2C, fI1, fAbs, addI, mulI, intI, eqS, neS, isN_, notN_, L3.isNon, gN, gsN, gsC, gT, asT, at3, List.set_cons_zero, List.set_cons_succ, Option.some.injEq, exists_eq_left', D.bl.injEq, D.int.injEq, D.tup.injEq, List.length_cons, List.length_nil, Nat.reduceAdd, true_and, if_true, if_false, Bool.false_eq_true, reduceIte, ite_true, ite_false, len_t0, len_t1, len_t2, len_t3, len_l0, len_l1, eqI, neI, Int.reduceBEq, Int.reduceLT, Int.reduceLE, Int.reduceNeg, decide_true, decide_false, Bool.not_true, Bool.not_false, ix0, ix1, ix2, and_true, and_self, isIntD]; exact h2)
      | a :: b :: c :: r, _ => (simp only [wExpr, wRaise, gSb, wSeq, wNext, wRet, wRetN, wExpr, wIfS, wSet, wAsg, wPar, wAug, w1, w2, wA, aNil, aCons, wVar, wVarT, wC, tOfW, w3c, wAnd, wOr, wNot, tAnd3, tOr3, tNot3, wIf, wTup, wLst, wLstO, wCall, wSl, pNone, pSome, wipe3, List.map_cons, List.map_nil, fI2, fI2C, fI1, fAbs, addI, mulI, intI, eqS, neS, isN_, notN_, L3.isNon, gN, gsN, gsC, gT, asT, at3, List.set_cons_zero, List.set_cons_succ, Option.some.injEq, exists_eq_left', D.bl.injEq, D.int.injEq, D.tup.injEq, List.length_cons, List.length_nil, Nat.reduceAdd, true_and, if_true, if_false, Bool.false_eq_true, reduceIte, ite_true, ite_false, len_t0, len_t1, len_t2, len_t3, len_l0, len_l1, eqI, neI, Int.reduceBEq, Int.reduceLT, Int.reduceLE, Int.reduceNeg, decide_true, decide_false, Bool.not_true, Bool.not_false, ix0, ix1, ix2, and_true, and_self, len_tup, more2]; exact h2)
    | _ => exact h2
end

end K69

set_option Elab.async false
set_option linter.all false
set_option maxRecDepth 100000
set_option maxHeartbeats 0
namespace K69
open PySem PySem.Spec L2 L3
open PyProof.Rows hiding St

/-! ### sums of fractions -/
abbrev Fr := Int × Int
def frO (p : Fr) : D := .tup [.int p.1, .int p.2]
def addP (x y : Fr) : Fr := if x.2 = y.2 then (redN (x.1 + y.1) x.2, redD (x.1 + y.1) x.2) else (redN (x.1 * y.2 + y.1 * x.2) (x.2 * y.2), redD (x.1 * y.2 + y.1 * x.2) (x.2 * y.2))
def plusP (x y : Fr) : Fr := (redN (x.1 * y.2 + y.1 * x.2) (x.2 * y.2), redD (x.1 * y.2 + y.1 * x.2) (x.2 * y.2))
def addU (x y : Fr) : Fr := (x.1 * y.2 + y.1 * x.2, x.2 * y.2)
/-- the same number -/
def Eqv (x y : Fr) : Prop := Rt x.1 x.2 y.1 y.2
theorem addP_u {x y u : Fr} (h : Eqv x u) (hy : 0 < y.2) : Eqv (addP x y) (addU u y) := by
  obtain ⟨a, b⟩ := x
  obtain ⟨c, e⟩ := y
  obtain ⟨n, m⟩ := u
  obtain ⟨h1, h2, h3⟩ := h
  simp only at h1 h2 h3 hy
  unfold addP Eqv addU
  simp only
  split
  · rename_i z
    subst z
    obtain ⟨r1, r2, r3⟩ := red_rt (n := a + c) h1
    refine ⟨r1, Int.mul_pos h2 h1, ?_⟩
    generalize redN (a + c) b = p at *
    generalize redD (a + c) b = q at *
    refine Int.eq_of_mul_eq_mul_left (show b ≠ 0 by omega) ?_
    grind
  · obtain ⟨r1, r2, r3⟩ := red_rt (n := a * e + c * b) (Int.mul_pos h1 hy)
    refine ⟨r1, Int.mul_pos h2 hy, ?_⟩
    generalize redN (a * e + c * b) (b * e) = p at *
    generalize redD (a * e + c * b) (b * e) = q at *
    refine Int.eq_of_mul_eq_mul_left (show b ≠ 0 by omega) ?_
    grind
theorem plusP_u {x y u : Fr} (h : Eqv x u) (hy : 0 < y.2) : Eqv (plusP x y) (addU u y) := by
  obtain ⟨a, b⟩ := x
  obtain ⟨c, e⟩ := y
  obtain ⟨n, m⟩ := u
  obtain ⟨h1, h2, h3⟩ := h
  simp only at h1 h2 h3 hy
  unfold plusP Eqv addU
  simp only
  obtain ⟨r1, r2, r3⟩ := red_rt (n := a * e + c * b) (Int.mul_pos h1 hy)
  refine ⟨r1, Int.mul_pos h2 hy, ?_⟩
  generalize redN (a * e + c * b) (b * e) = p at *
  generalize redD (a * e + c * b) (b * e) = q at *
  refine Int.eq_of_mul_eq_mul_left (show b ≠ 0 by omega) ?_
  grind
theorem Eqv.refl {x : Fr} (h : 0 < x.2) : Eqv x x := ⟨h, h, rfl⟩
theorem Eqv.lt {x y : Fr} (h : Eqv x y) : (x.2 < x.1) ↔ (y.2 < y.1) := by
  obtain ⟨h1, h2, h3⟩ := h
  constructor
  · intro q
    have e1 : x.2 * y.2 < x.1 * y.2 := Int.mul_lt_mul_of_pos_right q h2
    rw [h3, Int.mul_comm x.2] at e1
    exact Int.lt_of_mul_lt_mul_right e1 (Int.le_of_lt h1)
  · intro q
    have e1 : y.2 * x.2 < y.1 * x.2 := Int.mul_lt_mul_of_pos_right q h1
    rw [← h3, Int.mul_comm y.2] at e1
    exact Int.lt_of_mul_lt_mul_right e1 (Int.le_of_lt h2)
theorem Eqv.gt {x y : Fr} (h : Eqv x y) : (x.1 < x.2) ↔ (y.1 < y.2) := by
  obtain ⟨h1, h2, h3⟩ := h
  constructor
  · intro q
    have e1 : x.1 * y.2 < x.2 * y.2 := Int.mul_lt_mul_of_pos_right q h2
    rw [h3, Int.mul_comm x.2] at e1
    exact Int.lt_of_mul_lt_mul_right e1 (Int.le_of_lt h1)
  · intro q
    have e1 : y.1 * x.2 < y.2 * x.2 := Int.mul_lt_mul_of_pos_right q h1
    rw [← h3, Int.mul_comm y.2] at e1
    exact Int.lt_of_mul_lt_mul_right e1 (Int.le_of_lt h2)
theorem Eqv.nn {x y : Fr} (h : Eqv x y) : (0 ≤ x.1) ↔ (0 ≤ y.1) := by
  obtain ⟨h1, h2, h3⟩ := h
  constructor
  · intro q
    have e1 : 0 ≤ x.1 * y.2 := Int.mul_nonneg q (Int.le_of_lt h2)
    rw [h3] at e1
    rcases Int.lt_or_le y.1 0 with z | z
    · have := Int.mul_neg_of_neg_of_pos z h1
      omega
    · exact z
  · intro q
    have e1 : 0 ≤ y.1 * x.2 := Int.mul_nonneg q (Int.le_of_lt h1)
    rw [← h3] at e1
    rcases Int.lt_or_le x.1 0 with z | z
    · have := Int.mul_neg_of_neg_of_pos z h2
      omega
    · exact z
/-- small parts -/
def PtOk (p : Fr) : Prop := 0 < p.2 ∧ p.2 ≤ 1000 ∧ p.1.natAbs ≤ 1000
theorem PtOk.bd {p : Fr} (h : PtOk p) : Bd p.1 ∧ Bd p.2 := by
  obtain ⟨h1, h2, h3⟩ := h
  exact ⟨Bd.small (by omega) (by omega), Bd.small (by omega) (by omega)⟩
def tot (ps : List Fr) : Fr := ps.foldl addP (0, 1)
def totU (ps : List Fr) : Fr := ps.foldl addU (0, 1)
theorem fold_eqv (f : Fr → Fr → Fr) (hf : ∀ {x y u : Fr}, Eqv x u → 0 < y.2 → Eqv (f x y) (addU u y)) : ∀ (ps : List Fr) {x u : Fr}, Eqv x u → (∀ p ∈ ps, PtOk p) → Eqv (ps.foldl f x) (ps.foldl addU u)
  | [], _, _, h, _ => h
  | p :: ps, x, u, h, k => fold_eqv f hf ps (hf h (k p (by simp)).1) fun q hq => k q (by simp [hq])
theorem tot_u {ps : List Fr} (k : ∀ p ∈ ps, PtOk p) : Eqv (tot ps) (totU ps) := fold_eqv addP addP_u ps (Eqv.refl (by decide)) k
/-- how large it may be behind n parts -/
def Sz (n : Nat) (x : Fr) : Prop := 0 < x.2 ∧ x.2.natAbs ≤ 10000 ^ n ∧ x.1.natAbs ≤ 10000 ^ n
theorem Sz.bd {n : Nat} {x : Fr} (h : Sz n x) (hn : n ≤ 60) : Bd x.1 ∧ Bd x.2 := by
  have e : 10000 ^ n < 2 ^ 8000 := Nat.lt_of_le_of_lt (Nat.pow_le_pow_right (by decide) hn) (by
    have : 10000 ^ 60 < 2 ^ 840 := by decide +kernel
    exact Nat.lt_of_lt_of_le this (Nat.pow_le_pow_right (by decide) (by decide)))
  exact ⟨Nat.lt_of_le_of_lt h.2.2 e, Nat.lt_of_le_of_lt h.2.1 e⟩
theorem nat_mul_le {a b B C : Nat} (h : a ≤ B) (k : b ≤ C) : a * b ≤ B * C := Nat.mul_le_mul h k
theorem Sz.cross {n : Nat} {x y : Fr} (h : Sz n x) (k : PtOk y) : (x.1 * y.2 + y.1 * x.2).natAbs ≤ 10000 ^ (n + 1) ∧ (x.2 * y.2).natAbs ≤ 10000 ^ (n + 1) ∧ (x.1 + y.1).natAbs ≤ 10000 ^ (n + 1) ∧ (x.1 * y.2).natAbs ≤ 10000 ^ (n + 1) ∧ (y.1 * x.2).natAbs ≤ 10000 ^ (n + 1) := by
  obtain ⟨h1, h2, h3⟩ := h
  obtain ⟨k1, k2, k3⟩ := k
  have y2 : y.2.natAbs ≤ 1000 := by omega
  have p0 : 0 < 10000 ^ n := Nat.pow_pos (by decide)
  rw [Nat.pow_succ]
  have a1 := nat_mul_le h3 y2
  have a2 := nat_mul_le k3 h2
  have a3 := nat_mul_le h2 y2
  rw [← Int.natAbs_mul] at a1 a2 a3
  generalize 10000 ^ n = B at *
  generalize x.1 * y.2 = u at *
  generalize y.1 * x.2 = v at *
  generalize x.2 * y.2 = w at *
  omega
theorem addP_sz {n : Nat} {x y : Fr} (h : Sz n x) (k : PtOk y) : Sz (n + 1) (addP x y) := by
  obtain ⟨c1, c2, c3, _⟩ := h.cross k
  unfold addP
  split
  · have r := red_le (n := x.1 + y.1) h.1
    exact ⟨redD_pos h.1, Nat.le_trans r.2 (Nat.le_trans h.2.1 (Nat.pow_le_pow_right (by decide) (Nat.le_succ n))), Nat.le_trans r.1 c3⟩
  · have hp := Int.mul_pos h.1 k.1
    have r := red_le (n := x.1 * y.2 + y.1 * x.2) hp
    exact ⟨redD_pos hp, Nat.le_trans r.2 c2, Nat.le_trans r.1 c1⟩
theorem plusP_sz {n : Nat} {x y : Fr} (h : Sz n x) (k : PtOk y) : Sz (n + 1) (plusP x y) := by
  obtain ⟨c1, c2, c3, _⟩ := h.cross k
  have hp := Int.mul_pos h.1 k.1
  have r := red_le (n := x.1 * y.2 + y.1 * x.2) hp
  exact ⟨redD_pos hp, Nat.le_trans r.2 c2, Nat.le_trans r.1 c1⟩

/-! ### recipes -/
def intOf : D → Int
  | .int i => i
  | _ => 0
def nmD : D → Int
  | .tup [a, _] => intOf a
  | _ => 0
def dnD : D → Int
  | .tup [_, b] => intOf b
  | _ => 0
def ptD (x : D) : Fr := (nmD x, dnD x)
def isShareD (x : D) : Bool := isFracD x && (decide (0 ≤ nmD x) && decide (nmD x ≤ dnD x))
def isBndD (x : D) : Bool := isShareD x && decide (dnD x ≤ 1000)
def third : List D → D
  | [_, _, t] => t
  | _ => .non
def lowD : D → D
  | .tup (a :: _) => a
  | _ => .non
def highD : D → D
  | .tup (_ :: b :: _) => b
  | _ => .non
def partAt (a b : D) : Bool := isBndD a && isBndD b && decide (nmD a * dnD b ≤ nmD b * dnD a)
def partOk : D → Bool
  | .tup [a, b, _] => partAt a b
  | _ => false
def sumsOk (xs : List D) : Bool := (let l := totU (xs.map fun x => ptD (lowD x)); decide (l.1 ≤ l.2)) && (let h := totU (xs.map fun x => ptD (highD x)); decide (h.2 ≤ h.1))
def fitLen (n : Nat) : Bool := decide (1 ≤ n) && decide (n ≤ 8)
mutual
/-- depth and bins, as the law looks -/
def lk : D → Option (Nat × List Int)
  | .int i => if 0 ≤ i ∧ i ≤ 7 then some (0, [i]) else none
  | .tup xs => if (fitLen xs.length && xs.all partOk && sumsOk xs) = true then (lkL xs).map fun p => (p.1 + 1, p.2) else none
  | _ => none
def lkL : List D → Option (Nat × List Int)
  | [] => some (0, [])
  | x :: xs => match lkP x, lkL xs with
    | some (d, l), some (e, m) => some (max d e, l ++ m)
    | _, _ => none
def lkP : D → Option (Nat × List Int)
  | .tup ys => lkT ys
  | _ => none
def lkT : List D → Option (Nat × List Int)
  | [] => none
  | [_] => none
  | [_, _] => none
  | [_, _, t] => lk t
  | _ => none
end

end K69

set_option Elab.async false
set_option linter.all false
set_option maxRecDepth 100000
set_option maxHeartbeats 0
namespace K69
open PySem PySem.Spec L2 L3
open PyProof.Rows hiding St
theorem frac_cases {x : D} (h : isFracD x = true) : ∃ n d : Int, x = .tup [.int n, .int d] ∧ 1 ≤ d ∧ nmD x = n ∧ dnD x = d := by
  match x, h with
  | .tup [a, b], h =>
    have h' : fracAt a b = true := h
    unfold fracAt at h'
    split at h'
    · rename_i n d
      rw [Bool.and_eq_true, decide_eq_true_eq] at h'
      exact ⟨n, d, rfl, h'.1, rfl, rfl⟩
    · cases h'
theorem bnd_cases {x : D} (h : isBndD x = true) : ∃ n d : Int, x = .tup [.int n, .int d] ∧ 1 ≤ d ∧ 0 ≤ n ∧ n ≤ d ∧ d ≤ 1000 ∧ nmD x = n ∧ dnD x = d := by
  unfold isBndD isShareD at h
  simp only [Bool.and_eq_true, decide_eq_true_eq] at h
  obtain ⟨⟨h1, h2, h3⟩, h4⟩ := h
  obtain ⟨n, d, e, k1, k2, k3⟩ := frac_cases h1
  rw [k2] at h2 h3
  rw [k3] at h3 h4
  exact ⟨n, d, e, k1, h2, h3, h4, k2, k3⟩
theorem bnd_pt {x : D} (h : isBndD x = true) : x = frO (ptD x) ∧ PtOk (ptD x) := by
  obtain ⟨n, d, e, k1, k2, k3, k4, k5, k6⟩ := bnd_cases h
  subst e
  exact ⟨rfl, by show (0 : Int) < d; omega, k4, by show n.natAbs ≤ 1000; omega⟩
section
variable {P : Program} {w : World} {K : PySem.W.Frag} {mg : Str → Option Value} {base : Heap}
def S_is_share : SP3 := fun ds G R _ => match ds with
  | [x] => saneD x = true ∧ R (.bl (isShareD x)) G
  | _ => False
def S_is_bound : SP3 := fun ds G R _ => match ds with
  | [x] => saneD x = true ∧ R (.bl (isBndD x)) G
  | _ => False
def S_part : SP3 := fun ds G R _ => match ds with
  | [x] => saneD x = true ∧ R (.bl (partOk x)) G
  | _ => False
end

end K69

set_option Elab.async false
set_option linter.all false
set_option maxRecDepth 100000
set_option maxHeartbeats 0
namespace K69
open PySem PySem.Spec L2 L3
open PyProof.Rows hiding St
def ilD (l : List Int) : D := .lst (l.map D.int)

end K69

set_option Elab.async false
set_option linter.all false
set_option maxRecDepth 100000
set_option maxHeartbeats 0
namespace K69
open PySem PySem.Spec L2 L3
open PyProof.Rows hiding St
/-! ### the hand -/
def handL (cs : List Int) (a b c d : Int) : List D := [ilD cs, .int a, .int b, .int c, .int d]
def HandOk (G : GH) (p : Addr) : Prop := ∃ (cs : List Int) (a b c d : Int), 0 ≤ a ∧ cs.length ≤ 4000 ∧ G p = some (.lst (handL cs a b c d))
/-- all changeable things but p are as they were -/
def Apart (p : Addr) (G G' : GH) : Prop := ∀ q, q ≠ p → G q ≠ none → G' q = G q
theorem Apart.refl {p : Addr} {G : GH} : Apart p G G := fun _ _ _ => rfl
theorem Apart.trans {p : Addr} {G G1 G2 : GH} (a : Apart p G G1) (b : Apart p G1 G2) : Apart p G G2 := fun q h k => (b q h (by rw [a q h k]; exact k)).trans (a q h k)
theorem Apart.gset {p : Addr} {G G1 : GH} {o : GO} (a : Apart p G G1) : Apart p G (L3.gset G1 p o) := fun q h k => by rw [gset_ne h]; exact a q h k
/-- something new was laid, changed, let go -/
theorem Apart.new {p q : Addr} {G G1 : GH} {o : GO} (a : Apart p G G1) (hq : G q = none) : Apart p G (L3.gset G1 q o) := fun r h k => by rw [gset_ne (fun e => k (by rw [e]; exact hq))]; exact a r h k
theorem Apart.del {p q : Addr} {G G1 : GH} (a : Apart p G G1) (hq : G q = none) : Apart p G (gdel G1 q) := fun r h k => by rw [gdel_ne (fun e => k (by rw [e]; exact hq))]; exact a r h k
theorem HandOk.ne {G : GH} {p q : Addr} (h : HandOk G p) (hq : G q = none) : q ≠ p := fun e => by
  obtain ⟨cs, a, b, c, d, _, _, g⟩ := h
  rw [← e, hq] at g
  cases g
theorem HandOk.ne_of {G : GH} {p q : Addr} {ds : List D} (h : HandOk G p) (hq : G q = some (.lst ds)) (hd : ∀ cs a b c d, ds ≠ handL cs a b c d) : q ≠ p := fun e => by
  obtain ⟨cs, a, b, c, d, _, _, g⟩ := h
  rw [← e, hq] at g
  exact hd cs a b c d (GO.lst.inj (Option.some.inj g))
theorem HandOk.ne_refs {G : GH} {p q : Addr} {qs : List Addr} (h : HandOk G p) (hq : G q = some (.lst (qs.map D.ref))) : q ≠ p := h.ne_of hq fun cs a b c d z => by
  cases qs with
  | nil => cases z
  | cons r rs =>
    rw [List.map_cons] at z
    cases (List.cons.inj z).1
theorem HandOk.ne_ints {G : GH} {p q : Addr} {ns : List Int} (h : HandOk G p) (hq : G q = some (.lst (ns.map D.int))) : q ≠ p := h.ne_of hq fun cs a b c d z => by
  cases ns with
  | nil => cases z
  | cons r rs =>
    rw [List.map_cons] at z
    cases (List.cons.inj z).1
theorem HandOk.new {G : GH} {p q : Addr} {o : GO} (h : HandOk G p) (hq : q ≠ p) : HandOk (gset G q o) p := by
  obtain ⟨cs, a, b, c, d, h1, h2, g⟩ := h
  exact ⟨cs, a, b, c, d, h1, h2, by rw [gset_ne fun e => hq e.symm]; exact g⟩
theorem HandOk.del {G : GH} {p q : Addr} (h : HandOk G p) (hq : q ≠ p) : HandOk (gdel G q) p := by
  obtain ⟨cs, a, b, c, d, h1, h2, g⟩ := h
  exact ⟨cs, a, b, c, d, h1, h2, by rw [gdel_ne fun e => hq e.symm]; exact g⟩
theorem Apart.asS {p : Addr} {G G' : GH} {x : D} {ds : List D} (a : Apart p G G') (hx : x ≠ .ref p) (h : L3.asS G x = some ds) : L3.asS G' x = some ds := by
  cases x with
  | ref q =>
    have hq : q ≠ p := fun e => hx (by rw [e])
    have h' : (match G q with | some (.lst xs) => some xs | _ => none) = some ds := h
    split at h'
    · rename_i xs e
      cases h'
      exact asS_ref ((a q hq (by rw [e]; simp)).trans e)
    · cases h'
  | _ => exact h
section
variable {P : Program} {w : World} {K : PySem.W.Frag} {mg : Str → Option Value} {base : Heap}
def S_draw : SP3 := fun ds G R _ => match ds with
  | [x, y] => ∃ (p : Addr) (m : Int), x = .ref p ∧ y = .int m ∧ HandOk G p ∧ 0 < m ∧ m < 2 ^ 62 ∧ ∀ r G', 0 ≤ r → r < m → HandOk G' p → Apart p G G' → R (.int r) G'
  | _ => False
theorem mulR {i j : Int} (h1 : -(2 ^ 64) < j) (h2 : j < 2 ^ 64) : MulC i j := MulC.r h1 h2
theorem ok_draw (T : Tx K mg) : Good P w K mg base "_law_draw" ["hand", "many"] 1 S_draw := by
  refine good_of (d__law_draw T) sc__law_draw fun f cd A outer s H E hp tk hgd hr => ⟨_, (s_cons (s_if (t_w (o_and (t_cmp (op_eq3 hr.units) lift_eq (c_ix (c_var 0) c_int) c_int) (o_and1 (t_cmp op_lt lift_I2b (c_ix (c_var 0) c_int) (c_callB call_len lift_len (n_len T) (a_cons (c_ix (c_var 0) c_int) a_nil)))))) (s_cons (s_set 2 sc__law_draw.nd rfl (.inl rfl) rfl (c_ix (c_ix (c_var 0) c_int) (c_ix (c_var 0) c_int)))
      (s_cons (s_asg (c_op op_add3 lift_add (c_ix (c_var 0) c_int) c_int) (g_sub (c_var 0) c_int))
      (s_cons (s_asg (c_op op_modG lift_I2C (c_callT call_int1 lift_int (n_int T) (a_cons (c_op op_add3 lift_add (c_op op_add3 lift_add (c_op op_mul3 lift_mul (c_ix (c_var 0) c_int) c_int) (c_var 2)) c_int) a_nil)) c_int) (g_sub (c_var 0) c_int))
      (s_one (s_if (t_cmp op_ge lift_I2b (c_var 2) (c_op op_pow lift_I2C c_int c_int)) (s_one (s_asg (c_var 2) (g_sub (c_var 0) c_int))) s_nil))))) s_nil)
      (s_cons (s_if (t_cmp op_gt lift_I2b (c_ix (c_var 0) c_int) c_int) (s_cons (s_set 3 sc__law_draw.nd rfl (.inl rfl) rfl (c_op op_modG lift_I2C (c_callT call_int1 lift_int (n_int T) (a_cons (c_ix (c_var 0) c_int) a_nil)) (c_var 1)))
      (s_cons (s_asg (c_op op_fdivG lift_I2C (c_ix (c_var 0) c_int) (c_var 1)) (g_sub (c_var 0) c_int))
      (s_one (s_ret (c_var 3))))) s_nil)
      (s_cons (s_asg (c_op op_add3 lift_add (c_ix (c_var 0) c_int) c_int) (g_sub (c_var 0) c_int))
      (s_cons (s_set 4 sc__law_draw.nd rfl (.inl rfl) rfl (c_op op_modG lift_I2C (c_callT call_int1 lift_int (n_int T) (a_cons (c_op op_mul3 lift_mul (c_callT call_int1 lift_int (n_int T) (a_cons (c_op op_add3 lift_add (c_ix (c_var 0) c_int) (c_op op_mul3 lift_mul c_int (c_ix (c_var 0) c_int))) a_nil)) c_int) a_nil)) c_int))
      (s_cons (s_set 4 sc__law_draw.nd rfl (.inl rfl) rfl (c_op op_modG lift_I2C (c_callT call_int1 lift_int (n_int T) (a_cons (c_op op_mul3 lift_mul (c_var 4) (c_op op_add3 lift_add (c_op op_fdivG lift_I2C (c_var 4) c_int) c_int)) a_nil)) c_int))
      (s_cons (s_set 4 sc__law_draw.nd rfl (.inl rfl) rfl (c_op op_modG lift_I2C (c_callT call_int1 lift_int (n_int T) (a_cons (c_op op_mul3 lift_mul (c_var 4) (c_op op_add3 lift_add (c_op op_fdivG lift_I2C (c_var 4) c_int) c_int)) a_nil)) c_int))
      (s_one (s_ret (c_op op_modG lift_I2C (c_callT call_int1 lift_int (n_int T) (a_cons (c_op op_fdivG lift_I2C (c_var 4) c_int) a_nil)) (c_var 1)))))))))), fun ds G R Ex hlen hS => ?_⟩
  clear hp tk hgd hr hlen
  match ds, hS with
  | [x, y], ⟨p, m, e1, e2, hH, hm, hm2, hR⟩ =>
    subst e1 e2
    rw [show start3 ["hand", "many", "cell", "digit", "number"] [.ref p, .int m] = [some (.ref p), some (.int m), none, none, none] from rfl]
    refine seq_cut (fun env' G' => ∃ u2 u3 u4, env' = [some (.ref p), some (.int m), u2, u3, u4] ∧ HandOk G' p ∧ Apart p G G') ?_ ?_
    · rintro env' G' ⟨u2, u3, u4, rfl, ⟨cs, a, b, c, d, ha, hcs, hG⟩, hA⟩
      unfold handL at hG
      simp only [wExpr, wRaise, gSb, wSeq, wNext, wRet, wRetN, wExpr, wIfS, wSet, wAsg, wPar, wAug, w1, w2, wA, aNil, aCons, wVar, wVarT, wC, tOfW, w3c, wAnd, wOr, wNot, tAnd3, tOr3, tNot3, wIf, wTup, wLst, wLstO, wCall, wSl, pNone, pSome, wipe3, List.map_cons, List.map_nil, fI2, fI2C, fI1, fAbs, addI, mulI, intI, eqS, neS, isN_, notN_, L3.isNon, gN, gsN, gsC, gT, asT, at3, List.set_cons_zero, List.set_cons_succ, Option.some.injEq, exists_eq_left', D.bl.injEq, D.int.injEq, D.tup.injEq, List.length_cons, List.length_nil, Nat.reduceAdd, true_and, if_true, if_false, Bool.false_eq_true, reduceIte, ite_true, ite_false, len_t0, len_t1, len_t2, len_t3, len_l0, len_l1, eqI, neI, Int.reduceBEq, Int.reduceLT, Int.reduceLE, Int.reduceNeg, decide_true, decide_false, Bool.not_true, Bool.not_false, ix0, ix1, ix2, and_true, and_self, ixr2 hG]
      by_cases hb : b > 0
      · have hb' : decide (b > 0) = true := by simpa using hb
        simp only [hb', if_true]
        have dv : DivC b m := DivC.small hm (by omega)
        refine ⟨by omega, dv, ?_⟩
        rw [set_ref (i := 2) 2 rfl (by simp) hG]
        refine hR _ _ (Int.fmod_nonneg_of_pos b hm) (Int.fmod_lt_of_pos b hm) ⟨cs, a, _, c, d, ha, hcs, gset_same⟩ hA.gset
      · have hb' : decide (b > 0) = false := by simpa using hb
        simp only [hb', Bool.false_eq_true, if_false]
        simp only [ixr4 hG, wExpr, wRaise, gSb, wSeq, wNext, wRet, wRetN, wExpr, wIfS, wSet, wAsg, wPar, wAug, w1, w2, wA, aNil, aCons, wVar, wVarT, wC, tOfW, w3c, wAnd, wOr, wNot, tAnd3, tOr3, tNot3, wIf, wTup, wLst, wLstO, wCall, wSl, pNone, pSome, wipe3, List.map_cons, List.map_nil, fI2, fI2C, fI1, fAbs, addI, mulI, intI, eqS, neS, isN_, notN_, L3.isNon, gN, gsN, gsC, gT, asT, at3, List.set_cons_zero, List.set_cons_succ, Option.some.injEq, exists_eq_left', D.bl.injEq, D.int.injEq, D.tup.injEq, List.length_cons, List.length_nil, Nat.reduceAdd, true_and, if_true, if_false, Bool.false_eq_true, reduceIte, ite_true, ite_false, len_t0, len_t1, len_t2, len_t3, len_l0, len_l1, eqI, neI, Int.reduceBEq, Int.reduceLT, Int.reduceLE, Int.reduceNeg, decide_true, decide_false, Bool.not_true, Bool.not_false, ix0, ix1, ix2, and_true, and_self]
        rw [set_ref (i := 4) 4 rfl (by simp) hG]
        simp only [List.set_cons_zero, List.set_cons_succ]
        have hG2 : gset G' p (.lst [ilD cs, .int a, .int b, .int c, .int (d + 1)]) p = some (.lst [ilD cs, .int a, .int b, .int c, .int (d + 1)]) := gset_same
        simp only [ixr3 hG2, ixr4 hG2, wExpr, wRaise, gSb, wSeq, wNext, wRet, wRetN, wExpr, wIfS, wSet, wAsg, wPar, wAug, w1, w2, wA, aNil, aCons, wVar, wVarT, wC, tOfW, w3c, wAnd, wOr, wNot, tAnd3, tOr3, tNot3, wIf, wTup, wLst, wLstO, wCall, wSl, pNone, pSome, wipe3, List.map_cons, List.map_nil, fI2, fI2C, fI1, fAbs, addI, mulI, intI, eqS, neS, isN_, notN_, L3.isNon, gN, gsN, gsC, gT, asT, at3, List.set_cons_zero, List.set_cons_succ, Option.some.injEq, exists_eq_left', D.bl.injEq, D.int.injEq, D.tup.injEq, List.length_cons, List.length_nil, Nat.reduceAdd, true_and, if_true, if_false, Bool.false_eq_true, reduceIte, ite_true, ite_false, len_t0, len_t1, len_t2, len_t3, len_l0, len_l1, eqI, neI, Int.reduceBEq, Int.reduceLT, Int.reduceLE, Int.reduceNeg, decide_true, decide_false, Bool.not_true, Bool.not_false, ix0, ix1, ix2, and_true, and_self]
        refine ⟨MulC.l (by decide) (by decide), mulR (by decide) (by decide), by decide, DivC.small (by decide) (by decide), ?_⟩
        generalize hn : ((c + 7919 * (d + 1)) * 48271).fmod 2147483647 = n
        have n1 : 0 ≤ n := by rw [← hn]; exact Int.fmod_nonneg_of_pos _ (by decide)
        have n2 : n < 2147483647 := by rw [← hn]; exact Int.fmod_lt_of_pos _ (by decide)
        refine ⟨MulC.l (by omega) (by omega), by decide, DivC.small (by decide) (by decide), ?_⟩
        generalize hn2 : (n * (n.fdiv 1009 + 69621)).fmod 2147483647 = n'
        have n3 : 0 ≤ n' := by rw [← hn2]; exact Int.fmod_nonneg_of_pos _ (by decide)
        have n4 : n' < 2147483647 := by rw [← hn2]; exact Int.fmod_lt_of_pos _ (by decide)
        refine ⟨MulC.l (by omega) (by omega), by decide, DivC.small (by decide) (by decide), by omega, ?_⟩
        exact hR _ _ (Int.fmod_nonneg_of_pos _ hm) (Int.fmod_lt_of_pos _ hm) ⟨cs, a, b, c, _, ha, hcs, hG2⟩ hA.gset
    · intro N hN
      obtain ⟨cs, a, b, c, d, ha, hcs, hG⟩ := hH
      have hG0 := hG
      unfold handL at hG
      simp only [wExpr, wRaise, gSb, wSeq, wNext, wRet, wRetN, wExpr, wIfS, wSet, wAsg, wPar, wAug, w1, w2, wA, aNil, aCons, wVar, wVarT, wC, tOfW, w3c, wAnd, wOr, wNot, tAnd3, tOr3, tNot3, wIf, wTup, wLst, wLstO, wCall, wSl, pNone, pSome, wipe3, List.map_cons, List.map_nil, fI2, fI2C, fI1, fAbs, addI, mulI, intI, eqS, neS, isN_, notN_, L3.isNon, gN, gsN, gsC, gT, asT, at3, List.set_cons_zero, List.set_cons_succ, Option.some.injEq, exists_eq_left', D.bl.injEq, D.int.injEq, D.tup.injEq, List.length_cons, List.length_nil, Nat.reduceAdd, true_and, if_true, if_false, Bool.false_eq_true, reduceIte, ite_true, ite_false, len_t0, len_t1, len_t2, len_t3, len_l0, len_l1, eqI, neI, Int.reduceBEq, Int.reduceLT, Int.reduceLE, Int.reduceNeg, decide_true, decide_false, Bool.not_true, Bool.not_false, ix0, ix1, ix2, and_true, and_self, ixr2 hG, ixr1 hG, ixr0 hG]
      cases hb : b == 0 with
      | false =>
        simp only [Bool.false_eq_true, if_false]
        exact hN _ _ ⟨_, _, _, rfl, ⟨cs, a, b, c, d, ha, hcs, hG0⟩, .refl⟩
      | true =>
        have lenc : fLen [ilD cs] = fun (G : GH) (R : K3) => R (.int cs.length) G := by
          funext G R
          unfold ilD
          rw [len_lst, List.length_map]
        simp only [if_true, lenc, wExpr, wRaise, gSb, wSeq, wNext, wRet, wRetN, wExpr, wIfS, wSet, wAsg, wPar, wAug, w1, w2, wA, aNil, aCons, wVar, wVarT, wC, tOfW, w3c, wAnd, wOr, wNot, tAnd3, tOr3, tNot3, wIf, wTup, wLst, wLstO, wCall, wSl, pNone, pSome, wipe3, List.map_cons, List.map_nil, fI2, fI2C, fI1, fAbs, addI, mulI, intI, eqS, neS, isN_, notN_, L3.isNon, gN, gsN, gsC, gT, asT, at3, List.set_cons_zero, List.set_cons_succ, Option.some.injEq, exists_eq_left', D.bl.injEq, D.int.injEq, D.tup.injEq, List.length_cons, List.length_nil, Nat.reduceAdd, true_and, if_true, if_false, Bool.false_eq_true, reduceIte, ite_true, ite_false, len_t0, len_t1, len_t2, len_t3, len_l0, len_l1, eqI, neI, Int.reduceBEq, Int.reduceLT, Int.reduceLE, Int.reduceNeg, decide_true, decide_false, Bool.not_true, Bool.not_false, ix0, ix1, ix2, and_true, and_self]
        by_cases hl : a < (cs.length : Int)
        · have hl' : decide (a < (cs.length : Int)) = true := by simpa using hl
          simp only [hl', if_true]
          have hget : (cs.map D.int)[a.toNat]? = some (.int (cs.getD a.toNat 0)) := by
            rw [List.getElem?_map, List.getD_eq_getElem?_getD, List.getElem?_eq_getElem (by omega)]
            rfl
          have hix := atD_nat hget
          rw [Int.toNat_of_nonneg ha] at hix
          simp only [ixr0 hG, ixr1 hG, wExpr, wRaise, gSb, wSeq, wNext, wRet, wRetN, wExpr, wIfS, wSet, wAsg, wPar, wAug, w1, w2, wA, aNil, aCons, wVar, wVarT, wC, tOfW, w3c, wAnd, wOr, wNot, tAnd3, tOr3, tNot3, wIf, wTup, wLst, wLstO, wCall, wSl, pNone, pSome, wipe3, List.map_cons, List.map_nil, fI2, fI2C, fI1, fAbs, addI, mulI, intI, eqS, neS, isN_, notN_, L3.isNon, gN, gsN, gsC, gT, asT, at3, List.set_cons_zero, List.set_cons_succ, Option.some.injEq, exists_eq_left', D.bl.injEq, D.int.injEq, D.tup.injEq, List.length_cons, List.length_nil, Nat.reduceAdd, true_and, if_true, if_false, Bool.false_eq_true, reduceIte, ite_true, ite_false, len_t0, len_t1, len_t2, len_t3, len_l0, len_l1, eqI, neI, Int.reduceBEq, Int.reduceLT, Int.reduceLE, Int.reduceNeg, decide_true, decide_false, Bool.not_true, Bool.not_false, ix0, ix1, ix2, and_true, and_self]
          unfold ilD
          rw [ix_lst hix]
          generalize cs.getD a.toNat 0 = v
          simp only [ixr1 hG, wExpr, wRaise, gSb, wSeq, wNext, wRet, wRetN, wExpr, wIfS, wSet, wAsg, wPar, wAug, w1, w2, wA, aNil, aCons, wVar, wVarT, wC, tOfW, w3c, wAnd, wOr, wNot, tAnd3, tOr3, tNot3, wIf, wTup, wLst, wLstO, wCall, wSl, pNone, pSome, wipe3, List.map_cons, List.map_nil, fI2, fI2C, fI1, fAbs, addI, mulI, intI, eqS, neS, isN_, notN_, L3.isNon, gN, gsN, gsC, gT, asT, at3, List.set_cons_zero, List.set_cons_succ, Option.some.injEq, exists_eq_left', D.bl.injEq, D.int.injEq, D.tup.injEq, List.length_cons, List.length_nil, Nat.reduceAdd, true_and, if_true, if_false, Bool.false_eq_true, reduceIte, ite_true, ite_false, len_t0, len_t1, len_t2, len_t3, len_l0, len_l1, eqI, neI, Int.reduceBEq, Int.reduceLT, Int.reduceLE, Int.reduceNeg, decide_true, decide_false, Bool.not_true, Bool.not_false, ix0, ix1, ix2, and_true, and_self]
          rw [set_ref (i := 1) 1 rfl (by simp) hG]
          simp only [List.set_cons_zero, List.set_cons_succ]
          have hG2 : gset G p (.lst [ilD cs, .int (a + 1), .int b, .int c, .int d]) p = some (.lst [ilD cs, .int (a + 1), .int b, .int c, .int d]) := gset_same
          simp only [ixr3 hG2, wExpr, wRaise, gSb, wSeq, wNext, wRet, wRetN, wExpr, wIfS, wSet, wAsg, wPar, wAug, w1, w2, wA, aNil, aCons, wVar, wVarT, wC, tOfW, w3c, wAnd, wOr, wNot, tAnd3, tOr3, tNot3, wIf, wTup, wLst, wLstO, wCall, wSl, pNone, pSome, wipe3, List.map_cons, List.map_nil, fI2, fI2C, fI1, fAbs, addI, mulI, intI, eqS, neS, isN_, notN_, L3.isNon, gN, gsN, gsC, gT, asT, at3, List.set_cons_zero, List.set_cons_succ, Option.some.injEq, exists_eq_left', D.bl.injEq, D.int.injEq, D.tup.injEq, List.length_cons, List.length_nil, Nat.reduceAdd, true_and, if_true, if_false, Bool.false_eq_true, reduceIte, ite_true, ite_false, len_t0, len_t1, len_t2, len_t3, len_l0, len_l1, eqI, neI, Int.reduceBEq, Int.reduceLT, Int.reduceLE, Int.reduceNeg, decide_true, decide_false, Bool.not_true, Bool.not_false, ix0, ix1, ix2, and_true, and_self]
          refine ⟨mulR (by decide) (by decide), by decide, ?_⟩
          rw [set_ref (i := 3) 3 rfl (by simp) hG2]
          simp only [List.set_cons_zero, List.set_cons_succ]
          generalize hc' : (c * 69621 + v + 29).fmod 2147483629 = c'
          have hG3 : gset (gset G p (.lst [ilD cs, .int (a + 1), .int b, .int c, .int d])) p (.lst [ilD cs, .int (a + 1), .int b, .int c', .int d]) p = some (.lst [ilD cs, .int (a + 1), .int b, .int c', .int d]) := gset_same
          refine ⟨⟨by decide, by decide, by decide⟩, ?_⟩
          cases hv : decide (v ≥ (10 : Int) ^ (18 : Int).toNat) with
          | false =>
            simp only [Bool.false_eq_true, if_false]
            exact hN _ _ ⟨_, _, _, rfl, ⟨cs, _, b, c', d, by omega, hcs, hG3⟩, (Apart.refl.gset).gset⟩
          | true =>
            simp only [if_true, wExpr, wRaise, gSb, wSeq, wNext, wRet, wRetN, wExpr, wIfS, wSet, wAsg, wPar, wAug, w1, w2, wA, aNil, aCons, wVar, wVarT, wC, tOfW, w3c, wAnd, wOr, wNot, tAnd3, tOr3, tNot3, wIf, wTup, wLst, wLstO, wCall, wSl, pNone, pSome, wipe3, List.map_cons, List.map_nil, fI2, fI2C, fI1, fAbs, addI, mulI, intI, eqS, neS, isN_, notN_, L3.isNon, gN, gsN, gsC, gT, asT, at3, List.set_cons_zero, List.set_cons_succ, Option.some.injEq, exists_eq_left', D.bl.injEq, D.int.injEq, D.tup.injEq, List.length_cons, List.length_nil, Nat.reduceAdd, true_and, if_true, if_false, Bool.false_eq_true, reduceIte, ite_true, ite_false, len_t0, len_t1, len_t2, len_t3, len_l0, len_l1, eqI, neI, Int.reduceBEq, Int.reduceLT, Int.reduceLE, Int.reduceNeg, decide_true, decide_false, Bool.not_true, Bool.not_false, ix0, ix1, ix2, and_true, and_self]
            rw [set_ref (i := 2) 2 rfl (by simp) hG3]
            exact hN _ _ ⟨_, _, _, rfl, ⟨cs, _, v, c', d, by omega, hcs, gset_same⟩, ((Apart.refl.gset).gset).gset⟩
        · have hl' : decide (a < (cs.length : Int)) = false := by simpa using hl
          simp only [hl', Bool.false_eq_true, if_false]
          exact hN _ _ ⟨_, _, _, rfl, ⟨cs, a, b, c, d, ha, hcs, hG0⟩, .refl⟩
end

end K69

set_option Elab.async false
set_option linter.all false
set_option maxRecDepth 100000
set_option maxHeartbeats 0
namespace K69
open PySem PySem.Spec L2 L3
open PyProof.Rows hiding St
theorem cut_map {l : List Int} {lo hi : Option Int} : ∃ m : List Int, L3.cutD (l.map D.int) lo hi = m.map D.int ∧ m.length ≤ l.length := by
  refine ⟨(l.drop (HT.sIx l.length 0 lo)).take (HT.sIx l.length l.length hi - HT.sIx l.length 0 lo), ?_, ?_⟩
  · unfold L3.cutD
    rw [List.length_map, List.map_take, List.map_drop]
  · rw [List.length_take, List.length_drop]
    omega
section
variable {P : Program} {w : World} {K : PySem.W.Frag} {mg : Str → Option Value} {base : Heap}
def S_hand : SP3 := fun ds G R _ => match ds with
  | [x] => ∃ ns : List Int, x = .lsx (ns.map D.int) ∧ ns.length ≤ 4000 ∧ ∀ p G', HandOk G' p → Apart p G G' → G p = none → R (.ref p) G'
  | _ => False
theorem ok_hand (T : Tx K mg) : Good P w K mg base "_law_hand" ["script"] 1 S_hand := by
  refine good_of (d__law_hand T) sc__law_hand fun f cd A outer s H E hp tk hgd hr => ⟨_, (s_cons (s_setLc 1 [("cell", 2)] rfl sc__law_hand.nd rfl rfl (sw_true rfl rfl rfl (by kernel_rfl)) (i_lst (c_slice (c_var 0) p_none (p_some c_int))) (blkOk_by (by kernel_rfl)) (by decide) (fun _ _ _ _ _ => (g_name 2 sc__law_hand.nd rfl (.inl rfl))) (fun _ _ _ _ _ => ts_nil) (fun _ _ _ _ _ => (c_callB call_abs lift_abs (n_abs T) (a_cons (c_callT call_int1 lift_int (n_int T) (a_cons (c_var 2) a_nil)) a_nil))))
      (s_one (s_ret (c_lstO (a_cons (c_var 1) (a_cons c_int (a_cons c_int (a_cons (c_op op_add3 lift_add c_int (c_op op_mul3 lift_mul c_int (c_callB call_len lift_len (n_len T) (a_cons (c_var 1) a_nil)))) (a_cons c_int a_nil))))))))), fun ds G R Ex hlen hS => ?_⟩
  clear hp tk hgd hr hlen
  match ds, hS with
  | [x], ⟨ns, e, hn, hR⟩ =>
    subst e
    rw [show start3 ["script", "cells", "cell"] [.lsx (ns.map D.int)] = [some (.lsx (ns.map D.int)), none, none] from rfl]
    obtain ⟨m, hm, hml⟩ := cut_map (l := ns) (lo := none) (hi := some 63)
    simp only [wExpr, wRaise, gSb, wSeq, wNext, wRet, wRetN, wExpr, wIfS, wSet, wAsg, wPar, wAug, w1, w2, wA, aNil, aCons, wVar, wVarT, wC, tOfW, w3c, wAnd, wOr, wNot, tAnd3, tOr3, tNot3, wIf, wTup, wLst, wLstO, wCall, wSl, pNone, pSome, wipe3, List.map_cons, List.map_nil, fI2, fI2C, fI1, fAbs, addI, mulI, intI, eqS, neS, isN_, notN_, L3.isNon, gN, gsN, gsC, gT, asT, at3, List.set_cons_zero, List.set_cons_succ, Option.some.injEq, exists_eq_left', D.bl.injEq, D.int.injEq, D.tup.injEq, List.length_cons, List.length_nil, Nat.reduceAdd, true_and, if_true, if_false, Bool.false_eq_true, reduceIte, ite_true, ite_false, len_t0, len_t1, len_t2, len_t3, len_l0, len_l1, eqI, neI, Int.reduceBEq, Int.reduceLT, Int.reduceLE, Int.reduceNeg, decide_true, decide_false, Bool.not_true, Bool.not_false, ix0, ix1, ix2, and_true, and_self]
    refine wLc_it (ds := m.map D.int) (fun d => match d with
      | .int i => .int (if i < 0 then -i else i)
      | d => d) rfl (by rw [List.length_map, sizeLine_eq]; omega) (fun Kt hK => ?_) ?_ ?_
    · simp only [wExpr, wRaise, gSb, wSeq, wNext, wRet, wRetN, wExpr, wIfS, wSet, wAsg, wPar, wAug, w1, w2, wA, aNil, aCons, wVar, wVarT, wC, tOfW, w3c, wAnd, wOr, wNot, tAnd3, tOr3, tNot3, wIf, wTup, wLst, wLstO, wCall, wSl, pNone, pSome, wipe3, List.map_cons, List.map_nil, fI2, fI2C, fI1, fAbs, addI, mulI, intI, eqS, neS, isN_, notN_, L3.isNon, gN, gsN, gsC, gT, asT, at3, List.set_cons_zero, List.set_cons_succ, Option.some.injEq, exists_eq_left', D.bl.injEq, D.int.injEq, D.tup.injEq, List.length_cons, List.length_nil, Nat.reduceAdd, true_and, if_true, if_false, Bool.false_eq_true, reduceIte, ite_true, ite_false, len_t0, len_t1, len_t2, len_t3, len_l0, len_l1, eqI, neI, Int.reduceBEq, Int.reduceLT, Int.reduceLE, Int.reduceNeg, decide_true, decide_false, Bool.not_true, Bool.not_false, ix0, ix1, ix2, and_true, and_self, iLst, fSl]
      exact ⟨_, rfl, m.map D.int, by rw [← hm]; rfl, hK _ fun _ _ => trivial⟩
    · intro d hd p acc Q hp hQ
      obtain ⟨i, _, rfl⟩ := List.mem_map.mp hd
      simp only [wExpr, wRaise, gSb, wSeq, wNext, wRet, wRetN, wExpr, wIfS, wSet, wAsg, wPar, wAug, w1, w2, wA, aNil, aCons, wVar, wVarT, wC, tOfW, w3c, wAnd, wOr, wNot, tAnd3, tOr3, tNot3, wIf, wTup, wLst, wLstO, wCall, wSl, pNone, pSome, wipe3, List.map_cons, List.map_nil, fI2, fI2C, fI1, fAbs, addI, mulI, intI, eqS, neS, isN_, notN_, L3.isNon, gN, gsN, gsC, gT, asT, at3, List.set_cons_zero, List.set_cons_succ, Option.some.injEq, exists_eq_left', D.bl.injEq, D.int.injEq, D.tup.injEq, List.length_cons, List.length_nil, Nat.reduceAdd, true_and, if_true, if_false, Bool.false_eq_true, reduceIte, ite_true, ite_false, len_t0, len_t1, len_t2, len_t3, len_l0, len_l1, eqI, neI, Int.reduceBEq, Int.reduceLT, Int.reduceLE, Int.reduceNeg, decide_true, decide_false, Bool.not_true, Bool.not_false, ix0, ix1, ix2, and_true, and_self]
      exact hQ
    · have e2 : ((m.map D.int).map fun d => match d with
          | .int i => D.int (if i < 0 then -i else i)
          | d => d) = (m.map fun i : Int => if i < 0 then -i else i).map D.int := by
        rw [List.map_map, List.map_map]
        rfl
      rw [e2]
      generalize hcs : (m.map fun i : Int => if i < 0 then -i else i) = cs
      have hcl : cs.length ≤ 4000 := by
        rw [← hcs, List.length_map]
        omega
      simp only [wExpr, wRaise, gSb, wSeq, wNext, wRet, wRetN, wExpr, wIfS, wSet, wAsg, wPar, wAug, w1, w2, wA, aNil, aCons, wVar, wVarT, wC, tOfW, w3c, wAnd, wOr, wNot, tAnd3, tOr3, tNot3, wIf, wTup, wLst, wLstO, wCall, wSl, pNone, pSome, wipe3, List.map_cons, List.map_nil, fI2, fI2C, fI1, fAbs, addI, mulI, intI, eqS, neS, isN_, notN_, L3.isNon, gN, gsN, gsC, gT, asT, at3, List.set_cons_zero, List.set_cons_succ, Option.some.injEq, exists_eq_left', D.bl.injEq, D.int.injEq, D.tup.injEq, List.length_cons, List.length_nil, Nat.reduceAdd, true_and, if_true, if_false, Bool.false_eq_true, reduceIte, ite_true, ite_false, len_t0, len_t1, len_t2, len_t3, len_l0, len_l1, eqI, neI, Int.reduceBEq, Int.reduceLT, Int.reduceLE, Int.reduceNeg, decide_true, decide_false, Bool.not_true, Bool.not_false, ix0, ix1, ix2, and_true, and_self, len_lst, List.length_map]
      refine ⟨mulR (by omega) (by omega), sizeLine_eq ▸ (by decide), fun p hp => hR p _ ⟨cs, 0, 0, _, 0, Int.le_refl 0, hcl, gset_same⟩ (Apart.refl.gset) hp⟩
def S_some : SP3 := fun ds G R _ => match ds with
  | [x, y] => ∃ (p : Addr) (es : List D), x = .ref p ∧ y ≠ .ref p ∧ HandOk G p ∧ asS G y = some es ∧ 0 < es.length ∧ es.length < 4000 ∧ ∀ d G', d ∈ es → HandOk G' p → Apart p G G' → R d G'
  | _ => False
theorem len_seq {y : D} {es : List D} {G : GH} {R : K3} (h : asS G y = some es) (q : R (.int es.length) G) : fLen [y] G R := by
  cases y with
  | str z => cases h
  | _ => exact ⟨es, h, q⟩
theorem ix_seq3 {y d : D} {es : List D} {i : Int} {G : GH} {R : K3} (h : asS G y = some es) (hi : atD es i = some d) (q : R d G) : fIx y (.int i) G R := by
  cases y with
  | str z => cases h
  | _ => exact ⟨es, d, h, hi, q⟩
theorem ok_some (T : Tx K mg) : Good P w K mg base "_law_some" ["hand", "things"] 2 S_some := by
  have g__law_draw := ok_draw (P := P) (w := w) (base := base) T
  refine good_of (d__law_some T) sc__law_some fun f cd A outer s H E hp tk hgd hr => ⟨_, (s_one (s_ret (c_ix (c_var 1) (c_call g__law_draw (hr.mono (by omega)) hgd tk (a_cons (c_var 0) (a_cons (c_callB call_len lift_len (n_len T) (a_cons (c_var 1) a_nil)) a_nil)))))), fun ds G R Ex hlen hS => ?_⟩
  clear hp tk hgd hr hlen
  match ds, hS with
  | [x, y], ⟨p, es, e, hy, hH, hs, h0, h1, hR⟩ =>
    subst e
    rw [show start3 ["hand", "things"] [.ref p, y] = [some (.ref p), some (y)] from rfl]
    simp only [wExpr, wRaise, gSb, wSeq, wNext, wRet, wRetN, wExpr, wIfS, wSet, wAsg, wPar, wAug, w1, w2, wA, aNil, aCons, wVar, wVarT, wC, tOfW, w3c, wAnd, wOr, wNot, tAnd3, tOr3, tNot3, wIf, wTup, wLst, wLstO, wCall, wSl, pNone, pSome, wipe3, List.map_cons, List.map_nil, fI2, fI2C, fI1, fAbs, addI, mulI, intI, eqS, neS, isN_, notN_, L3.isNon, gN, gsN, gsC, gT, asT, at3, List.set_cons_zero, List.set_cons_succ, Option.some.injEq, exists_eq_left', D.bl.injEq, D.int.injEq, D.tup.injEq, List.length_cons, List.length_nil, Nat.reduceAdd, true_and, if_true, if_false, Bool.false_eq_true, reduceIte, ite_true, ite_false, len_t0, len_t1, len_t2, len_t3, len_l0, len_l1, eqI, neI, Int.reduceBEq, Int.reduceLT, Int.reduceLE, Int.reduceNeg, decide_true, decide_false, Bool.not_true, Bool.not_false, ix0, ix1, ix2, and_true, and_self, S_draw]
    refine len_seq hs ⟨p, es.length, rfl, rfl, hH, by omega, by omega, fun r G' hr1 hr2 hH' hA => ?_⟩
    have hg : es[r.toNat]? = some (es[r.toNat]'(by omega)) := List.getElem?_eq_getElem _
    have hi := atD_nat hg
    rw [Int.toNat_of_nonneg hr1] at hi
    exact ix_seq3 (hA.asS hy hs) hi (hR _ _ (List.getElem_mem _) hH' hA)
end

end K69

set_option Elab.async false
set_option linter.all false
set_option maxRecDepth 100000
set_option maxHeartbeats 0
namespace K69
open PySem PySem.Spec L2 L3
open PyProof.Rows hiding St
section
variable {P : Program} {w : World} {K : PySem.W.Frag} {mg : Str → Option Value} {base : Heap}
theorem whl_frac {E : E3} {G : GH} {tt : T3} {bb : S3} {v0 v1 : Option D} (Hyp : ∀ (a b : Int), 0 ≤ b → Bd a → Bd b → ∀ (n : Nat) (E : E3), (b = 0 → E.nx [v0, v1, some (.int a), some (.int b)] G) → (0 < b → whl tt bb E n [v0, v1, some (.int b), some (.int (a.fmod b))] G) → whl tt bb E (n + 1) [v0, v1, some (.int a), some (.int b)] G) :
    ∀ (m : Nat) (a b : Int), b.natAbs ≤ m → 0 ≤ a → 0 ≤ b → Bd a → Bd b → (∀ x : Int, x = (Int.gcd a b : Nat) → Bd x → E.nx [v0, v1, some (.int x), some (.int 0)] G) → whl tt bb E (m + 1) [v0, v1, some (.int a), some (.int b)] G
  | 0, a, b, h1, h0, h2, h3, h4, h5 => by
    have e : b = 0 := by omega
    subst e
    exact Hyp a 0 h2 h3 h4 0 E (fun _ => h5 a (by rw [Int.gcd_zero]; omega) h3) (fun z => by omega)
  | m + 1, a, b, h1, h0, h2, h3, h4, h5 => by
    refine Hyp a b h2 h3 h4 (m + 1) E (fun e => ?_) (fun hb => ?_)
    · subst e
      exact h5 a (by rw [Int.gcd_zero]; omega) h3
    · obtain ⟨e1, e2, e3⟩ := euclid (a := a) hb
      have ef : a - a.fdiv b * b = a.fmod b := by
        have := Int.fdiv_mul_self a b
        omega
      rw [ef] at e1 e2 e3
      refine whl_frac Hyp m b _ (by omega) h2 e2 h4 (h4.le (by omega)) fun x hx bx => h5 x (by rw [← e1]; exact hx) bx
def S_plus : SP3 := fun ds G R _ => match ds with
  | [x, y] => ∃ (p q : Fr) (n : Nat), x = frO p ∧ y = frO q ∧ n ≤ 50 ∧ Sz n p ∧ PtOk q ∧ R (frO (plusP p q)) G
  | _ => False
theorem okEq_two {a b : Int} : okEq (.tup [.int a, .int b]) = true := by
  unfold okEq
  rw [Bool.and_eq_true]
  exact ⟨rfl, rfl⟩
theorem eq_two {a b c d : Int} {G : GH} {R : K3} (h : R (.bl ((a == c) && (b == d))) G) : fEq (.tup [.int a, .int b]) (.tup [.int c, .int d]) G R := by
  refine ⟨okEq_two, okEq_two, ?_⟩
  have e : eq3 (.tup [.int a, .int b]) (.tup [.int c, .int d]) = ((a == c) && (b == d)) := by
    unfold eq3
    simp only [toPy, toPyL, PyData.eqv, PyData.eqvAll, Bool.and_true]
  rw [e]
  exact h
end

end K69

set_option Elab.async false
set_option linter.all false
set_option maxRecDepth 100000
set_option maxHeartbeats 0
namespace K69
open PySem PySem.Spec L2 L3
open PyProof.Rows hiding St
/-! ### lists drawn -/
def EachR {α : Type} (Pr : α → D → Prop) : List α → List D → Prop
  | [], [] => True
  | d :: l, y :: ys => Pr d y ∧ EachR Pr l ys
  | _, _ => False
theorem lcD {α : Type} {st : GH → Prop} {g : G3} {te : W3} {env : Env3} {G0 : GH} {p q : Addr} {R : List D → GH → Prop} (h : α → D) (Pr : α → D → Prop) (hq0 : G0 q = none) (hqp : q ≠ p) (hst : ∀ G', HandOk G' p → Apart p G0 G' → st G') : ∀ (l : List α) (acc : List D) (G : GH), HandOk G p → Apart p G0 G → G q = some (.lst acc) →
    (∀ d ∈ l, ∀ (acc : List D) (G1 : GH) (Q : K3), HandOk G1 p → Apart p G0 G1 → G1 q = some (.lst acc) → (∀ y G', Pr d y → HandOk G' p → Apart p G1 G' → Q y G') → g (h d) env G1 fun env2 G2 => te env2 G2 Q noX) → acc.length + l.length ≤ sizeLine →
    (∀ ys G', EachR Pr l ys → HandOk G' p → Apart p G0 G' → G' q = some (.lst (acc ++ ys)) → R (acc ++ ys) G') → lc st g tYes3 te env q R (l.map h) acc G
  | [], acc, G, hH, hA, hq, _, _, fin => ⟨hst _ hH hA, hq, by
    have := fin [] G trivial hH hA (by rw [List.append_nil]; exact hq)
    rw [List.append_nil] at this
    exact this⟩
  | d :: l, acc, G, hH, hA, hq, step, len, fin => by
    rw [List.length_cons] at len
    refine ⟨hst _ hH hA, hq, ?_⟩
    refine step d List.mem_cons_self acc G _ hH hA hq fun y G' hy hH' hA' => ?_
    have hq' : G' q = some (.lst acc) := (hA' q hqp (by rw [hq]; simp)).trans hq
    refine ⟨hq', by omega, ?_⟩
    have hA2 : Apart p G0 (gset G' q (.lst (acc ++ [y]))) := by
      intro r hr hk
      rw [gset_ne (fun e => hk (by rw [e]; exact hq0))]
      exact (hA.trans hA') r hr hk
    refine lcD h Pr hq0 hqp hst l (acc ++ [y]) _ (hH'.new hqp) hA2 gset_same (fun d' h' => step d' (List.mem_cons_of_mem _ h')) (by rw [List.length_append, List.length_singleton]; omega) fun ys G2 he hH2 hA3 hq2 => ?_
    rw [List.append_assoc] at hq2 ⊢
    exact fin (y :: ys) G2 ⟨hy, he⟩ hH2 hA3 hq2
section
variable {α : Type} {it : I3} {g : G3} {te : W3} {env env' : Env3} {G : GH} {R : K3} {Ex : X3} {vs : List Nat} {l : List α} {p : Addr}
theorem wLcD (h : α → D) (Pr : α → D → Prop) (hH : HandOk G p) (he : wipe3 env vs = env') (hl : l.length ≤ 1000000)
    (hit : ∀ Kt : List D → (GH → Prop) → GH → Prop, Kt (l.map h) (fun _ => True) G → it env G Kt Ex)
    (step : ∀ d ∈ l, ∀ (G1 : GH) (Q : K3), HandOk G1 p → Apart p G G1 → (∀ y G', Pr d y → HandOk G' p → Apart p G1 G' → Q y G') → g (h d) env' G1 fun env2 G2 => te env2 G2 Q noX)
    (fin : ∀ ys G', EachR Pr l ys → HandOk G' p → Apart p G G' → R (.lst ys) G') : wLc it g tYes3 te vs env G R Ex := by
  refine hit _ ?_
  rw [he]
  intro q hq
  have hqp : q ≠ p := hH.ne hq
  refine lcD h Pr hq hqp (fun _ _ _ => trivial) l [] _ (hH.new hqp) ((Apart.refl).new hq) gset_same (fun d hd acc G1 Q h1 h2 h3 => step d hd G1 Q h1 h2) (by simpa using size_small hl) fun ys G' hy h1 h2 h3 => ?_
  rw [List.nil_append]
  exact fin ys _ hy (h1.del hqp) (h2.del hq)
theorem wLcDO (h : α → D) (Pr : α → D → Prop) (hH : HandOk G p) (he : wipe3 env vs = env') (hl : l.length ≤ 1000000)
    (hit : ∀ Kt : List D → (GH → Prop) → GH → Prop, Kt (l.map h) (fun _ => True) G → it env G Kt Ex)
    (step : ∀ d ∈ l, ∀ (G1 : GH) (Q : K3), HandOk G1 p → Apart p G G1 → (∀ y G', Pr d y → HandOk G' p → Apart p G1 G' → Q y G') → g (h d) env' G1 fun env2 G2 => te env2 G2 Q noX)
    (fin : ∀ q ys G', EachR Pr l ys → HandOk G' p → Apart p G G' → G q = none → G' q = some (.lst ys) → R (.ref q) G') : wLcO it g tYes3 te vs env G R Ex := by
  refine hit _ ?_
  rw [he]
  intro q hq
  have hqp : q ≠ p := hH.ne hq
  refine lcD h Pr hq hqp (fun _ _ _ => trivial) l [] _ (hH.new hqp) ((Apart.refl).new hq) gset_same (fun d hd acc G1 Q h1 h2 h3 => step d hd G1 Q h1 h2) (by simpa using size_small hl) fun ys G' hy h1 h2 h3 => ?_
  rw [List.nil_append] at h3
  exact fin q ys G' hy h1 h2 hq h3
end
/-- whole numbers drawn for the first so many places -/
theorem each_ints {Pr : Nat → Int → Prop} : ∀ {n k : Nat} {ys : List D}, EachR (fun (i : Nat) y => ∃ z : Int, y = .int z ∧ Pr i z) ((List.range n).map (· + k)) ys → ∃ ns : List Int, ys = ns.map D.int ∧ ns.length = n ∧ ∀ i z, ns[i]? = some z → Pr (i + k) z
  | 0, k, [], _ => ⟨[], rfl, rfl, fun i z h => by simp at h⟩
  | 0, k, y :: ys, h => by cases h
  | n + 1, k, ys, h => by
    rw [List.range_succ_eq_map, List.map_cons, List.map_map] at h
    match ys, h with
    | y :: ys, ⟨⟨z, e, hz⟩, h2⟩ =>
      have e2 : (List.range n).map ((· + k) ∘ Nat.succ) = (List.range n).map (· + (k + 1)) := by
        refine List.map_congr_left fun i _ => ?_
        show i + 1 + k = i + (k + 1)
        omega
      rw [e2] at h2
      obtain ⟨ns, rfl, hl, hp⟩ := each_ints (n := n) (k := k + 1) h2
      refine ⟨z :: ns, by rw [e]; rfl, by rw [List.length_cons, hl], fun i w hw => ?_⟩
      cases i with
      | zero =>
        rw [List.getElem?_cons_zero] at hw
        cases hw
        exact hz
      | succ i =>
        rw [List.getElem?_cons_succ] at hw
        have := hp i w hw
        rw [show i + 1 + k = i + (k + 1) by omega]
        exact this
theorem each_ints0 {Pr : Nat → Int → Prop} {n : Nat} {ys : List D} (h : EachR (fun (i : Nat) y => ∃ z : Int, y = .int z ∧ Pr i z) (List.range n) ys) : ∃ ns : List Int, ys = ns.map D.int ∧ ns.length = n ∧ ∀ i z, ns[i]? = some z → Pr i z := by
  have e : (List.range n).map (· + 0) = List.range n := by
    rw [show (fun x : Nat => x + 0) = id from rfl, List.map_id]
  rw [← e] at h
  exact each_ints h

end K69

set_option Elab.async false
set_option linter.all false
set_option maxRecDepth 100000
set_option maxHeartbeats 0
namespace K69
open PySem PySem.Spec L2 L3
open PyProof.Rows hiding St
/-! ### the law's fractions -/
theorem whl_cut {E : E3} {G : GH} {tt : T3} {bb : S3} {v0 v1 : Option D} (Hyp : ∀ (a b : Int), 0 ≤ b → Bd a → Bd b → ∀ (n : Nat) (E : E3), (b = 0 → E.nx [v0, v1, some (.int a), some (.int b)] G) → (0 < b → whl tt bb E n [v0, v1, some (.int b), some (.int (a.fmod b))] G) → whl tt bb E (n + 1) [v0, v1, some (.int a), some (.int b)] G) :
    ∀ (m : Nat) (a b : Int), b.natAbs ≤ m → 0 ≤ b → Bd a → Bd b → (∀ x : Int, x.natAbs = Int.gcd a b → Bd x → E.nx [v0, v1, some (.int x), some (.int 0)] G) → whl tt bb E (m + 1) [v0, v1, some (.int a), some (.int b)] G
  | 0, a, b, h1, h2, h3, h4, h5 => by
    have e : b = 0 := by omega
    subst e
    exact Hyp a 0 h2 h3 h4 0 E (fun _ => h5 a (by simp) h3) (fun z => by omega)
  | m + 1, a, b, h1, h2, h3, h4, h5 => by
    refine Hyp a b h2 h3 h4 (m + 1) E (fun e => ?_) (fun hb => ?_)
    · subst e
      exact h5 a (by simp) h3
    · obtain ⟨e1, e2, e3⟩ := euclid (a := a) hb
      have ef : a - a.fdiv b * b = a.fmod b := by
        have := Int.fdiv_mul_self a b
        omega
      rw [ef] at e1 e2 e3
      refine whl_cut Hyp m b _ (by omega) e2 h4 (h4.le (by omega)) fun x hx bx => h5 x (by rw [← e1]; exact hx) bx
section
variable {P : Program} {w : World} {K : PySem.W.Frag} {mg : Str → Option Value} {base : Heap}
theorem ok_lcut (T : Tx K mg) : Good P w K mg base "_law_cut" ["n", "d"] 1 S_fraction := by
  refine good_of (d__law_cut T) sc__law_cut fun f cd A outer s H E hp tk hgd hr => ⟨_, (s_cons (s_par 2 3 rfl sc__law_cut.nd rfl rfl (by decide) rfl rfl (a_cons (c_var 0) (a_cons (c_var 1) a_nil)) rfl)
      (s_cons (s_while hp (t_cmp (op_ne3 hr.units) lift_ne (c_var 3) c_int) (s_one (s_par 2 3 rfl sc__law_cut.nd rfl rfl (by decide) rfl rfl (a_cons (c_var 3) (a_cons (c_op op_modG lift_I2C (c_callT call_int1 lift_int (n_int T) (a_cons (c_var 2) a_nil)) (c_var 3)) a_nil)) rfl)))
      (s_cons (s_set 2 sc__law_cut.nd rfl (.inl rfl) rfl (c_callB call_abs lift_abs (n_abs T) (a_cons (c_var 2) a_nil)))
      (s_one (s_ret (c_if (t_cmp op_gt lift_I2b (c_var 1) c_int) (c_tup (a_cons (c_op op_fdivG lift_I2C (c_var 0) (c_var 2)) (a_cons (c_op op_fdivG lift_I2C (c_var 1) (c_var 2)) a_nil))) (c_tup (a_cons (c_op op_sub lift_I2i c_int (c_op op_fdivG lift_I2C (c_var 0) (c_var 2))) (a_cons (c_op op_sub lift_I2i c_int (c_op op_fdivG lift_I2C (c_var 1) (c_var 2))) a_nil))))))))), fun ds G R Ex hlen hS => ?_⟩
  clear hp tk hgd hr hlen
  match ds, hS with
  | [.int n, .int d], ⟨h1, h2, h3, h4⟩ =>
    rw [show start3 ["n", "d", "one", "other"] [.int n, .int d] = [some (.int n), some (.int d), none, none] from rfl]
    simp only [wExpr, wRaise, gSb, wSeq, wNext, wRet, wRetN, wExpr, wIfS, wSet, wAsg, wPar, wAug, w1, w2, wA, aNil, aCons, wVar, wVarT, wC, tOfW, w3c, wAnd, wOr, wNot, tAnd3, tOr3, tNot3, wIf, wTup, wLst, wLstO, wCall, wSl, pNone, pSome, wipe3, List.map_cons, List.map_nil, fI2, fI2C, fI1, fAbs, addI, mulI, intI, eqS, neS, isN_, notN_, L3.isNon, gN, gsN, gsC, gT, asT, at3, List.set_cons_zero, List.set_cons_succ, Option.some.injEq, exists_eq_left', D.bl.injEq, D.int.injEq, D.tup.injEq, List.length_cons, List.length_nil, Nat.reduceAdd, true_and, if_true, if_false, Bool.false_eq_true, reduceIte, ite_true, ite_false, len_t0, len_t1, len_t2, len_t3, len_l0, len_l1, eqI, neI, Int.reduceBEq, Int.reduceLT, Int.reduceLE, Int.reduceNeg, decide_true, decide_false, Bool.not_true, Bool.not_false, ix0, ix1, ix2, and_true, and_self, wWhile]
    refine ⟨d.natAbs + 1, whl_cut ?_ d.natAbs n d (Nat.le_refl _) (by omega) h2 h3 fun x hx bx => ?_⟩
    · intro a b hb _ hB k E he hg
      simp only [whl, wExpr, wRaise, gSb, wSeq, wNext, wRet, wRetN, wExpr, wIfS, wSet, wAsg, wPar, wAug, w1, w2, wA, aNil, aCons, wVar, wVarT, wC, tOfW, w3c, wAnd, wOr, wNot, tAnd3, tOr3, tNot3, wIf, wTup, wLst, wLstO, wCall, wSl, pNone, pSome, wipe3, List.map_cons, List.map_nil, fI2, fI2C, fI1, fAbs, addI, mulI, intI, eqS, neS, isN_, notN_, L3.isNon, gN, gsN, gsC, gT, asT, at3, List.set_cons_zero, List.set_cons_succ, Option.some.injEq, exists_eq_left', D.bl.injEq, D.int.injEq, D.tup.injEq, List.length_cons, List.length_nil, Nat.reduceAdd, true_and, if_true, if_false, Bool.false_eq_true, reduceIte, ite_true, ite_false, len_t0, len_t1, len_t2, len_t3, len_l0, len_l1, eqI, neI, Int.reduceBEq, Int.reduceLT, Int.reduceLE, Int.reduceNeg, decide_true, decide_false, Bool.not_true, Bool.not_false, ix0, ix1, ix2, and_true, and_self]
      by_cases z : b = 0
      · subst z
        simpa using he rfl
      · have zb : (b == 0) = false := by simpa using z
        simp only [zb, Bool.not_false, if_true]
        exact ⟨z, hg (by omega)⟩
    · have e : (if x < 0 then -x else x) = ((Int.gcd n d : Nat) : Int) := by
        rw [← hx]
        split <;> omega
      have gp := gcd_pos (n := n) h1
      have gb : Bd (Int.gcd n d : Nat) := by
        refine h3.le ?_
        have := Int.gcd_le_right n h1
        omega
      have zn : decide (d > 0) = true := by simpa using h1
      simp only [wExpr, wRaise, gSb, wSeq, wNext, wRet, wRetN, wExpr, wIfS, wSet, wAsg, wPar, wAug, w1, w2, wA, aNil, aCons, wVar, wVarT, wC, tOfW, w3c, wAnd, wOr, wNot, tAnd3, tOr3, tNot3, wIf, wTup, wLst, wLstO, wCall, wSl, pNone, pSome, wipe3, List.map_cons, List.map_nil, fI2, fI2C, fI1, fAbs, addI, mulI, intI, eqS, neS, isN_, notN_, L3.isNon, gN, gsN, gsC, gT, asT, at3, List.set_cons_zero, List.set_cons_succ, Option.some.injEq, exists_eq_left', D.bl.injEq, D.int.injEq, D.tup.injEq, List.length_cons, List.length_nil, Nat.reduceAdd, true_and, if_true, if_false, Bool.false_eq_true, reduceIte, ite_true, ite_false, len_t0, len_t1, len_t2, len_t3, len_l0, len_l1, eqI, neI, Int.reduceBEq, Int.reduceLT, Int.reduceLE, Int.reduceNeg, decide_true, decide_false, Bool.not_true, Bool.not_false, ix0, ix1, ix2, and_true, and_self, e, zn, if_true]
      refine ⟨gb.div (by omega), gb.div (by omega), sizeLine_eq ▸ (by decide), ?_⟩
      rw [Int.fdiv_eq_ediv_of_nonneg _ (Int.le_of_lt gp), Int.fdiv_eq_ediv_of_nonneg _ (Int.le_of_lt gp)]
      exact h4
end

end K69

set_option Elab.async false
set_option linter.all false
set_option maxRecDepth 100000
set_option maxHeartbeats 0
namespace K69
open PySem PySem.Spec L2 L3
open PyProof.Rows hiding St
/-! ### texts as lists of signs, numbers read -/
abbrev Sg (l : List Nat) : Str := SX.S l
def isDig (c : Nat) : Bool := decide (48 ≤ c) && decide (c ≤ 57)
def run : List Nat → Nat
  | [] => 0
  | c :: r => if isDig c = true then run r + 1 else 0
theorem run_cons {c : Nat} {r : List Nat} : run (c :: r) = if isDig c = true then run r + 1 else 0 := rfl
theorem run_le : ∀ (l : List Nat), run l ≤ l.length
  | [] => Nat.le_refl _
  | c :: r => by
    rw [run_cons]
    split
    · rw [List.length_cons]
      exact Nat.succ_le_succ (run_le r)
    · exact Nat.zero_le _
theorem run_dig : ∀ {l : List Nat} {j : Nat}, j < run l → ∃ c, l[j]? = some c ∧ isDig c = true
  | [], j, h => by cases h
  | c :: r, j, h => by
    rw [run_cons] at h
    split at h
    · rename_i hc
      cases j with
      | zero => exact ⟨c, rfl, hc⟩
      | succ j =>
        rw [List.getElem?_cons_succ]
        exact run_dig (by omega)
    · cases h
theorem run_stop : ∀ {l : List Nat} {c : Nat}, l[run l]? = some c → isDig c = false
  | [], c, h => by cases h
  | d :: r, c, h => by
    cases hc : isDig d with
    | true =>
      have e : run (d :: r) = run r + 1 := by rw [run_cons, if_pos hc]
      rw [e, List.getElem?_cons_succ] at h
      exact run_stop h
    | false =>
      have e : run (d :: r) = 0 := by rw [run_cons, if_neg (by rw [hc]; decide)]
      rw [e, List.getElem?_cons_zero] at h
      cases h
      exact hc
theorem run_all {l : List Nat} : ∀ c ∈ l.take (run l), isDig c = true := fun c hc => by
  obtain ⟨i, hi⟩ := List.getElem?_of_mem hc
  rw [List.getElem?_take] at hi
  split at hi
  · rename_i h
    obtain ⟨d, e, hd⟩ := run_dig h
    rw [e] at hi
    cases hi
    exact hd
  · cases hi
theorem run_app : ∀ {a : List Nat} (b : List Nat), (∀ c ∈ a, isDig c = true) → (∀ c, b.head? = some c → isDig c = false) → run (a ++ b) = a.length
  | [], [], _, _ => rfl
  | [], c :: b, _, h => by
    show run (c :: b) = 0
    rw [run_cons, if_neg (by rw [h c rfl]; decide)]
  | c :: a, b, h, k => by
    show run (c :: (a ++ b)) = _
    rw [run_cons, if_pos (h c List.mem_cons_self), run_app b (fun d hd => h d (List.mem_cons_of_mem _ hd)) k]
    rfl
/-- a whole number at the list's head: its value, its signs -/
def rdW (r : List Nat) : Option (Nat × Nat) := if run r = 0 ∨ 600 < run r ∨ (r.head? = some 48 ∧ 1 < run r) then none else some (NumText.digitsVal (r.take (run r)), run r)
def rdA (r : List Nat) : Option ((Nat × Nat) × Nat) := match rdW r with
  | none => none
  | some (n, k) => if (r.drop k).head? = some 47 then (match rdW (r.drop (k + 1)) with
      | none => none
      | some (m, j) => if m < 2 ∨ Nat.gcd n m ≠ 1 then none else some ((n, m), k + 1 + j)) else some ((n, 1), k)
def amW (w : List Nat) : Option (Nat × Nat) := match rdA w with
  | none => none
  | some (q, k) => if k = w.length then some q else none
def sgW (w : List Nat) : Option Fr := if w.head? = some 45 then (match amW (w.drop 1) with
    | none => none
    | some (n, d) => if 0 < n then some (-(n : Int), (d : Int)) else none) else (amW w).map fun q => ((q.1 : Int), (q.2 : Int))
theorem rdW_k {r : List Nat} {n k : Nat} (h : rdW r = some (n, k)) : k = run r ∧ n = NumText.digitsVal (r.take k) ∧ 1 ≤ k ∧ k ≤ 600 := by
  unfold rdW at h
  split at h
  · cases h
  · rename_i q
    cases h
    refine ⟨rfl, rfl, ?_, ?_⟩
    · rcases Nat.eq_zero_or_pos (run r) with z | z
      · exact absurd (.inl z) q
      · exact z
    · rcases Nat.lt_or_ge 600 (run r) with z | z
      · exact absurd (.inr (.inl z)) q
      · exact z
theorem val_lt : ∀ (l : List Nat) (acc k : Nat), (∀ c ∈ l, isDig c = true) → acc < 10 ^ k → l.foldl (fun acc c => acc * 10 + (c - 48)) acc < 10 ^ (k + l.length)
  | [], acc, k, _, h => h
  | c :: l, acc, k, hl, h => by
    have hc := hl c List.mem_cons_self
    unfold isDig at hc
    rw [Bool.and_eq_true, decide_eq_true_eq, decide_eq_true_eq] at hc
    rw [List.foldl_cons, List.length_cons, show k + (l.length + 1) = (k + 1) + l.length by omega]
    refine val_lt l _ (k + 1) (fun d hd => hl d (List.mem_cons_of_mem _ hd)) ?_
    rw [Nat.pow_succ]
    generalize 10 ^ k = P at *
    omega
theorem rdW_lt {r : List Nat} {n k : Nat} (h : rdW r = some (n, k)) : n < 10 ^ 600 := by
  obtain ⟨h1, h2, h3, h4⟩ := rdW_k h
  have a : ∀ c ∈ r.take k, isDig c = true := by rw [h1]; exact run_all
  have := val_lt (r.take k) 0 0 a (by decide)
  rw [h2]
  have hl : (r.take k).length ≤ 600 := by rw [List.length_take]; omega
  refine Nat.lt_of_lt_of_le this ?_
  rw [Nat.zero_add]
  exact Nat.pow_le_pow_right (by decide) hl
theorem ten_bd {n : Nat} (h : n < 10 ^ 601) : Bd (n : Int) := by
  unfold Bd
  rw [Int.natAbs_natCast]
  exact Nat.lt_trans h (Nat.lt_of_lt_of_le (show 10 ^ 601 < 2 ^ 2000 by decide +kernel) (Nat.pow_le_pow_right (by decide) (by decide)))

end K69

set_option Elab.async false
set_option linter.all false
set_option maxRecDepth 100000
set_option maxHeartbeats 0
namespace K69
open PySem PySem.Spec L2 L3
open PyProof.Rows hiding St
theorem cut_mid {L : List Nat} {a b : Nat} (h : a ≤ b) (hb : b ≤ L.length) : L2.cutS (Sg L) (some (a : Int)) (some (b : Int)) = Sg ((L.drop a).take (b - a)) := by
  unfold L2.cutS
  have e1 : HT.sIx (Sg L).length 0 (some (a : Int)) = a := by
    rw [HT.sIx_nat, SX.S_len]
    omega
  have e2 : HT.sIx (Sg L).length (Sg L).length (some (b : Int)) = b := by
    rw [HT.sIx_nat, SX.S_len]
    omega
  rw [e1, e2]
theorem cut_end {L : List Nat} {a : Nat} (h : a ≤ L.length) : L2.cutS (Sg L) (some (a : Int)) none = Sg (L.drop a) := by
  unfold L2.cutS
  have e1 : HT.sIx (Sg L).length 0 (some (a : Int)) = a := by
    rw [HT.sIx_nat, SX.S_len]
    omega
  rw [e1]
  show (⟨((Sg L).cps.toList.drop a |>.take ((Sg L).length - a)).toArray⟩ : Str) = _
  rw [SX.S_len, List.take_of_length_le (by show (L.drop a).length ≤ _; rw [List.length_drop]; omega)]
theorem whl_run {E : E3} {G : GH} {tt : T3} {bb : S3} {L : List Nat} {a : Nat} {v0 v1 v2 : Option D} (Hyp : ∀ (j : Nat) (n : Nat) (E : E3), j ≤ run (L.drop a) → j ≤ 601 → ((j = run (L.drop a) ∨ j = 601) → E.nx [v0, v1, v2, some (.int ((a + j : Nat) : Int))] G) →
      (j < run (L.drop a) → j ≤ 600 → whl tt bb E n [v0, v1, v2, some (.int ((a + (j + 1) : Nat) : Int))] G) → whl tt bb E (n + 1) [v0, v1, v2, some (.int ((a + j : Nat) : Int))] G) :
    ∀ (m j : Nat), min (run (L.drop a)) 601 - j ≤ m → j ≤ run (L.drop a) → j ≤ 601 → (∀ j, j = min (run (L.drop a)) 601 → E.nx [v0, v1, v2, some (.int ((a + j : Nat) : Int))] G) → whl tt bb E (m + 1) [v0, v1, v2, some (.int ((a + j : Nat) : Int))] G
  | 0, j, hm, h1, h2, h => Hyp j 0 E h1 h2 (fun _ => h j (by omega)) fun z1 z2 => by omega
  | m + 1, j, hm, h1, h2, h => Hyp j (m + 1) E h1 h2 (fun _ => h j (by omega)) fun z1 z2 => whl_run Hyp m (j + 1) (by omega) (by omega) (by omega) h
theorem dig_in {c : Nat} : decide (c ∈ ("0123456789" : Str).cps.toList) = isDig c := by
  have e : ("0123456789" : Str).cps.toList = [48, 49, 50, 51, 52, 53, 54, 55, 56, 57] := by decide +kernel
  rw [e]
  unfold isDig
  rw [Bool.eq_iff_iff, Bool.and_eq_true, decide_eq_true_eq, decide_eq_true_eq, decide_eq_true_eq]
  simp only [List.mem_cons, List.not_mem_nil, or_false]
  omega
theorem ix_sg {L : List Nat} {i : Nat} {c : Nat} {G : GH} {R : K3} (hl : L.length ≤ 1000000) (h : L[i]? = some c) (q : R (.str (Sg [c])) G) : fIx (.str (Sg L)) (.int (i : Nat)) G R := by
  refine ⟨c, size_small (by rw [SX.S_len]; exact hl), ?_, q⟩
  have hi := (List.getElem?_eq_some_iff.mp h).1
  show L2.atI L (i : Nat) = some c
  unfold L2.atI L2.ixN
  rw [if_pos (Int.natCast_nonneg i), if_pos (Int.ofNat_lt.mpr hi)]
  show L[((i : Nat) : Int).toNat]? = some c
  rw [Int.toNat_natCast, h]
theorem len_sg {L : List Nat} {G : GH} {R : K3} (hl : L.length ≤ 1000000) (q : R (.int (L.length : Nat)) G) : fLen [.str (Sg L)] G R := by
  refine ⟨size_small (by rw [SX.S_len]; exact hl), ?_⟩
  rw [SX.S_len]
  exact q
section
variable {P : Program} {w : World} {K : PySem.W.Frag} {mg : Str → Option Value} {base : Heap}
def rdWD (a : Nat) : Option (Nat × Nat) → D
  | none => .non
  | some (n, k) => .tup [.int (n : Nat), .int ((a + k : Nat) : Int)]
def S_rdw : SP3 := fun ds G R _ => match ds with
  | [x, y, z] => ∃ (L : List Nat) (a : Nat), x = .str (Sg L) ∧ y = .int (a : Nat) ∧ z = .int 600 ∧ L.length ≤ 100000 ∧ a ≤ L.length ∧ R (rdWD a (rdW (L.drop a))) G
  | _ => False
theorem ok_rdw (T : Tx K mg) : Good P w K mg base "read_whole" ["text", "at", "digits"] 1 S_rdw := by
  refine good_of (d_read_whole T) sc_read_whole fun f cd A outer s H E hp tk hgd hr => ⟨_, (s_cons (s_set 3 sc_read_whole.nd rfl (.inl rfl) rfl (c_var 1))
      (s_cons (s_while hp (t_w (o_and (t_cmp op_lt lift_I2b (c_var 3) (c_callB call_len lift_len (n_len T) (a_cons (c_var 0) a_nil))) (o_and (t_cmp op_in_sign lift_inC (c_ix (c_var 0) (c_var 3)) (c_dat (v_DIGITS T))) (o_and1 (t_cmp op_le lift_I2b (c_op op_sub lift_I2i (c_var 3) (c_var 1)) (c_var 2)))))) (s_one (s_aug 3 sc_read_whole.nd rfl (.inl rfl) rfl c_int ip_add lift_ipadd)))
      (s_cons (s_if (t_w (o_or (t_cmp (op_eq3 hr.units) lift_eq (c_var 3) (c_var 1)) (o_or (t_cmp op_gt lift_I2b (c_op op_sub lift_I2i (c_var 3) (c_var 1)) (c_var 2)) (o_or1 (t_w (o_and (t_cmp (op_eq3 hr.units) lift_eq (c_ix (c_var 0) (c_var 1)) c_str) (o_and1 (t_cmp op_gt lift_I2b (c_op op_sub lift_I2i (c_var 3) (c_var 1)) c_int)))))))) (s_one (s_ret c_non)) s_nil)
      (s_one (s_ret (c_tup (a_cons (c_callT call_int_str lift_intS (n_int T) (a_cons (c_slice (c_var 0) (p_some (c_var 1)) (p_some (c_var 3))) a_nil)) (a_cons (c_var 3) a_nil)))))))), fun ds G R Ex hlen hS => ?_⟩
  clear hp tk hgd hr hlen
  match ds, hS with
  | [x, y, z], ⟨L, a, e1, e2, e3, hl, ha, hR⟩ =>
    subst e1 e2 e3
    rw [show start3 ["text", "at", "digits", "end"] [.str (Sg L), .int (a : Nat), .int 600] = [some (.str (Sg L)), some (.int (a : Nat)), some (.int 600), none] from rfl]
    have hl6 : L.length ≤ 1000000 := by omega
    have rl := run_le (L.drop a)
    rw [List.length_drop] at rl
    have dk : ∀ {j : Nat}, (L.drop a)[j]? = L[a + j]? := fun {j} => List.getElem?_drop
    refine seq_cut (fun env' G' => env' = [some (.str (Sg L)), some (.int (a : Nat)), some (.int 600), some (.int ((a + 0 : Nat) : Int))] ∧ G' = G) ?_ ?_
    · rintro env' G1 ⟨rfl, e0⟩
      subst e0
      refine seq_cut (fun env' G' => env' = [some (.str (Sg L)), some (.int (a : Nat)), some (.int 600), some (.int ((a + min (run (L.drop a)) 601 : Nat) : Int))] ∧ G' = G1) ?_ ?_
      · rintro env' G' ⟨rfl, e0⟩
        subst e0
        simp only [wExpr, wRaise, gSb, wSeq, wNext, wRet, wRetN, wExpr, wIfS, wSet, wAsg, wPar, wAug, w1, w2, wA, aNil, aCons, wVar, wVarT, wC, tOfW, w3c, wAnd, wOr, wNot, tAnd3, tOr3, tNot3, wIf, wTup, wLst, wLstO, wCall, wSl, pNone, pSome, wipe3, List.map_cons, List.map_nil, fI2, fI2C, fI1, fAbs, addI, mulI, intI, eqS, neS, isN_, notN_, L3.isNon, gN, gsN, gsC, gT, asT, at3, List.set_cons_zero, List.set_cons_succ, Option.some.injEq, exists_eq_left', D.bl.injEq, D.int.injEq, D.tup.injEq, List.length_cons, List.length_nil, Nat.reduceAdd, true_and, if_true, if_false, Bool.false_eq_true, reduceIte, ite_true, ite_false, len_t0, len_t1, len_t2, len_t3, len_l0, len_l1, eqI, neI, Int.reduceBEq, Int.reduceLT, Int.reduceLE, Int.reduceNeg, decide_true, decide_false, Bool.not_true, Bool.not_false, ix0, ix1, ix2, and_true, and_self]
        unfold rdW at hR
        generalize hr : run (L.drop a) = k at hR rl
        have e0 : (((a + min k 601 : Nat) : Int) == ((a : Nat) : Int)) = decide (k = 0) := by
          rw [Bool.eq_iff_iff, beq_iff_eq, decide_eq_true_eq]
          omega
        have e1 : decide ((600 : Int) < ((a + min k 601 : Nat) : Int) - ((a : Nat) : Int)) = decide (600 < k) := by
          rw [Bool.eq_iff_iff, decide_eq_true_eq, decide_eq_true_eq]
          omega
        have e2 : decide ((1 : Int) < ((a + min k 601 : Nat) : Int) - ((a : Nat) : Int)) = decide (1 < k) := by
          rw [Bool.eq_iff_iff, decide_eq_true_eq, decide_eq_true_eq]
          omega
        rw [e0, e1, e2]
        by_cases k0 : k = 0
        · rw [if_pos (by simpa using k0)]
          rw [if_pos (.inl k0)] at hR
          exact hR
        rw [if_neg (by simpa using k0)]
        by_cases k6 : 600 < k
        · rw [if_pos (by simpa using k6)]
          rw [if_pos (.inr (.inl k6))] at hR
          exact hR
        rw [if_neg (by simpa using k6)]
        obtain ⟨c, hc, dc⟩ := run_dig (l := L.drop a) (j := 0) (by omega)
        have hc' : L[a]? = some c := by rw [dk] at hc; exact hc
        have hd : (L.drop a).head? = some c := by rw [List.head?_eq_getElem?]; exact hc
        refine ix_sg hl6 hc' ?_
        have ez : ("0" : Str) = Sg [48] := by decide +kernel
        rw [ez, eqS, SX.S_beq_eq]
        refine ⟨_, rfl, ?_⟩
        have last : R (.tup [.int ((NumText.digitsVal ((L.drop a).take k) : Nat) : Int), .int ((a + k : Nat) : Int)]) G' → fSl (.str (Sg L)) (some ((a : Nat) : Int)) (some ((a + min k 601 : Nat) : Int)) G' fun x G1 => fIntS [x] G1 fun x G1 => 2 ≤ sizeLine ∧ R (.tup [x, .int ((a + min k 601 : Nat) : Int)]) G1 := by
          intro q
          refine ⟨size_small (by rw [SX.S_len]; exact hl6), ?_⟩
          have em : min k 601 = k := by omega
          rw [em, cut_mid (by omega) (by omega), show a + k - a = k by omega]
          have tl : ((L.drop a).take k).length = k := by rw [List.length_take, List.length_drop]; omega
          have ta : ∀ c ∈ (L.drop a).take k, isDig c = true := by rw [← hr]; exact run_all
          refine ⟨_, _, rfl, SX.int_S (List.all_eq_true.mpr ta) (fun e => by rw [e] at tl; exact k0 tl.symm) (by omega), by rw [SX.S_len]; omega, sizeLine_eq ▸ (by decide), q⟩
        by_cases c0 : c = 48
        · rw [if_pos (by rw [c0]; decide)]
          by_cases k1 : 1 < k
          · rw [if_pos (by simpa using k1)]
            rw [if_pos (.inr (.inr ⟨by rw [hd, c0], k1⟩))] at hR
            exact hR
          · rw [if_neg (by simpa using k1)]
            rw [if_neg (by rintro (z | z | z); exact k0 z; exact k6 z; exact k1 z.2)] at hR
            exact last hR
        · rw [if_neg (by simpa using c0)]
          rw [if_neg (by rintro (z | z | z); exact k0 z; exact k6 z; exact c0 (Option.some.inj (hd.symm.trans z.1)))] at hR
          exact last hR
      · intro N hN
        simp only [wExpr, wRaise, gSb, wSeq, wNext, wRet, wRetN, wExpr, wIfS, wSet, wAsg, wPar, wAug, w1, w2, wA, aNil, aCons, wVar, wVarT, wC, tOfW, w3c, wAnd, wOr, wNot, tAnd3, tOr3, tNot3, wIf, wTup, wLst, wLstO, wCall, wSl, pNone, pSome, wipe3, List.map_cons, List.map_nil, fI2, fI2C, fI1, fAbs, addI, mulI, intI, eqS, neS, isN_, notN_, L3.isNon, gN, gsN, gsC, gT, asT, at3, List.set_cons_zero, List.set_cons_succ, Option.some.injEq, exists_eq_left', D.bl.injEq, D.int.injEq, D.tup.injEq, List.length_cons, List.length_nil, Nat.reduceAdd, true_and, if_true, if_false, Bool.false_eq_true, reduceIte, ite_true, ite_false, len_t0, len_t1, len_t2, len_t3, len_l0, len_l1, eqI, neI, Int.reduceBEq, Int.reduceLT, Int.reduceLE, Int.reduceNeg, decide_true, decide_false, Bool.not_true, Bool.not_false, ix0, ix1, ix2, and_true, and_self, wWhile]
        refine ⟨min (run (L.drop a)) 601 + 1, ?_⟩
        refine whl_run (L := L) (a := a) ?_ (min (run (L.drop a)) 601) 0 (by omega) (Nat.zero_le _) (by omega) fun j e => ?_
        · intro j n E h1 h2 hs hg
          simp only [whl, wExpr, wRaise, gSb, wSeq, wNext, wRet, wRetN, wExpr, wIfS, wSet, wAsg, wPar, wAug, w1, w2, wA, aNil, aCons, wVar, wVarT, wC, tOfW, w3c, wAnd, wOr, wNot, tAnd3, tOr3, tNot3, wIf, wTup, wLst, wLstO, wCall, wSl, pNone, pSome, wipe3, List.map_cons, List.map_nil, fI2, fI2C, fI1, fAbs, addI, mulI, intI, eqS, neS, isN_, notN_, L3.isNon, gN, gsN, gsC, gT, asT, at3, List.set_cons_zero, List.set_cons_succ, Option.some.injEq, exists_eq_left', D.bl.injEq, D.int.injEq, D.tup.injEq, List.length_cons, List.length_nil, Nat.reduceAdd, true_and, if_true, if_false, Bool.false_eq_true, reduceIte, ite_true, ite_false, len_t0, len_t1, len_t2, len_t3, len_l0, len_l1, eqI, neI, Int.reduceBEq, Int.reduceLT, Int.reduceLE, Int.reduceNeg, decide_true, decide_false, Bool.not_true, Bool.not_false, ix0, ix1, ix2, and_true, and_self]
          refine len_sg hl6 ?_
          show (if decide (((a + j : Nat) : Int) < ((L.length : Nat) : Int)) = true then _ else _)
          by_cases z1 : a + j < L.length
          · rw [if_pos (by rw [decide_eq_true_eq]; omega)]
            obtain ⟨c, hc⟩ : ∃ c, L[a + j]? = some c := ⟨_, List.getElem?_eq_getElem z1⟩
            have hc' : (L.drop a)[j]? = some c := by rw [dk]; exact hc
            refine ix_sg hl6 hc ?_
            refine ⟨c, _, rfl, rfl, ?_⟩
            rw [dig_in]
            refine ⟨_, rfl, ?_⟩
            cases dc : isDig c with
            | false =>
              rw [if_neg (by decide)]
              refine hs (.inl ?_)
              rcases Nat.lt_or_ge j (run (L.drop a)) with z | z
              · obtain ⟨c2, e2, d2⟩ := run_dig z
                rw [hc'] at e2
                cases e2
                rw [dc] at d2
                cases d2
              · omega
            | true =>
              rw [if_pos rfl]
              have lt : j < run (L.drop a) := by
                rcases Nat.lt_or_ge j (run (L.drop a)) with z | z
                · exact z
                · have e : j = run (L.drop a) := by omega
                  rw [e] at hc'
                  rw [run_stop hc'] at dc
                  cases dc
              by_cases z6 : j ≤ 600
              · rw [if_pos (by rw [decide_eq_true_eq]; omega)]
                exact hg lt z6
              · rw [if_neg (by rw [decide_eq_true_eq]; omega)]
                exact hs (.inr (by omega))
          · rw [if_neg (by rw [decide_eq_true_eq]; omega)]
            exact hs (.inl (by omega))
        · subst e
          exact hN _ _ ⟨rfl, rfl⟩
    · intro N hN
      simp only [wExpr, wRaise, gSb, wSeq, wNext, wRet, wRetN, wExpr, wIfS, wSet, wAsg, wPar, wAug, w1, w2, wA, aNil, aCons, wVar, wVarT, wC, tOfW, w3c, wAnd, wOr, wNot, tAnd3, tOr3, tNot3, wIf, wTup, wLst, wLstO, wCall, wSl, pNone, pSome, wipe3, List.map_cons, List.map_nil, fI2, fI2C, fI1, fAbs, addI, mulI, intI, eqS, neS, isN_, notN_, L3.isNon, gN, gsN, gsC, gT, asT, at3, List.set_cons_zero, List.set_cons_succ, Option.some.injEq, exists_eq_left', D.bl.injEq, D.int.injEq, D.tup.injEq, List.length_cons, List.length_nil, Nat.reduceAdd, true_and, if_true, if_false, Bool.false_eq_true, reduceIte, ite_true, ite_false, len_t0, len_t1, len_t2, len_t3, len_l0, len_l1, eqI, neI, Int.reduceBEq, Int.reduceLT, Int.reduceLE, Int.reduceNeg, decide_true, decide_false, Bool.not_true, Bool.not_false, ix0, ix1, ix2, and_true, and_self]
      exact hN _ _ ⟨rfl, rfl⟩
end

end K69

set_option Elab.async false
set_option linter.all false
set_option maxRecDepth 100000
set_option maxHeartbeats 0
namespace K69
open PySem PySem.Spec L2 L3
open PyProof.Rows hiding St
def frP (q : Nat × Nat) : D := .tup [.int (q.1 : Nat), .int (q.2 : Nat)]
def rdAD (a : Nat) : Option ((Nat × Nat) × Nat) → D
  | none => .non
  | some (q, k) => .tup [frP q, .int ((a + k : Nat) : Int)]
def amD : Option (Nat × Nat) → D
  | none => .non
  | some q => frP q
def frI (q : Fr) : D := .tup [.int q.1, .int q.2]
def sgD : Option Fr → D
  | none => .non
  | some q => frI q
theorem starts_one {L : List Nat} {c : Nat} : Txt.startswith (Sg L) (Sg [c]) = decide (L.head? = some c) := by
  have e : Txt.startswith (Sg L) (Sg [c]) = (decide (0 + (Sg [c]).length ≤ (Sg L).length) && Builtin.Str.subAt (Sg L) (Sg [c]) 0) := rfl
  rw [e, SX.S_len, SX.S_len]
  unfold Builtin.Str.subAt
  rw [SX.S_len]
  cases L with
  | nil => rfl
  | cons d L =>
    have e2 : (Sg (d :: L)).cps.extract 0 (0 + [c].length) = #[d] := by simp [Sg, SX.S]
    rw [e2]
    have e3 : decide (0 + [c].length ≤ (d :: L).length) = true := by simp
    rw [e3, Bool.true_and]
    show (#[d] == #[c]) = decide (some d = some c)
    rw [Bool.eq_iff_iff, beq_iff_eq, decide_eq_true_eq]
    simp
theorem rdA_k {r : List Nat} {n d k : Nat} (h : rdA r = some ((n, d), k)) : n < 10 ^ 600 ∧ d < 10 ^ 600 ∧ 1 ≤ d := by
  unfold rdA at h
  cases e : rdW r with
  | none => rw [e] at h; cases h
  | some z =>
    obtain ⟨n', k'⟩ := z
    rw [e] at h
    simp only at h
    split at h
    · cases e2 : rdW (r.drop (k' + 1)) with
      | none => rw [e2] at h; cases h
      | some z2 =>
        obtain ⟨m, j⟩ := z2
        rw [e2] at h
        simp only at h
        split at h
        · cases h
        · rename_i q
          cases h
          exact ⟨rdW_lt e, rdW_lt e2, by
            rcases Nat.lt_or_ge d 2 with z | z
            · exact absurd (.inl z) q
            · omega⟩
    · cases h
      exact ⟨rdW_lt e, Nat.one_lt_pow (by decide) (by decide), Nat.le_refl _⟩
theorem amW_k {r : List Nat} {n d : Nat} (h : amW r = some (n, d)) : n < 10 ^ 600 ∧ d < 10 ^ 600 ∧ 1 ≤ d := by
  unfold amW at h
  cases e : rdA r with
  | none => rw [e] at h; cases h
  | some z =>
    obtain ⟨⟨a, b⟩, k⟩ := z
    rw [e] at h
    simp only at h
    split at h
    · cases h
      exact rdA_k e
    · cases h
section
variable {P : Program} {w : World} {K : PySem.W.Frag} {mg : Str → Option Value} {base : Heap}
def S_rda : SP3 := fun ds G R _ => match ds with
  | [x, y, z] => ∃ (L : List Nat) (a : Nat), x = .str (Sg L) ∧ y = .int (a : Nat) ∧ z = .int 600 ∧ L.length ≤ 100000 ∧ a ≤ L.length ∧ R (rdAD a (rdA (L.drop a))) G
  | _ => False
theorem ok_rda (T : Tx K mg) : Good P w K mg base "read_amount" ["text", "at", "digits"] 2 S_rda := by
  have g_read_whole := ok_rdw (P := P) (w := w) (base := base) T
  have g_divisor := ok_divisor (P := P) (w := w) (base := base) T
  refine good_of (d_read_amount T) sc_read_amount fun f cd A outer s H E hp tk hgd hr => ⟨_, (s_cons (s_set 3 sc_read_amount.nd rfl (.inl rfl) rfl (c_call g_read_whole (hr.mono (by omega)) hgd tk (a_cons (c_var 0) (a_cons (c_var 1) (a_cons (c_var 2) a_nil)))))
      (s_cons (s_if (t_cmp op_isN lift_isN (c_var 3) c_non) (s_one (s_ret c_non)) s_nil)
      (s_cons (s_asg (c_var 3) (g_tup (n := 2) rfl (gs_cons (g_name 4 sc_read_amount.nd rfl (.inl rfl)) (gs_cons (g_name 5 sc_read_amount.nd rfl (.inl rfl)) gs_nil))))
      (s_cons (s_if (t_w (o_or (t_cmp op_ge lift_I2b (c_var 5) (c_callB call_len lift_len (n_len T) (a_cons (c_var 0) a_nil))) (o_or1 (t_cmp (op_ne3 hr.units) lift_ne (c_ix (c_var 0) (c_var 5)) c_str)))) (s_one (s_ret (c_tup (a_cons (c_tup (a_cons (c_var 4) (a_cons c_int a_nil))) (a_cons (c_var 5) a_nil))))) s_nil)
      (s_cons (s_set 6 sc_read_amount.nd rfl (.inl rfl) rfl (c_call g_read_whole (hr.mono (by omega)) hgd tk (a_cons (c_var 0) (a_cons (c_op op_add3 lift_add (c_var 5) c_int) (a_cons (c_var 2) a_nil)))))
      (s_cons (s_if (t_w (o_or (t_cmp op_isN lift_isN (c_var 6) c_non) (o_or (t_cmp op_lt lift_I2b (c_ix (c_var 6) c_int) c_int) (o_or1 (t_cmp (op_ne3 hr.units) lift_ne (c_call g_divisor (hr.mono (by omega)) hgd tk (a_cons (c_var 4) (a_cons (c_ix (c_var 6) c_int) a_nil))) c_int))))) (s_one (s_ret c_non)) s_nil)
      (s_one (s_ret (c_tup (a_cons (c_tup (a_cons (c_var 4) (a_cons (c_ix (c_var 6) c_int) a_nil))) (a_cons (c_ix (c_var 6) c_int) a_nil))))))))))), fun ds G R Ex hlen hS => ?_⟩
  clear hp tk hgd hr hlen
  match ds, hS with
  | [x, y, z], ⟨L, a, e1, e2, e3, hl, ha, hR⟩ =>
    subst e1 e2 e3
    rw [show start3 ["text", "at", "digits", "first", "n", "end", "second"] [.str (Sg L), .int (a : Nat), .int 600] = [some (.str (Sg L)), some (.int (a : Nat)), some (.int 600), none, none, none, none] from rfl]
    have hl6 : L.length ≤ 1000000 := by omega
    simp only [wExpr, wRaise, gSb, wSeq, wNext, wRet, wRetN, wExpr, wIfS, wSet, wAsg, wPar, wAug, w1, w2, wA, aNil, aCons, wVar, wVarT, wC, tOfW, w3c, wAnd, wOr, wNot, tAnd3, tOr3, tNot3, wIf, wTup, wLst, wLstO, wCall, wSl, pNone, pSome, wipe3, List.map_cons, List.map_nil, fI2, fI2C, fI1, fAbs, addI, mulI, intI, eqS, neS, isN_, notN_, L3.isNon, gN, gsN, gsC, gT, asT, at3, List.set_cons_zero, List.set_cons_succ, Option.some.injEq, exists_eq_left', D.bl.injEq, D.int.injEq, D.tup.injEq, List.length_cons, List.length_nil, Nat.reduceAdd, true_and, if_true, if_false, Bool.false_eq_true, reduceIte, ite_true, ite_false, len_t0, len_t1, len_t2, len_t3, len_l0, len_l1, eqI, neI, Int.reduceBEq, Int.reduceLT, Int.reduceLE, Int.reduceNeg, decide_true, decide_false, Bool.not_true, Bool.not_false, ix0, ix1, ix2, and_true, and_self, S_rdw, S_divisor]
    refine ⟨L, a, rfl, rfl, hl, ha, ?_⟩
    unfold rdA at hR
    cases e : rdW (L.drop a) with
    | none =>
      rw [e] at hR
      simp only [e, rdWD, wExpr, wRaise, gSb, wSeq, wNext, wRet, wRetN, wExpr, wIfS, wSet, wAsg, wPar, wAug, w1, w2, wA, aNil, aCons, wVar, wVarT, wC, tOfW, w3c, wAnd, wOr, wNot, tAnd3, tOr3, tNot3, wIf, wTup, wLst, wLstO, wCall, wSl, pNone, pSome, wipe3, List.map_cons, List.map_nil, fI2, fI2C, fI1, fAbs, addI, mulI, intI, eqS, neS, isN_, notN_, L3.isNon, gN, gsN, gsC, gT, asT, at3, List.set_cons_zero, List.set_cons_succ, Option.some.injEq, exists_eq_left', D.bl.injEq, D.int.injEq, D.tup.injEq, List.length_cons, List.length_nil, Nat.reduceAdd, true_and, if_true, if_false, Bool.false_eq_true, reduceIte, ite_true, ite_false, len_t0, len_t1, len_t2, len_t3, len_l0, len_l1, eqI, neI, Int.reduceBEq, Int.reduceLT, Int.reduceLE, Int.reduceNeg, decide_true, decide_false, Bool.not_true, Bool.not_false, ix0, ix1, ix2, and_true, and_self]
      exact hR
    | some z =>
      obtain ⟨n, k⟩ := z
      rw [e] at hR
      simp only [e, rdWD, wExpr, wRaise, gSb, wSeq, wNext, wRet, wRetN, wExpr, wIfS, wSet, wAsg, wPar, wAug, w1, w2, wA, aNil, aCons, wVar, wVarT, wC, tOfW, w3c, wAnd, wOr, wNot, tAnd3, tOr3, tNot3, wIf, wTup, wLst, wLstO, wCall, wSl, pNone, pSome, wipe3, List.map_cons, List.map_nil, fI2, fI2C, fI1, fAbs, addI, mulI, intI, eqS, neS, isN_, notN_, L3.isNon, gN, gsN, gsC, gT, asT, at3, List.set_cons_zero, List.set_cons_succ, Option.some.injEq, exists_eq_left', D.bl.injEq, D.int.injEq, D.tup.injEq, List.length_cons, List.length_nil, Nat.reduceAdd, true_and, if_true, if_false, Bool.false_eq_true, reduceIte, ite_true, ite_false, len_t0, len_t1, len_t2, len_t3, len_l0, len_l1, eqI, neI, Int.reduceBEq, Int.reduceLT, Int.reduceLE, Int.reduceNeg, decide_true, decide_false, Bool.not_true, Bool.not_false, ix0, ix1, ix2, and_true, and_self]
      replace hR : R (rdAD a (if ((L.drop a).drop k).head? = some 47 then (match rdW ((L.drop a).drop (k + 1)) with
        | none => none
        | some (m, j) => if m < 2 ∨ Nat.gcd n m ≠ 1 then none else some ((n, m), k + 1 + j)) else some ((n, 1), k))) G := hR
      obtain ⟨hk, _, k1, k6⟩ := rdW_k e
      have rl := run_le (L.drop a)
      rw [List.length_drop] at rl
      have hn := rdW_lt e
      have s2 : (2 : Nat) ≤ sizeLine := sizeLine_eq ▸ (by decide)
      have hd : ((L.drop a).drop k).head? = L[a + k]? := by rw [List.drop_drop, List.head?_eq_getElem?, List.getElem?_drop, Nat.add_zero]
      refine len_sg hl6 ?_
      show (if decide (((L.length : Nat) : Int) ≤ ((a + k : Nat) : Int)) = true then _ else _)
      by_cases z1 : a + k < L.length
      · rw [if_neg (by rw [decide_eq_true_eq]; omega)]
        obtain ⟨c, hc⟩ : ∃ c, L[a + k]? = some c := ⟨_, List.getElem?_eq_getElem z1⟩
        refine ix_sg hl6 hc ?_
        have ez : ("/" : Str) = Sg [47] := by decide +kernel
        rw [ez, neS, SX.S_beq_eq]
        refine ⟨_, rfl, ?_⟩
        rw [hd, hc] at hR
        by_cases c4 : c = 47
        · rw [if_pos (by rw [c4])] at hR
          rw [if_neg (by rw [c4]; decide)]
          refine ⟨L, a + k + 1, rfl, by push_cast; rfl, hl, by omega, ?_⟩
          rw [List.drop_drop, show a + (k + 1) = a + k + 1 by omega] at hR
          cases e2 : rdW (L.drop (a + k + 1)) with
          | none =>
            rw [e2] at hR
            exact hR
          | some z2 =>
            obtain ⟨m, j⟩ := z2
            rw [e2] at hR
            have hm := rdW_lt e2
            replace hR : R (rdAD a (if m < 2 ∨ Nat.gcd n m ≠ 1 then none else some ((n, m), k + 1 + j))) G := hR
            simp only [wExpr, wRaise, gSb, wSeq, wNext, wRet, wRetN, wExpr, wIfS, wSet, wAsg, wPar, wAug, w1, w2, wA, aNil, aCons, wVar, wVarT, wC, tOfW, w3c, wAnd, wOr, wNot, tAnd3, tOr3, tNot3, wIf, wTup, wLst, wLstO, wCall, wSl, pNone, pSome, wipe3, List.map_cons, List.map_nil, fI2, fI2C, fI1, fAbs, addI, mulI, intI, eqS, neS, isN_, notN_, L3.isNon, gN, gsN, gsC, gT, asT, at3, List.set_cons_zero, List.set_cons_succ, Option.some.injEq, exists_eq_left', D.bl.injEq, D.int.injEq, D.tup.injEq, List.length_cons, List.length_nil, Nat.reduceAdd, true_and, if_true, if_false, Bool.false_eq_true, reduceIte, ite_true, ite_false, len_t0, len_t1, len_t2, len_t3, len_l0, len_l1, eqI, neI, Int.reduceBEq, Int.reduceLT, Int.reduceLE, Int.reduceNeg, decide_true, decide_false, Bool.not_true, Bool.not_false, ix0, ix1, ix2, and_true, and_self]
            show (if decide (((m : Nat) : Int) < 2) = true then _ else _)
            by_cases m2 : m < 2
            · rw [if_pos (.inl m2)] at hR
              rw [if_pos (by rw [decide_eq_true_eq]; omega)]
              exact hR
            · rw [if_neg (by rw [decide_eq_true_eq]; omega)]
              refine ⟨by omega, ten_bd (Nat.lt_trans hn (Nat.pow_lt_pow_right (by decide) (by decide))), ten_bd (Nat.lt_trans hm (Nat.pow_lt_pow_right (by decide) (by decide))), ?_⟩
              have eg : Int.gcd ((n : Nat) : Int) ((m : Nat) : Int) = Nat.gcd n m := rfl
              rw [eg]
              by_cases g1 : Nat.gcd n m = 1
              · rw [if_neg (by rintro (z | z); exact m2 z; exact z g1)] at hR
                rw [if_neg (by rw [g1]; decide)]
                refine ⟨s2, s2, ?_⟩
                have ea : (((a + k + 1 + j : Nat)) : Int) = ((a + (k + 1 + j) : Nat) : Int) := by omega
                rw [ea]
                exact hR
              · rw [if_pos (.inr g1)] at hR
                rw [if_pos (by rw [Bool.not_eq_true', beq_eq_false_iff_ne]; omega)]
                exact hR
        · rw [if_neg (by intro z; exact c4 (Option.some.inj z))] at hR
          rw [if_pos (by simpa using c4)]
          exact ⟨s2, s2, hR⟩
      · rw [if_pos (by rw [decide_eq_true_eq]; omega)]
        rw [if_neg (by rw [hd, List.getElem?_eq_none (by omega)]; intro z; cases z)] at hR
        exact ⟨s2, s2, hR⟩
def S_amw : SP3 := fun ds G R _ => match ds with
  | [x, z] => ∃ (L : List Nat), x = .str (Sg L) ∧ z = .int 600 ∧ L.length ≤ 100000 ∧ R (amD (amW L)) G
  | _ => False
theorem ok_amw (T : Tx K mg) : Good P w K mg base "amount_word" ["word", "digits"] 3 S_amw := by
  have g_read_amount := ok_rda (P := P) (w := w) (base := base) T
  refine good_of (d_amount_word T) sc_amount_word fun f cd A outer s H E hp tk hgd hr => ⟨_, (s_cons (s_set 2 sc_amount_word.nd rfl (.inl rfl) rfl (c_call g_read_amount (hr.mono (by omega)) hgd tk (a_cons (c_var 0) (a_cons c_int (a_cons (c_var 1) a_nil)))))
      (s_one (s_ret (c_if (t_w (o_and (t_cmp op_notN lift_notN (c_var 2) c_non) (o_and1 (t_cmp (op_eq3 hr.units) lift_eq (c_ix (c_var 2) c_int) (c_callB call_len lift_len (n_len T) (a_cons (c_var 0) a_nil)))))) (c_ix (c_var 2) c_int) c_non)))), fun ds G R Ex hlen hS => ?_⟩
  clear hp tk hgd hr hlen
  match ds, hS with
  | [x, z], ⟨L, e1, e3, hl, hR⟩ =>
    subst e1 e3
    rw [show start3 ["word", "digits", "found"] [.str (Sg L), .int 600] = [some (.str (Sg L)), some (.int 600), none] from rfl]
    have hl6 : L.length ≤ 1000000 := by omega
    simp only [wExpr, wRaise, gSb, wSeq, wNext, wRet, wRetN, wExpr, wIfS, wSet, wAsg, wPar, wAug, w1, w2, wA, aNil, aCons, wVar, wVarT, wC, tOfW, w3c, wAnd, wOr, wNot, tAnd3, tOr3, tNot3, wIf, wTup, wLst, wLstO, wCall, wSl, pNone, pSome, wipe3, List.map_cons, List.map_nil, fI2, fI2C, fI1, fAbs, addI, mulI, intI, eqS, neS, isN_, notN_, L3.isNon, gN, gsN, gsC, gT, asT, at3, List.set_cons_zero, List.set_cons_succ, Option.some.injEq, exists_eq_left', D.bl.injEq, D.int.injEq, D.tup.injEq, List.length_cons, List.length_nil, Nat.reduceAdd, true_and, if_true, if_false, Bool.false_eq_true, reduceIte, ite_true, ite_false, len_t0, len_t1, len_t2, len_t3, len_l0, len_l1, eqI, neI, Int.reduceBEq, Int.reduceLT, Int.reduceLE, Int.reduceNeg, decide_true, decide_false, Bool.not_true, Bool.not_false, ix0, ix1, ix2, and_true, and_self, S_rda]
    refine ⟨L, 0, rfl, rfl, hl, Nat.zero_le _, ?_⟩
    simp only [List.drop_zero]
    unfold amW at hR
    cases e : rdA L with
    | none =>
      rw [e] at hR
      simp only [e, rdAD, wExpr, wRaise, gSb, wSeq, wNext, wRet, wRetN, wExpr, wIfS, wSet, wAsg, wPar, wAug, w1, w2, wA, aNil, aCons, wVar, wVarT, wC, tOfW, w3c, wAnd, wOr, wNot, tAnd3, tOr3, tNot3, wIf, wTup, wLst, wLstO, wCall, wSl, pNone, pSome, wipe3, List.map_cons, List.map_nil, fI2, fI2C, fI1, fAbs, addI, mulI, intI, eqS, neS, isN_, notN_, L3.isNon, gN, gsN, gsC, gT, asT, at3, List.set_cons_zero, List.set_cons_succ, Option.some.injEq, exists_eq_left', D.bl.injEq, D.int.injEq, D.tup.injEq, List.length_cons, List.length_nil, Nat.reduceAdd, true_and, if_true, if_false, Bool.false_eq_true, reduceIte, ite_true, ite_false, len_t0, len_t1, len_t2, len_t3, len_l0, len_l1, eqI, neI, Int.reduceBEq, Int.reduceLT, Int.reduceLE, Int.reduceNeg, decide_true, decide_false, Bool.not_true, Bool.not_false, ix0, ix1, ix2, and_true, and_self]
      exact hR
    | some z =>
      obtain ⟨q, k⟩ := z
      rw [e] at hR
      simp only [e, rdAD, wExpr, wRaise, gSb, wSeq, wNext, wRet, wRetN, wExpr, wIfS, wSet, wAsg, wPar, wAug, w1, w2, wA, aNil, aCons, wVar, wVarT, wC, tOfW, w3c, wAnd, wOr, wNot, tAnd3, tOr3, tNot3, wIf, wTup, wLst, wLstO, wCall, wSl, pNone, pSome, wipe3, List.map_cons, List.map_nil, fI2, fI2C, fI1, fAbs, addI, mulI, intI, eqS, neS, isN_, notN_, L3.isNon, gN, gsN, gsC, gT, asT, at3, List.set_cons_zero, List.set_cons_succ, Option.some.injEq, exists_eq_left', D.bl.injEq, D.int.injEq, D.tup.injEq, List.length_cons, List.length_nil, Nat.reduceAdd, true_and, if_true, if_false, Bool.false_eq_true, reduceIte, ite_true, ite_false, len_t0, len_t1, len_t2, len_t3, len_l0, len_l1, eqI, neI, Int.reduceBEq, Int.reduceLT, Int.reduceLE, Int.reduceNeg, decide_true, decide_false, Bool.not_true, Bool.not_false, ix0, ix1, ix2, and_true, and_self]
      replace hR : R (amD (if k = L.length then some q else none)) G := hR
      refine len_sg hl6 ?_
      have eq : ((0 + k : Nat) : Int) = ((k : Nat) : Int) := by omega
      rw [eqI]
      refine ⟨_, rfl, ?_⟩
      by_cases z : k = L.length
      · rw [if_pos z] at hR
        rw [if_pos (by rw [beq_iff_eq]; omega)]
        exact hR
      · rw [if_neg z] at hR
        rw [if_neg (by rw [beq_iff_eq]; omega)]
        exact hR
def S_sgw : SP3 := fun ds G R _ => match ds with
  | [x, z] => ∃ (L : List Nat), x = .str (Sg L) ∧ z = .int 600 ∧ L.length ≤ 100000 ∧ R (sgD (sgW L)) G
  | _ => False
theorem ok_neg (T : Tx K mg) : Good P w K mg base "negative" ["one"] 1 (fun ds G R _ => match ds with
    | [x] => ∃ q : Nat × Nat, x = frP q ∧ R (frI (-(q.1 : Int), (q.2 : Int))) G
    | _ => False) := by
  refine good_of (d_negative T) sc_negative fun f cd A outer s H E hp tk hgd hr => ⟨_, (s_one (s_ret (c_tup (a_cons (c_un un_neg lift_I1 (c_ix (c_var 0) c_int)) (a_cons (c_ix (c_var 0) c_int) a_nil))))), fun ds G R Ex hlen hS => ?_⟩
  clear hp tk hgd hr hlen
  match ds, hS with
  | [x], ⟨q, e, hR⟩ =>
    subst e
    rw [show start3 ["one"] [frP q] = [some (frP q)] from rfl]
    simp only [wExpr, wRaise, gSb, wSeq, wNext, wRet, wRetN, wExpr, wIfS, wSet, wAsg, wPar, wAug, w1, w2, wA, aNil, aCons, wVar, wVarT, wC, tOfW, w3c, wAnd, wOr, wNot, tAnd3, tOr3, tNot3, wIf, wTup, wLst, wLstO, wCall, wSl, pNone, pSome, wipe3, List.map_cons, List.map_nil, fI2, fI2C, fI1, fAbs, addI, mulI, intI, eqS, neS, isN_, notN_, L3.isNon, gN, gsN, gsC, gT, asT, at3, List.set_cons_zero, List.set_cons_succ, Option.some.injEq, exists_eq_left', D.bl.injEq, D.int.injEq, D.tup.injEq, List.length_cons, List.length_nil, Nat.reduceAdd, true_and, if_true, if_false, Bool.false_eq_true, reduceIte, ite_true, ite_false, len_t0, len_t1, len_t2, len_t3, len_l0, len_l1, eqI, neI, Int.reduceBEq, Int.reduceLT, Int.reduceLE, Int.reduceNeg, decide_true, decide_false, Bool.not_true, Bool.not_false, ix0, ix1, ix2, and_true, and_self, frP]
    exact ⟨sizeLine_eq ▸ (by decide), hR⟩
theorem ok_sgw (T : Tx K mg) : Good P w K mg base "signed_word" ["word", "digits"] 4 S_sgw := by
  have g_amount_word := ok_amw (P := P) (w := w) (base := base) T
  have g_negative := ok_neg (P := P) (w := w) (base := base) T
  refine good_of (d_signed_word T) sc_signed_word fun f cd A outer s H E hp tk hgd hr => ⟨_, (s_cons (s_if (t_not (t_val (c_bm PySem.F.plainAttrs_str PySem.F.slot_str_startswith PySem.F.type_str_startswith mt_startswith m_starts (c_var 0) (a_cons c_str a_nil)))) (s_one (s_ret (c_call g_amount_word (hr.mono (by omega)) hgd tk (a_cons (c_var 0) (a_cons (c_var 1) a_nil))))) s_nil)
      (s_cons (s_set 2 sc_signed_word.nd rfl (.inl rfl) rfl (c_call g_amount_word (hr.mono (by omega)) hgd tk (a_cons (c_slice (c_var 0) (p_some c_int) p_none) (a_cons (c_var 1) a_nil))))
      (s_one (s_ret (c_if (t_w (o_and (t_cmp op_notN lift_notN (c_var 2) c_non) (o_and1 (t_cmp op_gt lift_I2b (c_ix (c_var 2) c_int) c_int)))) (c_call g_negative (hr.mono (by omega)) hgd tk (a_cons (c_var 2) a_nil)) c_non))))), fun ds G R Ex hlen hS => ?_⟩
  clear hp tk hgd hr hlen
  match ds, hS with
  | [x, z], ⟨L, e1, e3, hl, hR⟩ =>
    subst e1 e3
    rw [show start3 ["word", "digits", "found"] [.str (Sg L), .int 600] = [some (.str (Sg L)), some (.int 600), none] from rfl]
    have hl6 : L.length ≤ 1000000 := by omega
    simp only [wExpr, wRaise, gSb, wSeq, wNext, wRet, wRetN, wExpr, wIfS, wSet, wAsg, wPar, wAug, w1, w2, wA, aNil, aCons, wVar, wVarT, wC, tOfW, w3c, wAnd, wOr, wNot, tAnd3, tOr3, tNot3, wIf, wTup, wLst, wLstO, wCall, wSl, pNone, pSome, wipe3, List.map_cons, List.map_nil, fI2, fI2C, fI1, fAbs, addI, mulI, intI, eqS, neS, isN_, notN_, L3.isNon, gN, gsN, gsC, gT, asT, at3, List.set_cons_zero, List.set_cons_succ, Option.some.injEq, exists_eq_left', D.bl.injEq, D.int.injEq, D.tup.injEq, List.length_cons, List.length_nil, Nat.reduceAdd, true_and, if_true, if_false, Bool.false_eq_true, reduceIte, ite_true, ite_false, len_t0, len_t1, len_t2, len_t3, len_l0, len_l1, eqI, neI, Int.reduceBEq, Int.reduceLT, Int.reduceLE, Int.reduceNeg, decide_true, decide_false, Bool.not_true, Bool.not_false, ix0, ix1, ix2, and_true, and_self, S_amw, wM, fStarts, cS]
    have ez : ("-" : Str) = Sg [45] := by decide +kernel
    rw [ez]
    refine ⟨⟨_, rfl⟩, _, _, rfl, rfl, ?_⟩
    rw [starts_one]
    unfold sgW at hR
    by_cases h4 : L.head? = some 45
    · rw [if_pos h4] at hR
      rw [if_neg (by rw [decide_eq_true h4]; decide)]
      have l1 : 1 ≤ L.length := by
        cases L with
        | nil => cases h4
        | cons c L => rw [List.length_cons]; omega
      refine ⟨size_small (by rw [SX.S_len]; exact hl6), ?_⟩
      rw [show (1 : Int) = ((1 : Nat) : Int) from rfl, cut_end l1]
      refine ⟨L.drop 1, rfl, by rw [List.length_drop]; omega, ?_⟩
      cases e : amW (L.drop 1) with
      | none =>
        rw [e] at hR
        exact hR
      | some q =>
        obtain ⟨n, d⟩ := q
        rw [e] at hR
        replace hR : R (sgD (if 0 < n then some (-(n : Int), (d : Int)) else none)) G := hR
        simp only [amD, frP, wExpr, wRaise, gSb, wSeq, wNext, wRet, wRetN, wExpr, wIfS, wSet, wAsg, wPar, wAug, w1, w2, wA, aNil, aCons, wVar, wVarT, wC, tOfW, w3c, wAnd, wOr, wNot, tAnd3, tOr3, tNot3, wIf, wTup, wLst, wLstO, wCall, wSl, pNone, pSome, wipe3, List.map_cons, List.map_nil, fI2, fI2C, fI1, fAbs, addI, mulI, intI, eqS, neS, isN_, notN_, L3.isNon, gN, gsN, gsC, gT, asT, at3, List.set_cons_zero, List.set_cons_succ, Option.some.injEq, exists_eq_left', D.bl.injEq, D.int.injEq, D.tup.injEq, List.length_cons, List.length_nil, Nat.reduceAdd, true_and, if_true, if_false, Bool.false_eq_true, reduceIte, ite_true, ite_false, len_t0, len_t1, len_t2, len_t3, len_l0, len_l1, eqI, neI, Int.reduceBEq, Int.reduceLT, Int.reduceLE, Int.reduceNeg, decide_true, decide_false, Bool.not_true, Bool.not_false, ix0, ix1, ix2, and_true, and_self]
        by_cases n0 : 0 < n
        · rw [if_pos n0] at hR
          rw [if_pos (by rw [decide_eq_true_eq]; omega)]
          exact ⟨(n, d), rfl, hR⟩
        · rw [if_neg n0] at hR
          rw [if_neg (by rw [decide_eq_true_eq]; omega)]
          exact hR
    · rw [if_neg h4] at hR
      rw [if_pos (by rw [decide_eq_false h4]; decide)]
      refine ⟨L, rfl, hl, ?_⟩
      cases e : amW L with
      | none =>
        rw [e] at hR
        exact hR
      | some q =>
        rw [e] at hR
        exact hR
end

end K69

set_option Elab.async false
set_option linter.all false
set_option maxRecDepth 100000
set_option maxHeartbeats 0
namespace K69
open PySem PySem.Spec L2 L3
open PyProof.Rows hiding St
theorem ok_BadText {P : Program} {w : World} {base : Heap} {K : PySem.W.Frag} {mg : Str → Option Value} (T : Tx K mg) : GoodX P w K mg base "BadText" (He.ga K "BadText") 1 ["line"] := by
  obtain ⟨fd, F, hb⟩ := (d_BadText___init__ T).ex
  have b := binB_ok (bin_BinError T)
  exact ⟨_, fd, _, (x_BadText T).gC, (x_BadText T).o, (x_BadText T).ini, (x_BadText T).fn, hb, exf1 F sc_BadText___init__ (x_BadText T).o ((x_BadText T).no "line" (by simp)) rfl (e_BinError T).gC b.1 b.2.1 b.2.2 (by decide) (.inl rfl) (.inl rfl) (by decide) (by decide) (by decide) (fun _ => rfl) rfl⟩
/-! ### the words of a plan -/
theorem cut_nat {xs : List D} {a b : Nat} (h : a ≤ b) (hb : b ≤ xs.length) : L3.cutD xs (some (a : Int)) (some (b : Int)) = (xs.drop a).take (b - a) := by
  unfold L3.cutD
  rw [HT.sIx_nat, HT.sIx_nat, show min a xs.length = a by omega, show min b xs.length = b by omega]
def drawL : List Nat := [100, 114, 97, 119]
def dryL : List Nat := [100, 114, 121]
def wdD (w : List Nat) : D := .str (Sg w)
def plW (ws : List (List Nat)) : Option (List (Option Fr) × List (Option Fr)) :=
  if ws.length < 3 ∨ ws.head? ≠ some drawL ∨ ¬ dryL ∈ ws then none
  else if ((ws.take (ws.idxOf dryL)).drop 1) = [] ∨ none ∈ ((ws.take (ws.idxOf dryL)).drop 1).map sgW ++ (ws.drop (ws.idxOf dryL + 1)).map sgW then none
  else some (((ws.take (ws.idxOf dryL)).drop 1).map sgW, (ws.drop (ws.idxOf dryL + 1)).map sgW)
theorem idx_first : ∀ {A B : List (List Nat)}, ¬ dryL ∈ A → (A ++ dryL :: B).idxOf dryL = A.length
  | [], B, _ => by
    show (dryL :: B).idxOf dryL = 0
    rw [List.idxOf_cons, beq_self_eq_true]
    rfl
  | w :: A, B, h => by
    show (w :: (A ++ dryL :: B)).idxOf dryL = A.length + 1
    have hw : (w == dryL) = false := by
      rw [beq_eq_false_iff_ne]
      intro e
      exact h (by rw [e]; exact List.mem_cons_self)
    rw [List.idxOf_cons, hw, idx_first fun z => h (List.mem_cons_of_mem _ z)]
    rfl
theorem dry_first : ∀ {l : List (List Nat)}, dryL ∈ l → ∃ A B, ¬ dryL ∈ A ∧ l = A ++ dryL :: B
  | [], h => by cases h
  | w :: l, h => by
    by_cases e : w = dryL
    · exact ⟨[], l, (by intro z; cases z), by rw [e]; rfl⟩
    · rcases List.mem_cons.mp h with z | z
      · exact absurd z.symm e
      · obtain ⟨A, B, hA, hl⟩ := dry_first z
        refine ⟨w :: A, B, ?_, by rw [hl]; rfl⟩
        intro z2
        rcases List.mem_cons.mp z2 with z3 | z3
        · exact e z3.symm
        · exact hA z3
theorem plW_of {A B : List (List Nat)} (hA : ¬ dryL ∈ A) : plW (drawL :: (A ++ dryL :: B)) = if A = [] ∨ none ∈ A.map sgW ++ B.map sgW then none else some (A.map sgW, B.map sgW) := by
  have e1 : (drawL :: (A ++ dryL :: B)).idxOf dryL = A.length + 1 := by
    rw [List.idxOf_cons, show (drawL == dryL) = false by decide, idx_first hA]
    rfl
  have e2 : ((drawL :: (A ++ dryL :: B)).take (A.length + 1)).drop 1 = A := by
    rw [List.take_succ_cons, List.drop_succ_cons, List.drop_zero, List.take_left]
  have e3 : (drawL :: (A ++ dryL :: B)).drop (A.length + 1 + 1) = B := by
    rw [List.drop_succ_cons, show A.length + 1 = (A ++ [dryL]).length by rw [List.length_append]; rfl, show A ++ dryL :: B = (A ++ [dryL]) ++ B by rw [List.append_assoc]; rfl, List.drop_left]
  unfold plW
  rw [e1, e2, e3]
  by_cases c : A = []
  · rw [if_pos (.inl c : A = [] ∨ _)]
    split <;> rfl
  · have hl : 1 ≤ A.length := List.length_pos_iff.mpr c
    rw [if_neg]
    rintro (z | z | z)
    · rw [List.length_cons, List.length_append, List.length_cons] at z
      omega
    · exact z rfl
    · exact z (by simp)
theorem pl_cases {ws : List (List Nat)} (h : ¬ (ws.length < 3 ∨ ws.head? ≠ some drawL ∨ ¬ dryL ∈ ws)) : ∃ A B, ¬ dryL ∈ A ∧ ws = drawL :: (A ++ dryL :: B) := by
  have h2 : ws.head? = some drawL := Decidable.byContradiction fun z => h (.inr (.inl z))
  have h3 : dryL ∈ ws := Decidable.byContradiction fun z => h (.inr (.inr z))
  cases ws with
  | nil => cases h2
  | cons w ws =>
    cases h2
    rcases List.mem_cons.mp h3 with z | z
    · exact absurd z (by decide)
    · obtain ⟨A, B, hA, e⟩ := dry_first z
      exact ⟨A, B, hA, by rw [e]⟩
def sgOf : D → D
  | .str z => sgD (sgW z.cps.toList)
  | d => d
theorem sgOf_map {A : List (List Nat)} : (A.map wdD).map sgOf = A.map fun w => sgD (sgW w) := by
  rw [List.map_map]
  rfl
def plD : Option (List (Option Fr) × List (Option Fr)) → D
  | none => .non
  | some (a, b) => .tup [.tup (a.map sgD), .tup (b.map sgD)]
section
variable {P : Program} {w : World} {K : PySem.W.Frag} {mg : Str → Option Value} {base : Heap}
def S_plw : SP3 := fun ds G R _ => match ds with
  | [x] => ∃ ws : List (List Nat), x = .lst (ws.map wdD) ∧ ws.length ≤ 1000 ∧ (∀ w ∈ ws, w.length ≤ 100000) ∧ R (plD (plW ws)) G
  | _ => False
theorem ok_plw (T : Tx K mg) : Good P w K mg base "plan_words" ["words"] 5 S_plw := by
  have g_signed_word := ok_sgw (P := P) (w := w) (base := base) T
  refine good_of (d_plan_words T) sc_plan_words fun f cd A outer s H E hp tk hgd hr => ⟨_, (s_cons (s_if (t_w (o_or (t_cmp op_lt lift_I2b (c_callB call_len lift_len (n_len T) (a_cons (c_var 0) a_nil)) c_int) (o_or (t_cmp (op_ne3 hr.units) lift_ne (c_ix (c_var 0) c_int) (c_dat (v_DRAW T))) (o_or1 (t_cmp op_notIn_seq lift_in (c_dat (v_RUN T)) (c_var 0)))))) (s_one (s_ret c_non)) s_nil)
      (s_cons (s_set 1 sc_plan_words.nd rfl (.inl rfl) rfl (c_bm PySem.F.plainAttrs_list PySem.F.slot_list_index PySem.F.type_list_index mt_index m_index (c_var 0) (a_cons (c_dat (v_RUN T)) a_nil)))
      (s_cons (s_setLc 2 [("word", 4)] rfl sc_plan_words.nd rfl rfl (sw_true rfl rfl rfl (by kernel_rfl)) (i_lst (c_slice (c_var 0) (p_some c_int) (p_some (c_var 1)))) (blkOk_by (by kernel_rfl)) (by decide) (fun _ _ _ _ _ => (g_name 4 sc_plan_words.nd rfl (.inl rfl))) (fun _ _ _ _ _ => ts_nil) (fun _ _ _ _ _ => (c_call g_signed_word (hr.mono (by omega)) hgd takes0 (a_cons (c_var 4) (a_cons (c_dat (v_PLAN_DIGITS T)) a_nil)))))
      (s_cons (s_setLc 3 [("word", 4)] rfl sc_plan_words.nd rfl rfl (sw_true rfl rfl rfl (by kernel_rfl)) (i_lst (c_slice (c_var 0) (p_some (c_op op_add3 lift_add (c_var 1) c_int)) p_none)) (blkOk_by (by kernel_rfl)) (by decide) (fun _ _ _ _ _ => (g_name 4 sc_plan_words.nd rfl (.inl rfl))) (fun _ _ _ _ _ => ts_nil) (fun _ _ _ _ _ => (c_call g_signed_word (hr.mono (by omega)) hgd takes0 (a_cons (c_var 4) (a_cons (c_dat (v_PLAN_DIGITS T)) a_nil)))))
      (s_cons (s_if (t_w (o_or (t_cmp (op_eq3 hr.units) lift_eq (c_callB call_len lift_len (n_len T) (a_cons (c_var 2) a_nil)) c_int) (o_or1 (t_val (c_callB (cr_any rfl) lift_any (n_any T) (a_cons (c_lc [("one", 5)] rfl sc_plan_words.nd (i_lst (c_op op_add3 lift_add (c_var 2) (c_var 3))) (blkOk_by (by kernel_rfl)) (by decide) (fun _ _ _ _ _ => (g_name 5 sc_plan_words.nd rfl (.inl rfl))) (fun _ _ _ _ _ => ts_nil) (fun _ _ _ _ _ => (c_cmp op_isN lift_isN (c_var 5) c_non))) a_nil)))))) (s_one (s_ret c_non)) s_nil)
      (s_one (s_ret (c_tup (a_cons (c_callT call_tuple_of lift_tuple (n_tuple T) (a_cons (c_var 2) a_nil)) (a_cons (c_callT call_tuple_of lift_tuple (n_tuple T) (a_cons (c_var 3) a_nil)) a_nil)))))))))), fun ds G R Ex hlen hS => ?_⟩
  clear hp tk hgd hr hlen
  match ds, hS with
  | [x], ⟨ws, e1, hl, hw, hR⟩ =>
    subst e1
    rw [show start3 ["words", "at", "draws", "drying", "word", "one"] [.lst (ws.map wdD)] = [some (.lst (ws.map wdD)), none, none, none, none, none] from rfl]
    refine seq_cut (fun env' G' => ¬ (ws.length < 3 ∨ ws.head? ≠ some drawL ∨ ¬ dryL ∈ ws) ∧ env' = [some (.lst (ws.map wdD)), none, none, none, none, none] ∧ G' = G) ?_ ?_
    · rintro env' G' ⟨hno, rfl, e0⟩
      subst e0
      obtain ⟨A, B, hA, rfl⟩ := pl_cases hno
      rw [plW_of hA] at hR
      simp only [wExpr, wRaise, gSb, wSeq, wNext, wRet, wRetN, wExpr, wIfS, wSet, wAsg, wPar, wAug, w1, w2, wA, aNil, aCons, wVar, wVarT, wC, tOfW, w3c, wAnd, wOr, wNot, tAnd3, tOr3, tNot3, wIf, wTup, wLst, wLstO, wCall, wSl, pNone, pSome, wipe3, List.map_cons, List.map_nil, fI2, fI2C, fI1, fAbs, addI, mulI, intI, eqS, neS, isN_, notN_, L3.isNon, gN, gsN, gsC, gT, asT, at3, List.set_cons_zero, List.set_cons_succ, Option.some.injEq, exists_eq_left', D.bl.injEq, D.int.injEq, D.tup.injEq, List.length_cons, List.length_nil, Nat.reduceAdd, true_and, if_true, if_false, Bool.false_eq_true, reduceIte, ite_true, ite_false, len_t0, len_t1, len_t2, len_t3, len_l0, len_l1, eqI, neI, Int.reduceBEq, Int.reduceLT, Int.reduceLE, Int.reduceNeg, decide_true, decide_false, Bool.not_true, Bool.not_false, ix0, ix1, ix2, and_true, and_self, wM]
      refine ⟨rfl, (drawL :: (A ++ dryL :: B)).map wdD, _, A.length + 1, wdD dryL, rfl, rfl, rfl, ?_, ?_, ?_, ?_, ?_⟩
      · rw [List.all_map, List.all_eq_true]
        intro _ _
        rfl
      · rw [List.getElem?_map, List.getElem?_cons_succ, List.getElem?_append_right (Nat.le_refl _), Nat.sub_self]
        rfl
      · decide +kernel
      · intro m z' hm hz
        rw [List.getElem?_map] at hz
        have ey : ("dry" : Str) = Sg dryL := by decide +kernel
        cases m with
        | zero =>
          cases hz
          decide +kernel
        | succ m =>
          rw [List.getElem?_cons_succ, List.getElem?_append_left (by omega)] at hz
          obtain ⟨v, hv, rfl⟩ := Option.map_eq_some_iff.mp hz
          show (Sg v == ("dry" : Str)) = false
          rw [ey, SX.S_beq_eq, decide_eq_false_iff_not]
          intro e
          exact hA (by rw [← e]; exact List.mem_of_getElem? hv)
      · have hAl : A.length ≤ 1000 := by rw [List.length_cons, List.length_append] at hl; omega
        have hBl : B.length ≤ 1000 := by rw [List.length_cons, List.length_append, List.length_cons] at hl; omega
        have wA : ∀ w ∈ A, w.length ≤ 100000 := fun w h => hw w (by simp [h])
        have wB : ∀ w ∈ B, w.length ≤ 100000 := fun w h => hw w (by simp [h])
        refine wLc_it (ds := A.map wdD) sgOf rfl (by rw [List.length_map]; exact size_small (by omega)) (fun Kt hK => ?_) ?_ ?_
        · simp only [wExpr, wRaise, gSb, wSeq, wNext, wRet, wRetN, wExpr, wIfS, wSet, wAsg, wPar, wAug, w1, w2, wA, aNil, aCons, wVar, wVarT, wC, tOfW, w3c, wAnd, wOr, wNot, tAnd3, tOr3, tNot3, wIf, wTup, wLst, wLstO, wCall, wSl, pNone, pSome, wipe3, List.map_cons, List.map_nil, fI2, fI2C, fI1, fAbs, addI, mulI, intI, eqS, neS, isN_, notN_, L3.isNon, gN, gsN, gsC, gT, asT, at3, List.set_cons_zero, List.set_cons_succ, Option.some.injEq, exists_eq_left', D.bl.injEq, D.int.injEq, D.tup.injEq, List.length_cons, List.length_nil, Nat.reduceAdd, true_and, if_true, if_false, Bool.false_eq_true, reduceIte, ite_true, ite_false, len_t0, len_t1, len_t2, len_t3, len_l0, len_l1, eqI, neI, Int.reduceBEq, Int.reduceLT, Int.reduceLE, Int.reduceNeg, decide_true, decide_false, Bool.not_true, Bool.not_false, ix0, ix1, ix2, and_true, and_self, iLst]
          refine ⟨_, rfl, _, rfl, ?_⟩
          have e : L3.cutD (wdD drawL :: (A ++ dryL :: B).map wdD) (some 1) (some ((A.length + 1 : Nat) : Int)) = A.map wdD := by
            rw [show (1 : Int) = ((1 : Nat) : Int) from rfl, cut_nat (by omega) (by rw [List.length_cons, List.length_map, List.length_append]; omega), List.drop_succ_cons, List.drop_zero, List.map_append, show A.length + 1 - 1 = (A.map wdD).length by rw [List.length_map]; omega, List.take_left]
          rw [e]
          exact hK _ fun _ _ => trivial
        · intro d hd p acc Q hp hQ
          obtain ⟨w, hw', rfl⟩ := List.mem_map.mp hd
          simp only [wExpr, wRaise, gSb, wSeq, wNext, wRet, wRetN, wExpr, wIfS, wSet, wAsg, wPar, wAug, w1, w2, wA, aNil, aCons, wVar, wVarT, wC, tOfW, w3c, wAnd, wOr, wNot, tAnd3, tOr3, tNot3, wIf, wTup, wLst, wLstO, wCall, wSl, pNone, pSome, wipe3, List.map_cons, List.map_nil, fI2, fI2C, fI1, fAbs, addI, mulI, intI, eqS, neS, isN_, notN_, L3.isNon, gN, gsN, gsC, gT, asT, at3, List.set_cons_zero, List.set_cons_succ, Option.some.injEq, exists_eq_left', D.bl.injEq, D.int.injEq, D.tup.injEq, List.length_cons, List.length_nil, Nat.reduceAdd, true_and, if_true, if_false, Bool.false_eq_true, reduceIte, ite_true, ite_false, len_t0, len_t1, len_t2, len_t3, len_l0, len_l1, eqI, neI, Int.reduceBEq, Int.reduceLT, Int.reduceLE, Int.reduceNeg, decide_true, decide_false, Bool.not_true, Bool.not_false, ix0, ix1, ix2, and_true, and_self, S_sgw, wdD]
          exact ⟨w, rfl, wA w hw', hQ⟩
        · refine wLc_it (ds := B.map wdD) sgOf rfl (by rw [List.length_map]; exact size_small (by omega)) (fun Kt hK => ?_) ?_ ?_
          · simp only [wExpr, wRaise, gSb, wSeq, wNext, wRet, wRetN, wExpr, wIfS, wSet, wAsg, wPar, wAug, w1, w2, wA, aNil, aCons, wVar, wVarT, wC, tOfW, w3c, wAnd, wOr, wNot, tAnd3, tOr3, tNot3, wIf, wTup, wLst, wLstO, wCall, wSl, pNone, pSome, wipe3, List.map_cons, List.map_nil, fI2, fI2C, fI1, fAbs, addI, mulI, intI, eqS, neS, isN_, notN_, L3.isNon, gN, gsN, gsC, gT, asT, at3, List.set_cons_zero, List.set_cons_succ, Option.some.injEq, exists_eq_left', D.bl.injEq, D.int.injEq, D.tup.injEq, List.length_cons, List.length_nil, Nat.reduceAdd, true_and, if_true, if_false, Bool.false_eq_true, reduceIte, ite_true, ite_false, len_t0, len_t1, len_t2, len_t3, len_l0, len_l1, eqI, neI, Int.reduceBEq, Int.reduceLT, Int.reduceLE, Int.reduceNeg, decide_true, decide_false, Bool.not_true, Bool.not_false, ix0, ix1, ix2, and_true, and_self, iLst]
            refine ⟨_, rfl, _, rfl, ?_⟩
            have e : L3.cutD (wdD drawL :: (A ++ dryL :: B).map wdD) (some (((A.length + 1 : Nat) : Int) + 1)) none = B.map wdD := by
              rw [show (((A.length + 1 : Nat) : Int) + 1) = ((A.length + 1 + 1 : Nat) : Int) by omega, cut_from, List.drop_succ_cons, List.map_append, show A.length + 1 = (A.map wdD).length + 1 by rw [List.length_map], List.map_cons, show (A.map wdD) ++ wdD dryL :: B.map wdD = (A.map wdD ++ [wdD dryL]) ++ B.map wdD by rw [List.append_assoc]; rfl, show (A.map wdD).length + 1 = (A.map wdD ++ [wdD dryL]).length by rw [List.length_append]; rfl, List.drop_left]
            rw [e]
            exact hK _ fun _ _ => trivial
          · intro d hd p acc Q hp hQ
            obtain ⟨w, hw', rfl⟩ := List.mem_map.mp hd
            simp only [wExpr, wRaise, gSb, wSeq, wNext, wRet, wRetN, wExpr, wIfS, wSet, wAsg, wPar, wAug, w1, w2, wA, aNil, aCons, wVar, wVarT, wC, tOfW, w3c, wAnd, wOr, wNot, tAnd3, tOr3, tNot3, wIf, wTup, wLst, wLstO, wCall, wSl, pNone, pSome, wipe3, List.map_cons, List.map_nil, fI2, fI2C, fI1, fAbs, addI, mulI, intI, eqS, neS, isN_, notN_, L3.isNon, gN, gsN, gsC, gT, asT, at3, List.set_cons_zero, List.set_cons_succ, Option.some.injEq, exists_eq_left', D.bl.injEq, D.int.injEq, D.tup.injEq, List.length_cons, List.length_nil, Nat.reduceAdd, true_and, if_true, if_false, Bool.false_eq_true, reduceIte, ite_true, ite_false, len_t0, len_t1, len_t2, len_t3, len_l0, len_l1, eqI, neI, Int.reduceBEq, Int.reduceLT, Int.reduceLE, Int.reduceNeg, decide_true, decide_false, Bool.not_true, Bool.not_false, ix0, ix1, ix2, and_true, and_self, S_sgw, wdD]
            exact ⟨w, rfl, wB w hw', hQ⟩
          · simp only [sgOf_map]
            rw [len_lst, List.length_map, eqI]
            refine ⟨_, rfl, ?_⟩
            by_cases a0 : A = []
            · rw [if_pos (.inl a0)] at hR
              rw [if_pos (by rw [a0]; rfl)]
              exact hR
            · have al := List.length_pos_iff.mpr a0
              rw [if_neg (by rw [beq_iff_eq]; omega)]
              have isn : ∀ q : Option Fr, L3.isNon (sgD q) = decide (q = none) := fun q => by
                cases q with
                | none => rfl
                | some q => rfl
              refine wLc_it (ds := A.map (fun w => sgD (sgW w)) ++ B.map (fun w => sgD (sgW w))) (fun d => .bl (L3.isNon d)) rfl (by rw [List.length_append, List.length_map, List.length_map]; exact size_small (by omega)) (fun Kt hK => ?_) ?_ ?_
              · simp only [wExpr, wRaise, gSb, wSeq, wNext, wRet, wRetN, wExpr, wIfS, wSet, wAsg, wPar, wAug, w1, w2, wA, aNil, aCons, wVar, wVarT, wC, tOfW, w3c, wAnd, wOr, wNot, tAnd3, tOr3, tNot3, wIf, wTup, wLst, wLstO, wCall, wSl, pNone, pSome, wipe3, List.map_cons, List.map_nil, fI2, fI2C, fI1, fAbs, addI, mulI, intI, eqS, neS, isN_, notN_, L3.isNon, gN, gsN, gsC, gT, asT, at3, List.set_cons_zero, List.set_cons_succ, Option.some.injEq, exists_eq_left', D.bl.injEq, D.int.injEq, D.tup.injEq, List.length_cons, List.length_nil, Nat.reduceAdd, true_and, if_true, if_false, Bool.false_eq_true, reduceIte, ite_true, ite_false, len_t0, len_t1, len_t2, len_t3, len_l0, len_l1, eqI, neI, Int.reduceBEq, Int.reduceLT, Int.reduceLE, Int.reduceNeg, decide_true, decide_false, Bool.not_true, Bool.not_false, ix0, ix1, ix2, and_true, and_self, iLst]
                refine add_lst (by rw [List.length_map, List.length_map]; exact size_small (by omega)) ⟨_, rfl, hK _ fun _ _ => trivial⟩
              · intro d hd p acc Q hp hQ
                simp only [wExpr, wRaise, gSb, wSeq, wNext, wRet, wRetN, wExpr, wIfS, wSet, wAsg, wPar, wAug, w1, w2, wA, aNil, aCons, wVar, wVarT, wC, tOfW, w3c, wAnd, wOr, wNot, tAnd3, tOr3, tNot3, wIf, wTup, wLst, wLstO, wCall, wSl, pNone, pSome, wipe3, List.map_cons, List.map_nil, fI2, fI2C, fI1, fAbs, addI, mulI, intI, eqS, neS, isN_, notN_, L3.isNon, gN, gsN, gsC, gT, asT, at3, List.set_cons_zero, List.set_cons_succ, Option.some.injEq, exists_eq_left', D.bl.injEq, D.int.injEq, D.tup.injEq, List.length_cons, List.length_nil, Nat.reduceAdd, true_and, if_true, if_false, Bool.false_eq_true, reduceIte, ite_true, ite_false, len_t0, len_t1, len_t2, len_t3, len_l0, len_l1, eqI, neI, Int.reduceBEq, Int.reduceLT, Int.reduceLE, Int.reduceNeg, decide_true, decide_false, Bool.not_true, Bool.not_false, ix0, ix1, ix2, and_true, and_self]
                exact hQ
              · have eb : ((A.map (fun w => sgD (sgW w)) ++ B.map (fun w => sgD (sgW w))).map fun d => D.bl (L3.isNon d)) = ((A.map sgW ++ B.map sgW).map fun q => decide (q = none)).map D.bl := by
                  rw [← List.map_append, ← List.map_append, List.map_map, List.map_map, List.map_map]
                  refine List.map_congr_left fun w _ => ?_
                  show D.bl (L3.isNon (sgD (sgW w))) = D.bl (decide (sgW w = none))
                  rw [isn]
                rw [eb, any_lst (bools_map _)]
                refine ⟨_, rfl, ?_⟩
                have ea : ((A.map sgW ++ B.map sgW).map fun q => decide (q = none)).any id = decide (none ∈ A.map sgW ++ B.map sgW) := by
                  rw [Bool.eq_iff_iff, List.any_map, List.any_eq_true, decide_eq_true_eq]
                  constructor
                  · rintro ⟨q, hq, e⟩
                    have e' : decide (q = none) = true := e
                    rw [decide_eq_true_eq] at e'
                    rw [← e']
                    exact hq
                  · intro h
                    exact ⟨none, h, rfl⟩
                rw [ea]
                by_cases n0 : none ∈ A.map sgW ++ B.map sgW
                · rw [if_pos (.inr n0)] at hR
                  rw [if_pos (by rw [decide_eq_true_eq]; exact n0)]
                  exact hR
                · rw [if_neg (by rintro (z | z); exact a0 z; exact n0 z)] at hR
                  rw [if_neg (by rw [decide_eq_true_eq]; exact n0)]
                  refine ⟨_, rfl, _, rfl, sizeLine_eq ▸ (by decide), ?_⟩
                  have e1 : (A.map sgW).map sgD = A.map fun w => sgD (sgW w) := by rw [List.map_map]; rfl
                  have e2 : (B.map sgW).map sgD = B.map fun w => sgD (sgW w) := by rw [List.map_map]; rfl
                  have hR' : R (.tup [.tup ((A.map sgW).map sgD), .tup ((B.map sgW).map sgD)]) G' := hR
                  rw [e1, e2] at hR'
                  exact hR'
    · intro N hN
      simp only [wExpr, wRaise, gSb, wSeq, wNext, wRet, wRetN, wExpr, wIfS, wSet, wAsg, wPar, wAug, w1, w2, wA, aNil, aCons, wVar, wVarT, wC, tOfW, w3c, wAnd, wOr, wNot, tAnd3, tOr3, tNot3, wIf, wTup, wLst, wLstO, wCall, wSl, pNone, pSome, wipe3, List.map_cons, List.map_nil, fI2, fI2C, fI1, fAbs, addI, mulI, intI, eqS, neS, isN_, notN_, L3.isNon, gN, gsN, gsC, gT, asT, at3, List.set_cons_zero, List.set_cons_succ, Option.some.injEq, exists_eq_left', D.bl.injEq, D.int.injEq, D.tup.injEq, List.length_cons, List.length_nil, Nat.reduceAdd, true_and, if_true, if_false, Bool.false_eq_true, reduceIte, ite_true, ite_false, len_t0, len_t1, len_t2, len_t3, len_l0, len_l1, eqI, neI, Int.reduceBEq, Int.reduceLT, Int.reduceLE, Int.reduceNeg, decide_true, decide_false, Bool.not_true, Bool.not_false, ix0, ix1, ix2, and_true, and_self, len_lst, List.length_map]
      have out : (ws.length < 3 ∨ ws.head? ≠ some drawL ∨ ¬ dryL ∈ ws) → R .non G := fun z => by
        unfold plW at hR
        rw [if_pos z] at hR
        exact hR
      by_cases z1 : ws.length < 3
      · rw [if_pos (by rw [decide_eq_true_eq]; omega)]
        exact out (.inl z1)
      · rw [if_neg (by rw [decide_eq_true_eq]; omega)]
        obtain ⟨w, hw0⟩ : ∃ w, ws[0]? = some w := ⟨_, List.getElem?_eq_getElem (by omega)⟩
        have hx : (ws.map wdD)[0]? = some (wdD w) := by rw [List.getElem?_map, hw0]; rfl
        rw [show (0 : Int) = ((0 : Nat) : Int) from rfl, ix_lst (atD_nat hx)]
        have ez : ("draw" : Str) = Sg drawL := by decide +kernel
        have ey : ("dry" : Str) = Sg dryL := by decide +kernel
        show fNe (.str (Sg w)) _ _ _
        rw [ez, neS, SX.S_beq_eq]
        refine ⟨_, rfl, ?_⟩
        by_cases z2 : w = drawL
        · rw [if_neg (by rw [decide_eq_true z2]; decide)]
          refine ⟨ws.map wdD, rfl, rfl, ?_, ?_⟩
          · rw [List.all_map, List.all_eq_true]
            intro _ _
            rfl
          · have ei : inF (.str "dry") (ws.map wdD) = decide (dryL ∈ ws) := by
              unfold inF
              rw [Bool.eq_iff_iff, List.any_eq_true, decide_eq_true_eq, ey]
              constructor
              · rintro ⟨y, hy, he⟩
                obtain ⟨v, hv, rfl⟩ := List.mem_map.mp hy
                have he' : (Sg v == Sg dryL) = true := he
                rw [SX.S_beq_eq, decide_eq_true_eq] at he'
                rw [← he']
                exact hv
              · intro hv
                exact ⟨wdD dryL, List.mem_map_of_mem hv, by show (Sg dryL == Sg dryL) = true; rw [beq_self_eq_true]⟩
            rw [ei]
            refine ⟨_, rfl, ?_⟩
            by_cases z3 : dryL ∈ ws
            · rw [if_neg (by rw [decide_eq_true z3]; decide)]
              exact hN _ _ ⟨by
                rintro (z | z | z)
                · exact z1 z
                · exact z (by rw [List.head?_eq_getElem?, hw0, z2])
                · exact z z3, rfl, rfl⟩
            · rw [if_pos (by rw [decide_eq_false z3]; decide)]
              exact out (.inr (.inr z3))
        · rw [if_pos (by rw [decide_eq_false z2]; decide)]
          exact out (.inr (.inl fun e => z2 (by rw [List.head?_eq_getElem?, hw0] at e; exact Option.some.inj e)))
def S_rdp (K : PySem.W.Frag) : SP3 := fun ds G R Ex => match ds with
  | [x] => (∃ L : List Nat, x = .str (Sg L) ∧ L.length ≤ 100000 ∧ (TL.spl [32] 0 [] L).length ≤ 1000 ∧ (∀ q, plW (TL.spl [32] 0 [] L) = some q → R (plD (some q)) G) ∧ (plW (TL.spl [32] 0 [] L) = none → ∀ env, Ex (.ref (He.ga K "BadText")) (some (["line"], [.int 0])) env G)) ∨
      (rdD x = true ∧ (∀ s, x ≠ .str s) ∧ ∀ env, Ex (.ref (He.ga K "BadText")) (some (["line"], [.int 0])) env G)
  | _ => False
theorem spl_short : ∀ (L : List Nat) (k : Nat) (acc : List Nat), ∀ w ∈ TL.spl [32] k acc L, w.length ≤ acc.length + L.length
  | [], k, acc, w, h => by
    have h' : w ∈ [acc] := by cases k <;> exact h
    rw [List.mem_singleton.mp h']
    exact Nat.le_add_right _ _
  | c :: r, 0, acc, w, h => by
    unfold TL.spl at h
    split at h
    · rcases List.mem_cons.mp h with z | z
      · rw [z]
        exact Nat.le_add_right _ _
      · have := spl_short r _ [] w z
        rw [List.length_cons]
        rw [List.length_nil] at this
        omega
    · have := spl_short r 0 (acc ++ [c]) w h
      rw [List.length_append, List.length_singleton] at this
      rw [List.length_cons]
      omega
  | c :: r, k + 1, acc, w, h => by
    have := spl_short r k acc w h
    rw [List.length_cons]
    omega
theorem ok_rdp (T : Tx K mg) : Good P w K mg base "read_plan" ["text"] 6 (S_rdp K) := by
  have g_plan_words := ok_plw (P := P) (w := w) (base := base) T
  have g_BadText := ok_BadText (P := P) (w := w) (base := base) T
  refine good_of (d_read_plan T) sc_read_plan fun f cd A outer s H E hp tk hgd hr => ⟨_, (s_cons (s_set 1 sc_read_plan.nd rfl (.inl rfl) rfl (c_if (t_val (c_callB call_isi3 (lift_isi (K := K)) (n_isinstance T) (a_cons (c_var 0) (a_cons (c_bltn (n := "str") (n_str T)) a_nil)))) (c_call g_plan_words (hr.mono (by omega)) hgd tk (a_cons (c_bm PySem.F.plainAttrs_str PySem.F.slot_str_split PySem.F.type_str_split mt_split m_split (c_var 0) (a_cons c_str a_nil)) a_nil)) c_non))
      (s_cons (s_if (t_cmp op_isN lift_isN (c_var 1) c_non) (s_one (s_raiseF g_BadText (hr.mono (by omega)) rfl tk (a_cons c_int a_nil))) s_nil)
      (s_one (s_ret (c_var 1))))), fun ds G R Ex hlen hS => ?_⟩
  clear hp tk hgd hr hlen
  match ds, hS with
  | [x], h =>
    rw [show start3 ["text", "found"] [x] = [some (x), none] from rfl]
    rcases h with ⟨L, rfl, hl, hw, h1, h2⟩ | ⟨hr, hns, h2⟩
    · have hs : rdD (.str (Sg L)) = true := rfl
      simp only [wExpr, wRaise, gSb, wSeq, wNext, wRet, wRetN, wExpr, wIfS, wSet, wAsg, wPar, wAug, w1, w2, wA, aNil, aCons, wVar, wVarT, wC, tOfW, w3c, wAnd, wOr, wNot, tAnd3, tOr3, tNot3, wIf, wTup, wLst, wLstO, wCall, wSl, pNone, pSome, wipe3, List.map_cons, List.map_nil, fI2, fI2C, fI1, fAbs, addI, mulI, intI, eqS, neS, isN_, notN_, L3.isNon, gN, gsN, gsC, gT, asT, at3, List.set_cons_zero, List.set_cons_succ, Option.some.injEq, exists_eq_left', D.bl.injEq, D.int.injEq, D.tup.injEq, List.length_cons, List.length_nil, Nat.reduceAdd, true_and, if_true, if_false, Bool.false_eq_true, reduceIte, ite_true, ite_false, len_t0, len_t1, len_t2, len_t3, len_l0, len_l1, eqI, neI, Int.reduceBEq, Int.reduceLT, Int.reduceLE, Int.reduceNeg, decide_true, decide_false, Bool.not_true, Bool.not_false, ix0, ix1, ix2, and_true, and_self, isi_str hs, wM, S_plw, wRaiseF]
      rw [if_pos (show isStrD (.str (Sg L)) = true from rfl)]
      have ez : (" " : Str) = Sg [32] := by decide +kernel
      refine ⟨⟨_, rfl⟩, _, _, rfl, rfl, by decide +kernel, by rw [SX.S_len, sizeLine_eq]; omega, TL.spl [32] 0 [] L, ?_, hw, fun w hw' => ?_, ?_⟩
      · rw [ez, SX.split_S (by decide) (by decide), List.map_map]
        rfl
      · have := spl_short L 0 [] w hw'
        rw [List.length_nil] at this
        omega
      · cases e : plW (TL.spl [32] 0 [] L) with
        | none =>
          simp only [plD]
          exact ⟨by decide +kernel, h2 e _⟩
        | some q =>
          exact h1 q e
    · simp only [wExpr, wRaise, gSb, wSeq, wNext, wRet, wRetN, wExpr, wIfS, wSet, wAsg, wPar, wAug, w1, w2, wA, aNil, aCons, wVar, wVarT, wC, tOfW, w3c, wAnd, wOr, wNot, tAnd3, tOr3, tNot3, wIf, wTup, wLst, wLstO, wCall, wSl, pNone, pSome, wipe3, List.map_cons, List.map_nil, fI2, fI2C, fI1, fAbs, addI, mulI, intI, eqS, neS, isN_, notN_, L3.isNon, gN, gsN, gsC, gT, asT, at3, List.set_cons_zero, List.set_cons_succ, Option.some.injEq, exists_eq_left', D.bl.injEq, D.int.injEq, D.tup.injEq, List.length_cons, List.length_nil, Nat.reduceAdd, true_and, if_true, if_false, Bool.false_eq_true, reduceIte, ite_true, ite_false, len_t0, len_t1, len_t2, len_t3, len_l0, len_l1, eqI, neI, Int.reduceBEq, Int.reduceLT, Int.reduceLE, Int.reduceNeg, decide_true, decide_false, Bool.not_true, Bool.not_false, ix0, ix1, ix2, and_true, and_self, isi_str hr, wM, S_plw, wRaiseF]
      rw [if_neg (by
        cases x with
        | str s => exact absurd rfl (hns s)
        | _ => exact Bool.false_ne_true)]
      exact ⟨by decide +kernel, h2 _⟩
end

end K69

set_option Elab.async false
set_option linter.all false
set_option maxRecDepth 100000
set_option maxHeartbeats 0
namespace K69
open PySem PySem.Spec L2 L3
open PyProof.Rows hiding St
/-! ### recipes of long numbers -/
mutual
/-- plain, ints not too long to reckon with -/
def bsD : D → Bool
  | .non => true
  | .bl _ => true
  | .int i => decide (i.natAbs < 2 ^ 3900)
  | .str _ => true
  | .tup xs => bsL xs
  | .lst xs => bsL xs
  | .lsx xs => bsL xs
  | .dct _ xs => bsL xs
  | _ => false
def bsL : List D → Bool
  | [] => true
  | d :: r => bsD d && bsL r
end
mutual
theorem bs_rd : ∀ (d : D), bsD d = true → rdD d = true
  | .non, _ => rfl
  | .bl _, _ => rfl
  | .int _, _ => rfl
  | .str _, _ => rfl
  | .tup xs, h => bsL_rd xs h
  | .lst xs, h => bsL_rd xs h
  | .lsx xs, h => bsL_rd xs h
  | .dct _ xs, h => bsL_rd xs h
  | .ty _, h => by cases h
  | .ins _ _ _, h => by cases h
  | .ref _, h => by cases h
  | .tpf _, h => by cases h
  | .exc _ _ _ _, h => by cases h
  | .lam _ _ _ _ _, h => by cases h
theorem bsL_rd : ∀ (ds : List D), bsL ds = true → rdDL ds = true
  | [], _ => rfl
  | d :: r, h => by
    have h' : (bsD d && bsL r) = true := h
    rw [Bool.and_eq_true] at h'
    show (rdD d && rdDL r) = true
    rw [bs_rd d h'.1, bsL_rd r h'.2]
    rfl
end
theorem bsL_iff {xs : List D} : bsL xs = true ↔ ∀ x ∈ xs, bsD x = true := by
  induction xs with
  | nil => simp [bsL]
  | cons a xs ih => simp [bsL, ih]
theorem bs_tup {xs : List D} (h : bsD (.tup xs) = true) : ∀ x ∈ xs, bsD x = true := bsL_iff.mp h
theorem bs_bd {x : D} (h : bsD x = true) : ∀ n d, x = .tup [.int n, .int d] → Bd n ∧ Bd d := by
  intro n d e
  subst e
  have l : (2 : Nat) ^ 3900 ≤ 2 ^ 8000 := Nat.pow_le_pow_right (by decide) (by decide)
  have h1 : n.natAbs < 2 ^ 3900 := of_decide_eq_true (bs_tup h (.int n) (by simp))
  have h2 : d.natAbs < 2 ^ 3900 := of_decide_eq_true (bs_tup h (.int d) (by simp))
  exact ⟨Nat.lt_of_lt_of_le h1 l, Nat.lt_of_lt_of_le h2 l⟩
section
variable {P : Program} {w : World} {K : PySem.W.Frag} {mg : Str → Option Value} {base : Heap}
def S_fr2 : SP3 := fun ds G R _ => match ds with
  | [x] => bsD x = true ∧ R (.bl (isFracD x)) G
  | _ => False
theorem ok_fr2 (T : Tx K mg) : Good P w K mg base "is_fraction" ["thing"] 2 S_fr2 := by
  have g_is_int := ok_is_int (P := P) (w := w) (base := base) T
  have g_divisor := ok_divisor (P := P) (w := w) (base := base) T
  refine good_of (d_is_fraction T) sc_is_fraction fun f cd A outer s H E hp tk hgd hr => ⟨_, (s_cons (s_if (t_w (o_or (t_not (t_val (c_callB call_isi3 (lift_isi (K := K)) (n_isinstance T) (a_cons (c_var 0) (a_cons (c_bltn (n := "tuple") (n_tuple T)) a_nil))))) (o_or (t_cmp (op_ne3 hr.units) lift_ne (c_callB call_len lift_len (n_len T) (a_cons (c_var 0) a_nil)) c_int) (o_or (t_not (t_val (c_call g_is_int (hr.mono (by omega)) hgd tk (a_cons (c_ix (c_var 0) c_int) a_nil)))) (o_or1 (t_not (t_val (c_call g_is_int (hr.mono (by omega)) hgd tk (a_cons (c_ix (c_var 0) c_int) a_nil))))))))) (s_one (s_ret c_bl)) s_nil)
      (s_one (s_ret (c_and (c_cmp op_ge lift_I2b (c_ix (c_var 0) c_int) c_int) (c_one (c_cmp (op_eq3 hr.units) lift_eq (c_call g_divisor (hr.mono (by omega)) hgd tk (a_cons (c_ix (c_var 0) c_int) (a_cons (c_ix (c_var 0) c_int) a_nil))) c_int)))))), fun ds G R Ex hlen hS => ?_⟩
  clear hp tk hgd hr hlen
  match ds, hS with
  | [x], ⟨h0, h2⟩ =>
    have h1 := bs_rd x h0
    have hB := bs_bd h0
    rw [show start3 ["thing"] [x] = [some (x)] from rfl]
    have hr := h1
    simp only [wExpr, wRaise, gSb, wSeq, wNext, wRet, wRetN, wExpr, wIfS, wSet, wAsg, wPar, wAug, w1, w2, wA, aNil, aCons, wVar, wVarT, wC, tOfW, w3c, wAnd, wOr, wNot, tAnd3, tOr3, tNot3, wIf, wTup, wLst, wLstO, wCall, wSl, pNone, pSome, wipe3, List.map_cons, List.map_nil, fI2, fI2C, fI1, fAbs, addI, mulI, intI, eqS, neS, isN_, notN_, L3.isNon, gN, gsN, gsC, gT, asT, at3, List.set_cons_zero, List.set_cons_succ, Option.some.injEq, exists_eq_left', D.bl.injEq, D.int.injEq, D.tup.injEq, List.length_cons, List.length_nil, Nat.reduceAdd, true_and, if_true, if_false, Bool.false_eq_true, reduceIte, ite_true, ite_false, len_t0, len_t1, len_t2, len_t3, len_l0, len_l1, eqI, neI, Int.reduceBEq, Int.reduceLT, Int.reduceLE, Int.reduceNeg, decide_true, decide_false, Bool.not_true, Bool.not_false, ix0, ix1, ix2, and_true, and_self, S_is_int, S_divisor, isi_tup hr]
    cases x with
    | tup xs =>
      have hx : ∀ y ∈ xs, rdD y = true := rdDL_iff.mp h1
      simp only [wExpr, wRaise, gSb, wSeq, wNext, wRet, wRetN, wExpr, wIfS, wSet, wAsg, wPar, wAug, w1, w2, wA, aNil, aCons, wVar, wVarT, wC, tOfW, w3c, wAnd, wOr, wNot, tAnd3, tOr3, tNot3, wIf, wTup, wLst, wLstO, wCall, wSl, pNone, pSome, wipe3, List.map_cons, List.map_nil, fI2, fI2C, fI1, fAbs, addI, mulI, intI, eqS, neS, isN_, notN_, L3.isNon, gN, gsN, gsC, gT, asT, at3, List.set_cons_zero, List.set_cons_succ, Option.some.injEq, exists_eq_left', D.bl.injEq, D.int.injEq, D.tup.injEq, List.length_cons, List.length_nil, Nat.reduceAdd, true_and, if_true, if_false, Bool.false_eq_true, reduceIte, ite_true, ite_false, len_t0, len_t1, len_t2, len_t3, len_l0, len_l1, eqI, neI, Int.reduceBEq, Int.reduceLT, Int.reduceLE, Int.reduceNeg, decide_true, decide_false, Bool.not_true, Bool.not_false, ix0, ix1, ix2, and_true, and_self, isTupD]
      match xs, hx with
      | [], _ => (simp only [wExpr, wRaise, gSb, wSeq, wNext, wRet, wRetN, wExpr, wIfS, wSet, wAsg, wPar, wAug, w1, w2, wA, aNil, aCons, wVar, wVarT, wC, tOfW, w3c, wAnd, wOr, wNot, tAnd3, tOr3, tNot3, wIf, wTup, wLst, wLstO, wCall, wSl, pNone, pSome, wipe3, List.map_cons, List.map_nil, fI2, fI2C, fI1, fAbs, addI, mulI, intI, eqS, neS, isN_, notN_, L3.isNon, gN, gsN, gsC, gT, asT, at3, List.set_cons_zero, List.set_cons_succ, Option.some.injEq, exists_eq_left', D.bl.injEq, D.int.injEq, D.tup.injEq, List.length_cons, List.length_nil, Nat.reduceAdd, true_and, if_true, if_false, Bool.false_eq_true, reduceIte, ite_true, ite_false, len_t0, len_t1, len_t2, len_t3, len_l0, len_l1, eqI, neI, Int.reduceBEq, Int.reduceLT, Int.reduceLE, Int.reduceNeg, decide_true, decide_false, Bool.not_true, Bool.not_false, ix0, ix1, ix2, and_true, and_self]; exact h2)
      | [a], _ => (simp only [wExpr, wRaise, gSb, wSeq, wNext, wRet, wRetN, wExpr, wIfS, wSet, wAsg, wPar, wAug, w1, w2, wA, aNil, aCons, wVar, wVarT, wC, tOfW, w3c, wAnd, wOr, wNot, tAnd3, tOr3, tNot3, wIf, wTup, wLst, wLstO, wCall, wSl, pNone, pSome, wipe3, List.map_cons, List.map_nil, fI2, fI2C, fI1, fAbs, addI, mulI, intI, eqS, neS, isN_, notN_, L3.isNon, gN, gsN, gsC, gT, asT, at3, List.set_cons_zero, List.set_cons_succ, Option.some.injEq, exists_eq_left', D.bl.injEq, D.int.injEq, D.tup.injEq, List.length_cons, List.length_nil, Nat.reduceAdd, true_and, if_true, if_false, Bool.false_eq_true, reduceIte, ite_true, ite_false, len_t0, len_t1, len_t2, len_t3, len_l0, len_l1, eqI, neI, Int.reduceBEq, Int.reduceLT, Int.reduceLE, Int.reduceNeg, decide_true, decide_false, Bool.not_true, Bool.not_false, ix0, ix1, ix2, and_true, and_self]; exact h2)
      | [a, b], hx =>
        have ha := hx a (by simp)
        have hb := hx b (by simp)
        simp only [wExpr, wRaise, gSb, wSeq, wNext, wRet, wRetN, wExpr, wIfS, wSet, wAsg, wPar, wAug, w1, w2, wA, aNil, aCons, wVar, wVarT, wC, tOfW, w3c, wAnd, wOr, wNot, tAnd3, tOr3, tNot3, wIf, wTup, wLst, wLstO, wCall, wSl, pNone, pSome, wipe3, List.map_cons, List.map_nil, fI2, fI2C, fI1, fAbs, addI, mulI, intI, eqS, neS, isN_, notN_, L3.isNon, gN, gsN, gsC, gT, asT, at3, List.set_cons_zero, List.set_cons_succ, Option.some.injEq, exists_eq_left', D.bl.injEq, D.int.injEq, D.tup.injEq, List.length_cons, List.length_nil, Nat.reduceAdd, true_and, if_true, if_false, Bool.false_eq_true, reduceIte, ite_true, ite_false, len_t0, len_t1, len_t2, len_t3, len_l0, len_l1, eqI, neI, Int.reduceBEq, Int.reduceLT, Int.reduceLE, Int.reduceNeg, decide_true, decide_false, Bool.not_true, Bool.not_false, ix0, ix1, ix2, and_true, and_self, ha, hb]
        cases a with
        | int n =>
          cases b with
          | int d =>
            obtain ⟨bn, bd⟩ := hB n d rfl
            simp only [wExpr, wRaise, gSb, wSeq, wNext, wRet, wRetN, wExpr, wIfS, wSet, wAsg, wPar, wAug, w1, w2, wA, aNil, aCons, wVar, wVarT, wC, tOfW, w3c, wAnd, wOr, wNot, tAnd3, tOr3, tNot3, wIf, wTup, wLst, wLstO, wCall, wSl, pNone, pSome, wipe3, List.map_cons, List.map_nil, fI2, fI2C, fI1, fAbs, addI, mulI, intI, eqS, neS, isN_, notN_, L3.isNon, gN, gsN, gsC, gT, asT, at3, List.set_cons_zero, List.set_cons_succ, Option.some.injEq, exists_eq_left', D.bl.injEq, D.int.injEq, D.tup.injEq, List.length_cons, List.length_nil, Nat.reduceAdd, true_and, if_true, if_false, Bool.false_eq_true, reduceIte, ite_true, ite_false, len_t0, len_t1, len_t2, len_t3, len_l0, len_l1, eqI, neI, Int.reduceBEq, Int.reduceLT, Int.reduceLE, Int.reduceNeg, decide_true, decide_false, Bool.not_true, Bool.not_false, ix0, ix1, ix2, and_true, and_self, isIntD]
            simp only [isFracD, fracAt] at h2
            by_cases hd : 1 ≤ d
            · have hd' : 0 < d := by omega
              simp only [hd, decide_true, Bool.true_and] at h2
              simp only [hd, hd', bn, bd, true_and, if_true]
              have e : (((Int.gcd n d : Nat) : Int) == 1) = (Int.gcd n d == 1) := by
                rw [Bool.eq_iff_iff, beq_iff_eq, beq_iff_eq]
                omega
              rw [e]
              exact h2
            · simp only [hd, decide_false, Bool.false_and] at h2
              simp only [hd, wExpr, wRaise, gSb, wSeq, wNext, wRet, wRetN, wExpr, wIfS, wSet, wAsg, wPar, wAug, w1, w2, wA, aNil, aCons, wVar, wVarT, wC, tOfW, w3c, wAnd, wOr, wNot, tAnd3, tOr3, tNot3, wIf, wTup, wLst, wLstO, wCall, wSl, pNone, pSome, wipe3, List.map_cons, List.map_nil, fI2, fI2C, fI1, fAbs, addI, mulI, intI, eqS, neS, isN_, notN_, L3.isNon, gN, gsN, gsC, gT, asT, at3, List.set_cons_zero, List.set_cons_succ, Option.some.injEq, exists_eq_left', D.bl.injEq, D.int.injEq, D.tup.injEq, List.length_cons, List.length_nil, Nat.reduceAdd, true_and, if_true, if_false, Bool.false_eq_true, reduceIte, ite_true, ite_false, len_t0, len_t1, len_t2, len_t3, len_l0, len_l1, eqI, neI, Int.reduceBEq, Int.reduceLT, Int.reduceLE, Int.reduceNeg, decide_true, decide_false, Bool.not_true, Bool.not_false, ix0, ix1, ix2, and_true, and_self]
              exact h2
          | _ => (simp only [wExpr, wRaise, gSb, wSeq, wNext, wRet, wRetN, wExpr, wIfS, wSet, wAsg, wPar, wAug, w1, w2, wA, aNil, aCons, wVar, wVarT, wC, tOfW, w3c, wAnd, wOr, wNot, tAnd3, tOr3, tNot3, wIf, wTup, wLst, wLstO, wCall, wSl, pNone, pSome, wipe3, List.map_cons, List.map_nil, fI2, fI2C, fI1, fAbs, addI, mulI, intI, eqS, neS, isN_, notN_, L3.isNon, gN, gsN, gsC, gT, asT, at3, List.set_cons_zero, List.set_cons_succ, Option.some.injEq, exists_eq_left', D.bl.injEq, D.int.injEq, D.tup.injEq, List.length_cons, List.length_nil, Nat.reduceAdd, true_and, if_true, if_false, Bool.false_eq_true, reduceIte, ite_true, ite_false, len_t0, len_t1, len_t2, len_t3, len_l0, len_l1, eqI, neI, Int.reduceBEq, Int.reduceLT, Int.reduceLE, Int.reduceNeg, decide_true, decide_false, Bool.not_true, Bool.not_false, ix0, ix1, ix2, and_true, and_self, isIntD]; exact h2)
        | _ => (simp only [wExpr, wRaise, gSb, wSeq, wNext, wRet, wRetN, wExpr, wIfS, wSet, wAsg, wPar, wAug, w1, w2, wA, aNil, aCons, wVar, wVarT, wC, tOfW, w3c, wAnd, wOr, wNot, tAnd3, tOr3, tNot3, wIf, wTup, wLst, wLstO, wCall, wSl, pNone, pSome, wipe3, List.map_cons, List.map_nil, fI2, fI2C, fI1, fAbs, addI, mulI, intI, eqS, neS, isN_, notN_, L3.isNon, gN, gsN, gsC, gT, asT, at3, List.set_cons_zero, List.set_cons_succ, Option.some.injEq, exists_eq_left', D.bl.injEq, D.int.injEq, D.tup.injEq, List.length_cons, List.length_nil, Nat.reduceAdd, true_and, if_true, if_false, Bool.false_eq_true, reduceIte, ite_true, ite_false, len_t0, len_t1, len_t2, len_t3, len_l0, len_l1, eqI, neI, Int.reduceBEq, Int.reduceLT, Int.reduceLE, Int.reduceNeg, decide_true, decide_false, Bool.not_true, Bool.not_false, ix0, ix1, ix2, and_true, and_self, isIntD]; exact h2)
      | a :: b :: c :: r, _ => (simp only [wExpr, wRaise, gSb, wSeq, wNext, wRet, wRetN, wExpr, wIfS, wSet, wAsg, wPar, wAug, w1, w2, wA, aNil, aCons, wVar, wVarT, wC, tOfW, w3c, wAnd, wOr, wNot, tAnd3, tOr3, tNot3, wIf, wTup, wLst, wLstO, wCall, wSl, pNone, pSome, wipe3, List.map_cons, List.map_nil, fI2, fI2C, fI1, fAbs, addI, mulI, intI, eqS, neS, isN_, notN_, L3.isNon, gN, gsN, gsC, gT, asT, at3, List.set_cons_zero, List.set_cons_succ, Option.some.injEq, exists_eq_left', D.bl.injEq, D.int.injEq, D.tup.injEq, List.length_cons, List.length_nil, Nat.reduceAdd, true_and, if_true, if_false, Bool.false_eq_true, reduceIte, ite_true, ite_false, len_t0, len_t1, len_t2, len_t3, len_l0, len_l1, eqI, neI, Int.reduceBEq, Int.reduceLT, Int.reduceLE, Int.reduceNeg, decide_true, decide_false, Bool.not_true, Bool.not_false, ix0, ix1, ix2, and_true, and_self, len_tup, more2]; exact h2)
    | _ => exact h2
end

end K69

set_option Elab.async false
set_option linter.all false
set_option maxRecDepth 100000
set_option maxHeartbeats 0
namespace K69
open PySem PySem.Spec L2 L3
open PyProof.Rows hiding St
/-! ### the writing of plans -/
def numZ (i : Int) : List Nat := if i < 0 then 45 :: TL.numL i.natAbs else TL.numL i.natAbs
theorem num_zs (i : Int) : Str.ofString (toString i) = Sg (numZ i) := by
  unfold numZ
  by_cases h : i < 0
  · rw [if_pos h, PyProof.Rows.toString_neg h]
    have e1 : (0 - i) = ((i.natAbs : Nat) : Int) := by omega
    rw [e1]
    have e2 : Str.ofString ("-" ++ toString ((i.natAbs : Nat) : Int)) = Str.ofString "-" ++ Str.ofString (toString ((i.natAbs : Nat) : Int)) := by
      rw [PySem.Str.ofString_eq_toList, PySem.Str.ofString_eq_toList, PySem.Str.ofString_eq_toList, String.toList_append, List.map_append]
      exact (SX.S_cat _ _).symm
    rw [e2, SX.num_S, show Str.ofString "-" = SX.S [45] from by decide +kernel, SX.S_cat]
    rfl
  · rw [if_neg h]
    have e1 : i = ((i.natAbs : Nat) : Int) := by omega
    conv => lhs; rw [e1]
    rw [SX.num_S]
def frL (q : Fr) : List Nat := if q.2 = 1 then numZ q.1 else numZ q.1 ++ 47 :: numZ q.2
/-- fractions in lowest terms, not too long -/
structure QOk (q : Fr) : Prop where
  d1 : 1 ≤ q.2
  d6 : q.2 < 10 ^ 600
  n6 : q.1.natAbs < 10 ^ 600
  g : Int.gcd q.1 q.2 = 1
theorem log_six {i : Int} (h : i.natAbs < 10 ^ 600) : i.natAbs.log2 < 2000 := by
  by_cases z : i.natAbs = 0
  · rw [z]; decide
  · exact (Nat.log2_lt z).mpr (Nat.lt_trans h (by decide +kernel))
section
variable {P : Program} {w : World} {K : PySem.W.Frag} {mg : Str → Option Value} {base : Heap}
def S_ft : SP3 := fun ds G R _ => match ds with
  | [x] => ∃ q, x = frI q ∧ QOk q ∧ R (.str (Sg (frL q))) G
  | _ => False
theorem ok_ft (T : Tx K mg) : Good P w K mg base "fraction_text" ["one"] 1 S_ft := by
  refine good_of (d_fraction_text T) sc_fraction_text fun f cd A outer s H E hp tk hgd hr => ⟨_, (s_one (s_ret (c_if (t_cmp (op_eq3 hr.units) lift_eq (c_ix (c_var 0) c_int) c_int) (c_callT (call_strD rfl (dig_at T)) lift_strD (n_str T) (a_cons (c_ix (c_var 0) c_int) a_nil)) (c_js rfl (dig_at T) (c_ix (c_var 0) c_int) (c_ix (c_var 0) c_int))))), fun ds G R Ex hlen hS => ?_⟩
  clear hp tk hgd hr hlen
  match ds, hS with
  | [x], ⟨q, e, hq, hR⟩ =>
    subst e
    rw [show start3 ["one"] [frI q] = [some (frI q)] from rfl]
    obtain ⟨n, d⟩ := q
    have l1 := log_six hq.n6
    have l2 := log_six (i := d) (by have := hq.d6; have := hq.d1; simp only at *; omega)
    simp only [wExpr, wRaise, gSb, wSeq, wNext, wRet, wRetN, wExpr, wIfS, wSet, wAsg, wPar, wAug, w1, w2, wA, aNil, aCons, wVar, wVarT, wC, tOfW, w3c, wAnd, wOr, wNot, tAnd3, tOr3, tNot3, wIf, wTup, wLst, wLstO, wCall, wSl, pNone, pSome, wipe3, List.map_cons, List.map_nil, fI2, fI2C, fI1, fAbs, addI, mulI, intI, eqS, neS, isN_, notN_, L3.isNon, gN, gsN, gsC, gT, asT, at3, List.set_cons_zero, List.set_cons_succ, Option.some.injEq, exists_eq_left', D.bl.injEq, D.int.injEq, D.tup.injEq, List.length_cons, List.length_nil, Nat.reduceAdd, true_and, if_true, if_false, Bool.false_eq_true, reduceIte, ite_true, ite_false, len_t0, len_t1, len_t2, len_t3, len_l0, len_l1, eqI, neI, Int.reduceBEq, Int.reduceLT, Int.reduceLE, Int.reduceNeg, decide_true, decide_false, Bool.not_true, Bool.not_false, ix0, ix1, ix2, and_true, and_self, frI, wJs]
    unfold frL at hR
    by_cases d1 : d = 1
    · rw [if_pos d1] at hR
      rw [if_pos (by rw [d1]; decide)]
      refine ⟨dig_lt l1, ?_⟩
      show R (.str (Str.ofString (toString n))) G
      rw [num_zs]
      exact hR
    · rw [if_neg d1] at hR
      rw [if_neg (by rw [beq_iff_eq]; exact d1)]
      refine ⟨l1, by decide +kernel, l2, ?_⟩
      rw [num_zs, num_zs, show Str.ofString "/" = Sg [47] by decide +kernel, SX.S_cat, SX.S_cat, List.append_assoc]
      exact hR
theorem ok_lw (T : Tx K mg) : Good P w K mg base "_law_word" ["one"] 1 S_ft := by
  refine good_of (d__law_word T) sc__law_word fun f cd A outer s H E hp tk hgd hr => ⟨_, (s_one (s_ret (c_if (t_cmp (op_eq3 hr.units) lift_eq (c_ix (c_var 0) c_int) c_int) (c_callT (call_strD rfl (dig_at T)) lift_strD (n_str T) (a_cons (c_ix (c_var 0) c_int) a_nil)) (c_op op_add3 lift_add (c_op op_add3 lift_add (c_callT (call_strD rfl (dig_at T)) lift_strD (n_str T) (a_cons (c_ix (c_var 0) c_int) a_nil)) c_str) (c_callT (call_strD rfl (dig_at T)) lift_strD (n_str T) (a_cons (c_ix (c_var 0) c_int) a_nil)))))), fun ds G R Ex hlen hS => ?_⟩
  clear hp tk hgd hr hlen
  match ds, hS with
  | [x], ⟨q, e, hq, hR⟩ =>
    subst e
    rw [show start3 ["one"] [frI q] = [some (frI q)] from rfl]
    obtain ⟨n, d⟩ := q
    have l1 := log_six hq.n6
    have l2 := log_six (i := d) (by have := hq.d6; have := hq.d1; simp only at *; omega)
    simp only [wExpr, wRaise, gSb, wSeq, wNext, wRet, wRetN, wExpr, wIfS, wSet, wAsg, wPar, wAug, w1, w2, wA, aNil, aCons, wVar, wVarT, wC, tOfW, w3c, wAnd, wOr, wNot, tAnd3, tOr3, tNot3, wIf, wTup, wLst, wLstO, wCall, wSl, pNone, pSome, wipe3, List.map_cons, List.map_nil, fI2, fI2C, fI1, fAbs, addI, mulI, intI, eqS, neS, isN_, notN_, L3.isNon, gN, gsN, gsC, gT, asT, at3, List.set_cons_zero, List.set_cons_succ, Option.some.injEq, exists_eq_left', D.bl.injEq, D.int.injEq, D.tup.injEq, List.length_cons, List.length_nil, Nat.reduceAdd, true_and, if_true, if_false, Bool.false_eq_true, reduceIte, ite_true, ite_false, len_t0, len_t1, len_t2, len_t3, len_l0, len_l1, eqI, neI, Int.reduceBEq, Int.reduceLT, Int.reduceLE, Int.reduceNeg, decide_true, decide_false, Bool.not_true, Bool.not_false, ix0, ix1, ix2, and_true, and_self, frI]
    unfold frL at hR
    by_cases d1 : d = 1
    · rw [if_pos d1] at hR
      rw [if_pos (by rw [d1]; decide)]
      refine ⟨dig_lt l1, ?_⟩
      show R (.str (Str.ofString (toString n))) G
      rw [num_zs]
      exact hR
    · rw [if_neg d1] at hR
      rw [if_neg (by rw [beq_iff_eq]; exact d1)]
      refine ⟨dig_lt l1, ?_⟩
      show fAdd (.str (Str.ofString (toString n))) _ _ _
      have len1 := dig_len l1
      have len2 := dig_len l2
      have ls : (Str.ofString "/").length ≤ 10 := by decide +kernel
      refine ⟨Nat.le_trans (Nat.add_le_add len1 ls) (by rw [sizeLine_eq]; decide), dig_lt l2, ?_⟩
      show fAdd (.str (Str.ofString (toString n) ++ Str.ofString "/")) (.str (Str.ofString (toString d))) _ _
      refine ⟨by rw [app_len]; exact Nat.le_trans (Nat.add_le_add (Nat.add_le_add len1 ls) len2) (by rw [sizeLine_eq]; decide), ?_⟩
      rw [num_zs, num_zs, show Str.ofString "/" = Sg [47] by decide +kernel, SX.S_cat, SX.S_cat, List.append_assoc]
      exact hR
end

end K69

set_option Elab.async false
set_option linter.all false
set_option maxRecDepth 100000
set_option maxHeartbeats 0
namespace K69
open PySem PySem.Spec L2 L3
open PyProof.Rows hiding St
/-! ### what is a plan -/
theorem bigT_is : ∃ n : Int, n = 10 ^ 600 := ⟨_, rfl⟩
noncomputable def bigT : Int := Classical.choose bigT_is
theorem bigT_def : bigT = 10 ^ 600 := Classical.choose_spec bigT_is
theorem bigT_eq : (1000000000000000000000000000000000000000000000000000000000000000000000000000000000000000000000000000000000000000000000000000000000000000000000000000000000000000000000000000000000000000000000000000000000000000000000000000000000000000000000000000000000000000000000000000000000000000000000000000000000000000000000000000000000000000000000000000000000000000000000000000000000000000000000000000000000000000000000000000000000000000000000000000000000000000000000000000000000000000000000000000000000000000000000000000000000000000000000000000000000000000000000000000000000000000000000000000000000000000000000000 : Int) = bigT := by
  rw [bigT_def]
  decide +kernel
noncomputable def shortB (x : D) : Bool := decide (((nmD x).natAbs : Int) < bigT) && decide (dnD x < bigT)
def rowB (x : D) : Bool := match x with
  | .tup xs => xs.all isFracD
  | _ => false
noncomputable def pairB (a b : D) : Bool := match a, b with
  | .tup xs, .tup ys => decide (xs ≠ []) && (xs.all isFracD && (ys.all isFracD && (xs ++ ys).all shortB))
  | _, _ => false
noncomputable def planB (x : D) : Bool := match x with
  | .tup [a, b] => pairB a b
  | _ => false
theorem bs_t {xs : List D} (h : ∀ d ∈ xs, bsD d = true) : bsD (.tup xs) = true := bsL_iff.mpr h
def lenN (x : D) : Nat := match x with
  | .tup xs => xs.length
  | _ => 0
section
variable {P : Program} {w : World} {K : PySem.W.Frag} {mg : Str → Option Value} {base : Heap}
def S_row : SP3 := fun ds G R _ => match ds with
  | [x, y] => ∃ m : Nat, y = .int (m : Nat) ∧ bsD x = true ∧ lenN x ≤ 1000000 ∧ R (.bl (decide (lenN x = m) && rowB x)) G
  | _ => False
theorem ok_row (T : Tx K mg) : Good P w K mg base "is_row" ["thing", "many"] 3 S_row := by
  have g_is_fraction := ok_fr2 (P := P) (w := w) (base := base) T
  refine good_of (d_is_row T) sc_is_row fun f cd A outer s H E hp tk hgd hr => ⟨_, (s_one (s_ret (c_and (c_callB call_isi3 (lift_isi (K := K)) (n_isinstance T) (a_cons (c_var 0) (a_cons (c_bltn (n := "tuple") (n_tuple T)) a_nil))) (c_and (c_cmp (op_eq3 hr.units) lift_eq (c_callB call_len lift_len (n_len T) (a_cons (c_var 0) a_nil)) (c_var 1)) (c_one (c_callB (cr_all rfl) lift_all (n_all T) (a_cons (c_lc [("part", 2)] rfl sc_is_row.nd (i_tpl (c_var 0)) (blkOk_by (by kernel_rfl)) (by decide) (fun _ _ _ _ _ => (g_name 2 sc_is_row.nd rfl (.inl rfl))) (fun _ _ _ _ _ => ts_nil) (fun _ _ _ _ _ => (c_call g_is_fraction (hr.mono (by omega)) hgd takes0 (a_cons (c_var 2) a_nil)))) a_nil))))))), fun ds G R Ex hlen hS => ?_⟩
  clear hp tk hgd hr hlen
  match ds, hS with
  | [x, y], ⟨m, e, hx, hl, hR⟩ =>
    subst e
    rw [show start3 ["thing", "many", "part"] [x, .int (m : Nat)] = [some (x), some (.int (m : Nat)), none] from rfl]
    have hr := bs_rd x hx
    simp only [wExpr, wRaise, gSb, wSeq, wNext, wRet, wRetN, wExpr, wIfS, wSet, wAsg, wPar, wAug, w1, w2, wA, aNil, aCons, wVar, wVarT, wC, tOfW, w3c, wAnd, wOr, wNot, tAnd3, tOr3, tNot3, wIf, wTup, wLst, wLstO, wCall, wSl, pNone, pSome, wipe3, List.map_cons, List.map_nil, fI2, fI2C, fI1, fAbs, addI, mulI, intI, eqS, neS, isN_, notN_, L3.isNon, gN, gsN, gsC, gT, asT, at3, List.set_cons_zero, List.set_cons_succ, Option.some.injEq, exists_eq_left', D.bl.injEq, D.int.injEq, D.tup.injEq, List.length_cons, List.length_nil, Nat.reduceAdd, true_and, if_true, if_false, Bool.false_eq_true, reduceIte, ite_true, ite_false, len_t0, len_t1, len_t2, len_t3, len_l0, len_l1, eqI, neI, Int.reduceBEq, Int.reduceLT, Int.reduceLE, Int.reduceNeg, decide_true, decide_false, Bool.not_true, Bool.not_false, ix0, ix1, ix2, and_true, and_self, isi_tup hr]
    cases x with
    | tup xs =>
      have hxs := bs_tup hx
      simp only [isTupD, if_true, len_tup, eqI, D.bl.injEq, exists_eq_left']
      have e : (((xs.length : Nat) : Int) == ((m : Nat) : Int)) = decide (lenN (.tup xs) = m) := by
        rw [Bool.eq_iff_iff, beq_iff_eq, decide_eq_true_eq]
        show _ ↔ xs.length = m
        omega
      rw [e]
      by_cases z : lenN (.tup xs) = m
      · rw [decide_eq_true z, Bool.true_and] at hR
        rw [decide_eq_true z, if_pos rfl]
        refine wLc_tup 0 (fun d => .bl (isFracD d)) rfl rfl (size_small hl) ?_ ?_
        · intro d hd p acc Q hp hQ
          simp only [wExpr, wRaise, gSb, wSeq, wNext, wRet, wRetN, wExpr, wIfS, wSet, wAsg, wPar, wAug, w1, w2, wA, aNil, aCons, wVar, wVarT, wC, tOfW, w3c, wAnd, wOr, wNot, tAnd3, tOr3, tNot3, wIf, wTup, wLst, wLstO, wCall, wSl, pNone, pSome, wipe3, List.map_cons, List.map_nil, fI2, fI2C, fI1, fAbs, addI, mulI, intI, eqS, neS, isN_, notN_, L3.isNon, gN, gsN, gsC, gT, asT, at3, List.set_cons_zero, List.set_cons_succ, Option.some.injEq, exists_eq_left', D.bl.injEq, D.int.injEq, D.tup.injEq, List.length_cons, List.length_nil, Nat.reduceAdd, true_and, if_true, if_false, Bool.false_eq_true, reduceIte, ite_true, ite_false, len_t0, len_t1, len_t2, len_t3, len_l0, len_l1, eqI, neI, Int.reduceBEq, Int.reduceLT, Int.reduceLE, Int.reduceNeg, decide_true, decide_false, Bool.not_true, Bool.not_false, ix0, ix1, ix2, and_true, and_self, S_fr2]
          exact ⟨hxs d hd, hQ⟩
        · have eb : (xs.map fun d => D.bl (isFracD d)) = (xs.map isFracD).map D.bl := by rw [List.map_map]; rfl
          rw [eb, all_lst (bools_map _), List.all_map, Function.id_comp]
          exact hR
      · rw [decide_eq_false z, Bool.false_and] at hR
        rw [decide_eq_false z, if_neg (by decide)]
        exact hR
    | _ =>
      rw [show ∀ a : Bool, (a && rowB _) = (a && false) from fun a => rfl, Bool.and_false] at hR
      exact hR
theorem ok_short (T : Tx K mg) : Good P w K mg base "is_short" ["one"] 1 (fun ds G R _ => match ds with
    | [x] => isFracD x = true ∧ R (.bl (shortB x)) G
    | _ => False) := by
  refine good_of (d_is_short T) sc_is_short fun f cd A outer s H E hp tk hgd hr => ⟨_, (s_one (s_ret (c_and (c_cmp op_lt lift_I2b (c_callB call_abs lift_abs (n_abs T) (a_cons (c_ix (c_var 0) c_int) a_nil)) (c_dat (v_TOO_GREAT T))) (c_one (c_cmp op_lt lift_I2b (c_ix (c_var 0) c_int) (c_dat (v_TOO_GREAT T))))))), fun ds G R Ex hlen hS => ?_⟩
  clear hp tk hgd hr hlen
  match ds, hS with
  | [x], ⟨hf, hR⟩ =>
    obtain ⟨n, d, rfl, d1, en, ed⟩ := frac_cases hf
    rw [show start3 ["one"] [.tup [.int n, .int d]] = [some (.tup [.int n, .int d])] from rfl]
    simp only [wExpr, wRaise, gSb, wSeq, wNext, wRet, wRetN, wExpr, wIfS, wSet, wAsg, wPar, wAug, w1, w2, wA, aNil, aCons, wVar, wVarT, wC, tOfW, w3c, wAnd, wOr, wNot, tAnd3, tOr3, tNot3, wIf, wTup, wLst, wLstO, wCall, wSl, pNone, pSome, wipe3, List.map_cons, List.map_nil, fI2, fI2C, fI1, fAbs, addI, mulI, intI, eqS, neS, isN_, notN_, L3.isNon, gN, gsN, gsC, gT, asT, at3, List.set_cons_zero, List.set_cons_succ, Option.some.injEq, exists_eq_left', D.bl.injEq, D.int.injEq, D.tup.injEq, List.length_cons, List.length_nil, Nat.reduceAdd, true_and, if_true, if_false, Bool.false_eq_true, reduceIte, ite_true, ite_false, len_t0, len_t1, len_t2, len_t3, len_l0, len_l1, eqI, neI, Int.reduceBEq, Int.reduceLT, Int.reduceLE, Int.reduceNeg, decide_true, decide_false, Bool.not_true, Bool.not_false, ix0, ix1, ix2, and_true, and_self, bigT_eq]
    unfold shortB at hR
    rw [en, ed] at hR
    have ea : (if n < 0 then -n else n) = ((n.natAbs : Nat) : Int) := by split <;> omega
    rw [ea]
    by_cases z : ((n.natAbs : Nat) : Int) < bigT
    · rw [decide_eq_true z, Bool.true_and] at hR
      rw [decide_eq_true z, if_pos rfl]
      exact hR
    · rw [decide_eq_false z, Bool.false_and] at hR
      rw [decide_eq_false z, if_neg (by decide)]
      exact hR
def S_form : SP3 := fun ds G R _ => match ds with
  | [x] => bsD x = true ∧ (∀ d, (∃ xs, x = .tup xs ∧ d ∈ xs) → lenN d ≤ 100000) ∧ R (.bl (planB x)) G
  | _ => False
theorem ok_form (T : Tx K mg) : Good P w K mg base "is_plan_form" ["thing"] 4 S_form := by
  have g_is_row := ok_row (P := P) (w := w) (base := base) T
  have g_is_short := ok_short (P := P) (w := w) (base := base) T
  refine good_of (d_is_plan_form T) sc_is_plan_form fun f cd A outer s H E hp tk hgd hr => ⟨_, (s_cons (s_if (t_w (o_or (t_not (t_val (c_callB call_isi3 (lift_isi (K := K)) (n_isinstance T) (a_cons (c_var 0) (a_cons (c_bltn (n := "tuple") (n_tuple T)) a_nil))))) (o_or1 (t_cmp (op_ne3 hr.units) lift_ne (c_callB call_len lift_len (n_len T) (a_cons (c_var 0) a_nil)) c_int)))) (s_one (s_ret c_bl)) s_nil)
      (s_cons (s_if (t_w (o_or (t_not (t_val (c_callB call_isi3 (lift_isi (K := K)) (n_isinstance T) (a_cons (c_ix (c_var 0) c_int) (a_cons (c_bltn (n := "tuple") (n_tuple T)) a_nil))))) (o_or (t_not (t_val (c_callB call_isi3 (lift_isi (K := K)) (n_isinstance T) (a_cons (c_ix (c_var 0) c_int) (a_cons (c_bltn (n := "tuple") (n_tuple T)) a_nil))))) (o_or1 (t_cmp (op_eq3 hr.units) lift_eq (c_callB call_len lift_len (n_len T) (a_cons (c_ix (c_var 0) c_int) a_nil)) c_int))))) (s_one (s_ret c_bl)) s_nil)
      (s_cons (s_if (t_w (o_or (t_not (t_val (c_call g_is_row (hr.mono (by omega)) hgd tk (a_cons (c_ix (c_var 0) c_int) (a_cons (c_callB call_len lift_len (n_len T) (a_cons (c_ix (c_var 0) c_int) a_nil)) a_nil))))) (o_or1 (t_not (t_val (c_call g_is_row (hr.mono (by omega)) hgd tk (a_cons (c_ix (c_var 0) c_int) (a_cons (c_callB call_len lift_len (n_len T) (a_cons (c_ix (c_var 0) c_int) a_nil)) a_nil)))))))) (s_one (s_ret c_bl)) s_nil)
      (s_one (s_ret (c_callB (cr_all rfl) lift_all (n_all T) (a_cons (c_lc [("one", 1)] rfl sc_is_plan_form.nd (i_tpl (c_op op_add3 lift_add (c_ix (c_var 0) c_int) (c_ix (c_var 0) c_int))) (blkOk_by (by kernel_rfl)) (by decide) (fun _ _ _ _ _ => (g_name 1 sc_is_plan_form.nd rfl (.inl rfl))) (fun _ _ _ _ _ => ts_nil) (fun _ _ _ _ _ => (c_call g_is_short (hr.mono (by omega)) hgd takes0 (a_cons (c_var 1) a_nil)))) a_nil))))))), fun ds G R Ex hlen hS => ?_⟩
  clear hp tk hgd hr hlen
  match ds, hS with
  | [x], ⟨hx, hl, hR⟩ =>
    rw [show start3 ["thing", "one"] [x] = [some (x), none] from rfl]
    have hr := bs_rd x hx
    simp only [wExpr, wRaise, gSb, wSeq, wNext, wRet, wRetN, wExpr, wIfS, wSet, wAsg, wPar, wAug, w1, w2, wA, aNil, aCons, wVar, wVarT, wC, tOfW, w3c, wAnd, wOr, wNot, tAnd3, tOr3, tNot3, wIf, wTup, wLst, wLstO, wCall, wSl, pNone, pSome, wipe3, List.map_cons, List.map_nil, fI2, fI2C, fI1, fAbs, addI, mulI, intI, eqS, neS, isN_, notN_, L3.isNon, gN, gsN, gsC, gT, asT, at3, List.set_cons_zero, List.set_cons_succ, Option.some.injEq, exists_eq_left', D.bl.injEq, D.int.injEq, D.tup.injEq, List.length_cons, List.length_nil, Nat.reduceAdd, true_and, if_true, if_false, Bool.false_eq_true, reduceIte, ite_true, ite_false, len_t0, len_t1, len_t2, len_t3, len_l0, len_l1, eqI, neI, Int.reduceBEq, Int.reduceLT, Int.reduceLE, Int.reduceNeg, decide_true, decide_false, Bool.not_true, Bool.not_false, ix0, ix1, ix2, and_true, and_self, isi_tup hr]
    cases x with
    | tup xs =>
      have hxs := bs_tup hx
      simp only [isTupD, Bool.not_true, Bool.false_eq_true, if_false]
      match xs, hxs with
      | [], _ => (simp only [wExpr, wRaise, gSb, wSeq, wNext, wRet, wRetN, wExpr, wIfS, wSet, wAsg, wPar, wAug, w1, w2, wA, aNil, aCons, wVar, wVarT, wC, tOfW, w3c, wAnd, wOr, wNot, tAnd3, tOr3, tNot3, wIf, wTup, wLst, wLstO, wCall, wSl, pNone, pSome, wipe3, List.map_cons, List.map_nil, fI2, fI2C, fI1, fAbs, addI, mulI, intI, eqS, neS, isN_, notN_, L3.isNon, gN, gsN, gsC, gT, asT, at3, List.set_cons_zero, List.set_cons_succ, Option.some.injEq, exists_eq_left', D.bl.injEq, D.int.injEq, D.tup.injEq, List.length_cons, List.length_nil, Nat.reduceAdd, true_and, if_true, if_false, Bool.false_eq_true, reduceIte, ite_true, ite_false, len_t0, len_t1, len_t2, len_t3, len_l0, len_l1, eqI, neI, Int.reduceBEq, Int.reduceLT, Int.reduceLE, Int.reduceNeg, decide_true, decide_false, Bool.not_true, Bool.not_false, ix0, ix1, ix2, and_true, and_self]; exact hR)
      | [a], _ => (simp only [wExpr, wRaise, gSb, wSeq, wNext, wRet, wRetN, wExpr, wIfS, wSet, wAsg, wPar, wAug, w1, w2, wA, aNil, aCons, wVar, wVarT, wC, tOfW, w3c, wAnd, wOr, wNot, tAnd3, tOr3, tNot3, wIf, wTup, wLst, wLstO, wCall, wSl, pNone, pSome, wipe3, List.map_cons, List.map_nil, fI2, fI2C, fI1, fAbs, addI, mulI, intI, eqS, neS, isN_, notN_, L3.isNon, gN, gsN, gsC, gT, asT, at3, List.set_cons_zero, List.set_cons_succ, Option.some.injEq, exists_eq_left', D.bl.injEq, D.int.injEq, D.tup.injEq, List.length_cons, List.length_nil, Nat.reduceAdd, true_and, if_true, if_false, Bool.false_eq_true, reduceIte, ite_true, ite_false, len_t0, len_t1, len_t2, len_t3, len_l0, len_l1, eqI, neI, Int.reduceBEq, Int.reduceLT, Int.reduceLE, Int.reduceNeg, decide_true, decide_false, Bool.not_true, Bool.not_false, ix0, ix1, ix2, and_true, and_self]; exact hR)
      | a :: b :: c :: r, _ => (simp only [wExpr, wRaise, gSb, wSeq, wNext, wRet, wRetN, wExpr, wIfS, wSet, wAsg, wPar, wAug, w1, w2, wA, aNil, aCons, wVar, wVarT, wC, tOfW, w3c, wAnd, wOr, wNot, tAnd3, tOr3, tNot3, wIf, wTup, wLst, wLstO, wCall, wSl, pNone, pSome, wipe3, List.map_cons, List.map_nil, fI2, fI2C, fI1, fAbs, addI, mulI, intI, eqS, neS, isN_, notN_, L3.isNon, gN, gsN, gsC, gT, asT, at3, List.set_cons_zero, List.set_cons_succ, Option.some.injEq, exists_eq_left', D.bl.injEq, D.int.injEq, D.tup.injEq, List.length_cons, List.length_nil, Nat.reduceAdd, true_and, if_true, if_false, Bool.false_eq_true, reduceIte, ite_true, ite_false, len_t0, len_t1, len_t2, len_t3, len_l0, len_l1, eqI, neI, Int.reduceBEq, Int.reduceLT, Int.reduceLE, Int.reduceNeg, decide_true, decide_false, Bool.not_true, Bool.not_false, ix0, ix1, ix2, and_true, and_self, len_tup, more2]; exact hR)
      | [a, b], hxs =>
        have ha := hxs a (by simp)
        have hb := hxs b (by simp)
        have la := hl a ⟨_, rfl, by simp⟩
        have lb := hl b ⟨_, rfl, by simp⟩
        simp only [wExpr, wRaise, gSb, wSeq, wNext, wRet, wRetN, wExpr, wIfS, wSet, wAsg, wPar, wAug, w1, w2, wA, aNil, aCons, wVar, wVarT, wC, tOfW, w3c, wAnd, wOr, wNot, tAnd3, tOr3, tNot3, wIf, wTup, wLst, wLstO, wCall, wSl, pNone, pSome, wipe3, List.map_cons, List.map_nil, fI2, fI2C, fI1, fAbs, addI, mulI, intI, eqS, neS, isN_, notN_, L3.isNon, gN, gsN, gsC, gT, asT, at3, List.set_cons_zero, List.set_cons_succ, Option.some.injEq, exists_eq_left', D.bl.injEq, D.int.injEq, D.tup.injEq, List.length_cons, List.length_nil, Nat.reduceAdd, true_and, if_true, if_false, Bool.false_eq_true, reduceIte, ite_true, ite_false, len_t0, len_t1, len_t2, len_t3, len_l0, len_l1, eqI, neI, Int.reduceBEq, Int.reduceLT, Int.reduceLE, Int.reduceNeg, decide_true, decide_false, Bool.not_true, Bool.not_false, ix0, ix1, ix2, and_true, and_self, isi_tup (bs_rd a ha), isi_tup (bs_rd b hb), S_row]
        replace hR : R (.bl (pairB a b)) G := hR
        cases a with
        | tup as =>
          cases b with
          | tup bs =>
            have has := bs_tup ha
            have hbs := bs_tup hb
            replace la : as.length ≤ 100000 := la
            replace lb : bs.length ≤ 100000 := lb
            replace hR : R (.bl (decide (as ≠ []) && (as.all isFracD && (bs.all isFracD && (as ++ bs).all shortB)))) G := hR
            simp only [isTupD, Bool.not_true, Bool.false_eq_true, if_false, len_tup, eqI, D.bl.injEq, exists_eq_left', D.int.injEq]
            by_cases a0 : as = []
            · subst a0
              exact hR
            · have al := List.length_pos_iff.mpr a0
              rw [if_neg (by rw [beq_iff_eq]; omega)]
              rw [show decide (as ≠ []) = true from decide_eq_true a0, Bool.true_and] at hR
              refine ⟨as.length, rfl, ha, by show as.length ≤ _; omega, ?_⟩
              rw [decide_eq_true (show lenN (.tup as) = as.length from rfl), Bool.true_and]
              show (if (!(as.all isFracD)) = true then _ else _)
              cases fa : as.all isFracD with
              | false =>
                rw [fa] at hR
                rw [if_pos (by decide)]
                exact hR
              | true =>
                rw [fa, Bool.true_and] at hR
                rw [if_neg (by decide)]
                refine ⟨bs.length, rfl, hb, by show bs.length ≤ _; omega, ?_⟩
                rw [decide_eq_true (show lenN (.tup bs) = bs.length from rfl), Bool.true_and]
                show (if (!(bs.all isFracD)) = true then _ else _)
                cases fb : bs.all isFracD with
                | false =>
                  rw [fb] at hR
                  rw [if_pos (by decide)]
                  exact hR
                | true =>
                  rw [fb, Bool.true_and] at hR
                  rw [if_neg (by decide)]
                  have hf : ∀ d ∈ as ++ bs, isFracD d = true := fun d hd => by
                    rcases List.mem_append.mp hd with z | z
                    · exact List.all_eq_true.mp fa d z
                    · exact List.all_eq_true.mp fb d z
                  refine wLc_it (ds := as ++ bs) (fun d => .bl (shortB d)) rfl (size_small (by rw [List.length_append]; omega)) (fun Kt hK => ?_) ?_ ?_
                  · simp only [wExpr, wRaise, gSb, wSeq, wNext, wRet, wRetN, wExpr, wIfS, wSet, wAsg, wPar, wAug, w1, w2, wA, aNil, aCons, wVar, wVarT, wC, tOfW, w3c, wAnd, wOr, wNot, tAnd3, tOr3, tNot3, wIf, wTup, wLst, wLstO, wCall, wSl, pNone, pSome, wipe3, List.map_cons, List.map_nil, fI2, fI2C, fI1, fAbs, addI, mulI, intI, eqS, neS, isN_, notN_, L3.isNon, gN, gsN, gsC, gT, asT, at3, List.set_cons_zero, List.set_cons_succ, Option.some.injEq, exists_eq_left', D.bl.injEq, D.int.injEq, D.tup.injEq, List.length_cons, List.length_nil, Nat.reduceAdd, true_and, if_true, if_false, Bool.false_eq_true, reduceIte, ite_true, ite_false, len_t0, len_t1, len_t2, len_t3, len_l0, len_l1, eqI, neI, Int.reduceBEq, Int.reduceLT, Int.reduceLE, Int.reduceNeg, decide_true, decide_false, Bool.not_true, Bool.not_false, ix0, ix1, ix2, and_true, and_self, iTpl]
                    rw [add_t]
                    exact ⟨size_small (by omega), _, rfl, hK _ fun _ _ => trivial⟩
                  · intro d hd p acc Q hp hQ
                    simp only [wExpr, wRaise, gSb, wSeq, wNext, wRet, wRetN, wExpr, wIfS, wSet, wAsg, wPar, wAug, w1, w2, wA, aNil, aCons, wVar, wVarT, wC, tOfW, w3c, wAnd, wOr, wNot, tAnd3, tOr3, tNot3, wIf, wTup, wLst, wLstO, wCall, wSl, pNone, pSome, wipe3, List.map_cons, List.map_nil, fI2, fI2C, fI1, fAbs, addI, mulI, intI, eqS, neS, isN_, notN_, L3.isNon, gN, gsN, gsC, gT, asT, at3, List.set_cons_zero, List.set_cons_succ, Option.some.injEq, exists_eq_left', D.bl.injEq, D.int.injEq, D.tup.injEq, List.length_cons, List.length_nil, Nat.reduceAdd, true_and, if_true, if_false, Bool.false_eq_true, reduceIte, ite_true, ite_false, len_t0, len_t1, len_t2, len_t3, len_l0, len_l1, eqI, neI, Int.reduceBEq, Int.reduceLT, Int.reduceLE, Int.reduceNeg, decide_true, decide_false, Bool.not_true, Bool.not_false, ix0, ix1, ix2, and_true, and_self]
                    exact ⟨hf d hd, hQ⟩
                  · have eb : ((as ++ bs).map fun d => D.bl (shortB d)) = ((as ++ bs).map shortB).map D.bl := by rw [List.map_map]; rfl
                    rw [eb, all_lst (bools_map _), List.all_map, Function.id_comp]
                    exact hR
          | _ => exact hR
        | _ => exact hR
    | _ => exact hR
end

end K69

set_option Elab.async false
set_option linter.all false
set_option maxRecDepth 100000
set_option maxHeartbeats 0
namespace K69
open PySem PySem.Spec L2 L3
open PyProof.Rows hiding St
/-! ### the text of a plan -/
theorem frac_short {x : D} (hf : isFracD x = true) (hs : shortB x = true) : ∃ q, x = frI q ∧ QOk q := by
  obtain ⟨n, d, rfl, d1, en, ed⟩ := frac_cases hf
  unfold shortB at hs
  rw [en, ed, Bool.and_eq_true, decide_eq_true_eq, decide_eq_true_eq] at hs
  have hg : (decide (1 ≤ d) && (Int.gcd n d == 1)) = true := hf
  rw [Bool.and_eq_true, beq_iff_eq] at hg
  have eb : bigT = ((10 ^ 600 : Nat) : Int) := by
    rw [bigT_def]
    decide +kernel
  rw [eb] at hs
  refine ⟨(n, d), rfl, d1, ?_, ?_, hg.2⟩
  · have := hs.2
    have e2 : ((10 ^ 600 : Nat) : Int) = (10 : Int) ^ 600 := by decide +kernel
    rw [e2] at this
    exact this
  · exact Int.ofNat_lt.mp hs.1
theorem fracs_short : ∀ {xs : List D}, (∀ d ∈ xs, isFracD d = true) → (∀ d ∈ xs, shortB d = true) → ∃ qs : List Fr, xs = qs.map frI ∧ ∀ q ∈ qs, QOk q
  | [], _, _ => ⟨[], rfl, fun q h => (by cases h)⟩
  | x :: xs, h1, h2 => by
    obtain ⟨q, e, hq⟩ := frac_short (h1 x List.mem_cons_self) (h2 x List.mem_cons_self)
    obtain ⟨qs, e2, hqs⟩ := fracs_short (fun d hd => h1 d (List.mem_cons_of_mem _ hd)) (fun d hd => h2 d (List.mem_cons_of_mem _ hd))
    exact ⟨q :: qs, by rw [e, e2]; rfl, fun z hz => by
      rcases List.mem_cons.mp hz with e | e
      · rw [e]; exact hq
      · exact hqs z e⟩
theorem plan_cases {x : D} (h : planB x = true) : ∃ Ds Rs : List Fr, x = .tup [.tup (Ds.map frI), .tup (Rs.map frI)] ∧ Ds ≠ [] ∧ (∀ q ∈ Ds, QOk q) ∧ ∀ q ∈ Rs, QOk q := by
  match x, h with
  | .tup [a, b], h =>
    have h' : pairB a b = true := h
    match a, b, h' with
    | .tup xs, .tup ys, h' =>
      have h2 : (decide (xs ≠ []) && (xs.all isFracD && (ys.all isFracD && (xs ++ ys).all shortB))) = true := h'
      rw [Bool.and_eq_true, Bool.and_eq_true, Bool.and_eq_true, decide_eq_true_eq, List.all_eq_true, List.all_eq_true, List.all_eq_true] at h2
      obtain ⟨q0, q1, q2, q3⟩ := h2
      obtain ⟨Ds, rfl, hD⟩ := fracs_short q1 fun d hd => q3 d (List.mem_append_left _ hd)
      obtain ⟨Rs, rfl, hR⟩ := fracs_short q2 fun d hd => q3 d (List.mem_append_right _ hd)
      exact ⟨Ds, Rs, rfl, fun e => q0 (by rw [e]; rfl), hD, hR⟩
def ftOf : D → D
  | .tup [.int n, .int d] => wdD (frL (n, d))
  | d => d
theorem ft_map {qs : List Fr} : (qs.map frI).map ftOf = (qs.map frL).map wdD := by
  rw [List.map_map, List.map_map]
  rfl
def planW (Ds Rs : List Fr) : List (List Nat) := drawL :: (Ds.map frL ++ dryL :: Rs.map frL)
def planL (Ds Rs : List Fr) : List Nat := TL.joinL [32] (planW Ds Rs)
theorem numZ_len {i : Int} (h : i.natAbs < 10 ^ 600) : (numZ i).length ≤ 601 := by
  have := TL.numL_len (n := i.natAbs) (k := 600) (by decide) h
  unfold numZ
  split
  · rw [List.length_cons]
    omega
  · omega
theorem frL_len {q : Fr} (h : QOk q) : (frL q).length ≤ 1203 := by
  have h1 := numZ_len h.n6
  have h2 := numZ_len (i := q.2) (by have := h.d6; have := h.d1; omega)
  unfold frL
  split
  · omega
  · rw [List.length_append, List.length_cons]
    omega
theorem sum_len : ∀ {ws : List (List Nat)} {m : Nat}, (∀ w ∈ ws, w.length ≤ m) → (ws.map List.length).sum ≤ ws.length * m
  | [], _, _ => by simp
  | w :: ws, m, h => by
    have := sum_len fun v hv => h v (List.mem_cons_of_mem w hv)
    have hw := h w List.mem_cons_self
    rw [List.map_cons, List.sum_cons, List.length_cons, Nat.succ_mul]
    omega
theorem planW_len {Ds Rs : List Fr} (hD : ∀ q ∈ Ds, QOk q) (hR : ∀ q ∈ Rs, QOk q) : ∀ w ∈ planW Ds Rs, w.length ≤ 1203 := fun w hw => by
  rcases List.mem_cons.mp hw with e | hw
  · rw [e]; decide
  · rcases List.mem_append.mp hw with hw | hw
    · obtain ⟨q, hq, rfl⟩ := List.mem_map.mp hw
      exact frL_len (hD q hq)
    · rcases List.mem_cons.mp hw with e | hw
      · rw [e]; decide
      · obtain ⟨q, hq, rfl⟩ := List.mem_map.mp hw
        exact frL_len (hR q hq)
section
variable {P : Program} {w : World} {K : PySem.W.Frag} {mg : Str → Option Value} {base : Heap}
theorem join_ok {ws : List (List Nat)} {G : GH} {R : K3} (hl : ws.length ≤ 3000) (hw : ∀ w ∈ ws, w.length ≤ 3000) (q : R (.str (Sg (TL.joinL [32] ws))) G) : fJoin (.str " ") [.lst (ws.map wdD)] G R := by
  have ez : (" " : Str) = Sg [32] := by decide +kernel
  refine ⟨_, _, ws.map SX.S, rfl, rfl, by rw [List.map_map]; rfl, ?_, ?_⟩
  · rw [SX.lens, List.length_map, ez, SX.S_len]
    have h1 : (ws.map (·.length)).sum ≤ ws.length * 3000 := sum_len hw
    have h2 : ws.length * 3000 ≤ 3000 * 3000 := Nat.mul_le_mul_right _ hl
    rw [List.length_singleton]
    omega
  · rw [ez, SX.join_S]
    exact q
def S_ptext (K : PySem.W.Frag) : SP3 := fun ds G R Ex => match ds with
  | [x] => bsD x = true ∧ (∀ d, (∃ xs, x = .tup xs ∧ d ∈ xs) → lenN d ≤ 1000) ∧ (planB x = false → ∀ env, Ex (.ref (He.ga K "BadPlan")) none env G) ∧
      ∀ Ds Rs, x = .tup [.tup (Ds.map frI), .tup (Rs.map frI)] → planB x = true → (∀ q ∈ Ds, QOk q) → (∀ q ∈ Rs, QOk q) → R (.str (Sg (planL Ds Rs))) G
  | _ => False
theorem ok_ptext (T : Tx K mg) : Good P w K mg base "plan_text" ["plan"] 5 (S_ptext K) := by
  have g_is_plan_form := ok_form (P := P) (w := w) (base := base) T
  have g_fraction_text := ok_ft (P := P) (w := w) (base := base) T
  refine good_of (d_plan_text T) sc_plan_text fun f cd A outer s H E hp tk hgd hr => ⟨_, (s_cons (s_if (t_not (t_val (c_call g_is_plan_form (hr.mono (by omega)) hgd tk (a_cons (c_var 0) a_nil)))) (s_one (s_raise (e_BadPlan T) rfl tk)) s_nil)
      (s_cons (s_asg (c_var 0) (g_tup (n := 2) rfl (gs_cons (g_name 1 sc_plan_text.nd rfl (.inl rfl)) (gs_cons (g_name 2 sc_plan_text.nd rfl (.inl rfl)) gs_nil))))
      (s_cons (s_set 3 sc_plan_text.nd rfl (.inl rfl) rfl (c_op op_add3 lift_add (c_op op_add3 lift_add (c_op op_add3 lift_add (c_lst (a_cons (c_dat (v_DRAW T)) a_nil)) (c_lc [("one", 4)] rfl sc_plan_text.nd (i_tpl (c_var 1)) (blkOk_by (by kernel_rfl)) (by decide) (fun _ _ _ _ _ => (g_name 4 sc_plan_text.nd rfl (.inl rfl))) (fun _ _ _ _ _ => ts_nil) (fun _ _ _ _ _ => (c_call g_fraction_text (hr.mono (by omega)) hgd takes0 (a_cons (c_var 4) a_nil))))) (c_lst (a_cons (c_dat (v_RUN T)) a_nil))) (c_lc [("one", 4)] rfl sc_plan_text.nd (i_tpl (c_var 2)) (blkOk_by (by kernel_rfl)) (by decide) (fun _ _ _ _ _ => (g_name 4 sc_plan_text.nd rfl (.inl rfl))) (fun _ _ _ _ _ => ts_nil) (fun _ _ _ _ _ => (c_call g_fraction_text (hr.mono (by omega)) hgd takes0 (a_cons (c_var 4) a_nil))))))
      (s_one (s_ret (c_bm PySem.F.plainAttrs_str PySem.F.slot_str_join PySem.F.type_str_join mt_join m_join c_str (a_cons (c_var 3) a_nil))))))), fun ds G R Ex hlen hS => ?_⟩
  clear hp tk hgd hr hlen
  match ds, hS with
  | [x], ⟨hx, hl, h1, h2⟩ =>
    rw [show start3 ["plan", "draws", "drying", "words", "one"] [x] = [some (x), none, none, none, none] from rfl]
    refine seq_cut (fun env' G' => planB x = true ∧ env' = [some x, none, none, none, none] ∧ G' = G) ?_ ?_
    · rintro env' G' ⟨hp, rfl, e0⟩
      subst e0
      obtain ⟨Ds, Rs, rfl, hD0, hD, hR'⟩ := plan_cases hp
      have hlD := hl (.tup (Ds.map frI)) ⟨_, rfl, by simp⟩
      have hlR := hl (.tup (Rs.map frI)) ⟨_, rfl, by simp⟩
      replace hlD : (Ds.map frI).length ≤ 1000 := hlD
      replace hlR : (Rs.map frI).length ≤ 1000 := hlR
      rw [List.length_map] at hlD hlR
      have h2 := h2 Ds Rs rfl hp hD hR'
      simp only [wExpr, wRaise, gSb, wSeq, wNext, wRet, wRetN, wExpr, wIfS, wSet, wAsg, wPar, wAug, w1, w2, wA, aNil, aCons, wVar, wVarT, wC, tOfW, w3c, wAnd, wOr, wNot, tAnd3, tOr3, tNot3, wIf, wTup, wLst, wLstO, wCall, wSl, pNone, pSome, wipe3, List.map_cons, List.map_nil, fI2, fI2C, fI1, fAbs, addI, mulI, intI, eqS, neS, isN_, notN_, L3.isNon, gN, gsN, gsC, gT, asT, at3, List.set_cons_zero, List.set_cons_succ, Option.some.injEq, exists_eq_left', D.bl.injEq, D.int.injEq, D.tup.injEq, List.length_cons, List.length_nil, Nat.reduceAdd, true_and, if_true, if_false, Bool.false_eq_true, reduceIte, ite_true, ite_false, len_t0, len_t1, len_t2, len_t3, len_l0, len_l1, eqI, neI, Int.reduceBEq, Int.reduceLT, Int.reduceLE, Int.reduceNeg, decide_true, decide_false, Bool.not_true, Bool.not_false, ix0, ix1, ix2, and_true, and_self]
      have s1 : 1 ≤ sizeLine := sizeLine_eq ▸ (by decide)
      refine ⟨s1, ?_⟩
      refine wLc_it (ds := Ds.map frI) ftOf rfl (by rw [List.length_map]; exact size_small (by omega)) (fun Kt hK => ?_) ?_ ?_
      · simp only [wExpr, wRaise, gSb, wSeq, wNext, wRet, wRetN, wExpr, wIfS, wSet, wAsg, wPar, wAug, w1, w2, wA, aNil, aCons, wVar, wVarT, wC, tOfW, w3c, wAnd, wOr, wNot, tAnd3, tOr3, tNot3, wIf, wTup, wLst, wLstO, wCall, wSl, pNone, pSome, wipe3, List.map_cons, List.map_nil, fI2, fI2C, fI1, fAbs, addI, mulI, intI, eqS, neS, isN_, notN_, L3.isNon, gN, gsN, gsC, gT, asT, at3, List.set_cons_zero, List.set_cons_succ, Option.some.injEq, exists_eq_left', D.bl.injEq, D.int.injEq, D.tup.injEq, List.length_cons, List.length_nil, Nat.reduceAdd, true_and, if_true, if_false, Bool.false_eq_true, reduceIte, ite_true, ite_false, len_t0, len_t1, len_t2, len_t3, len_l0, len_l1, eqI, neI, Int.reduceBEq, Int.reduceLT, Int.reduceLE, Int.reduceNeg, decide_true, decide_false, Bool.not_true, Bool.not_false, ix0, ix1, ix2, and_true, and_self, iTpl]
        exact hK _ fun _ _ => trivial
      · intro d hd p acc Q hp hQ
        obtain ⟨q, hq, rfl⟩ := List.mem_map.mp hd
        simp only [wExpr, wRaise, gSb, wSeq, wNext, wRet, wRetN, wExpr, wIfS, wSet, wAsg, wPar, wAug, w1, w2, wA, aNil, aCons, wVar, wVarT, wC, tOfW, w3c, wAnd, wOr, wNot, tAnd3, tOr3, tNot3, wIf, wTup, wLst, wLstO, wCall, wSl, pNone, pSome, wipe3, List.map_cons, List.map_nil, fI2, fI2C, fI1, fAbs, addI, mulI, intI, eqS, neS, isN_, notN_, L3.isNon, gN, gsN, gsC, gT, asT, at3, List.set_cons_zero, List.set_cons_succ, Option.some.injEq, exists_eq_left', D.bl.injEq, D.int.injEq, D.tup.injEq, List.length_cons, List.length_nil, Nat.reduceAdd, true_and, if_true, if_false, Bool.false_eq_true, reduceIte, ite_true, ite_false, len_t0, len_t1, len_t2, len_t3, len_l0, len_l1, eqI, neI, Int.reduceBEq, Int.reduceLT, Int.reduceLE, Int.reduceNeg, decide_true, decide_false, Bool.not_true, Bool.not_false, ix0, ix1, ix2, and_true, and_self, S_ft]
        exact ⟨q, rfl, hD q hq, hQ⟩
      · rw [ft_map]
        refine add_lst (size_small (by simp only [List.length_map, List.length_singleton]; omega)) ⟨s1, add_lst (size_small (by simp only [List.length_append, List.length_map, List.length_singleton]; omega)) ?_⟩
        refine wLc_it (ds := Rs.map frI) ftOf rfl (by rw [List.length_map]; exact size_small (by omega)) (fun Kt hK => ?_) ?_ ?_
        · simp only [wExpr, wRaise, gSb, wSeq, wNext, wRet, wRetN, wExpr, wIfS, wSet, wAsg, wPar, wAug, w1, w2, wA, aNil, aCons, wVar, wVarT, wC, tOfW, w3c, wAnd, wOr, wNot, tAnd3, tOr3, tNot3, wIf, wTup, wLst, wLstO, wCall, wSl, pNone, pSome, wipe3, List.map_cons, List.map_nil, fI2, fI2C, fI1, fAbs, addI, mulI, intI, eqS, neS, isN_, notN_, L3.isNon, gN, gsN, gsC, gT, asT, at3, List.set_cons_zero, List.set_cons_succ, Option.some.injEq, exists_eq_left', D.bl.injEq, D.int.injEq, D.tup.injEq, List.length_cons, List.length_nil, Nat.reduceAdd, true_and, if_true, if_false, Bool.false_eq_true, reduceIte, ite_true, ite_false, len_t0, len_t1, len_t2, len_t3, len_l0, len_l1, eqI, neI, Int.reduceBEq, Int.reduceLT, Int.reduceLE, Int.reduceNeg, decide_true, decide_false, Bool.not_true, Bool.not_false, ix0, ix1, ix2, and_true, and_self, iTpl]
          exact hK _ fun _ _ => trivial
        · intro d hd p acc Q hp hQ
          obtain ⟨q, hq, rfl⟩ := List.mem_map.mp hd
          simp only [wExpr, wRaise, gSb, wSeq, wNext, wRet, wRetN, wExpr, wIfS, wSet, wAsg, wPar, wAug, w1, w2, wA, aNil, aCons, wVar, wVarT, wC, tOfW, w3c, wAnd, wOr, wNot, tAnd3, tOr3, tNot3, wIf, wTup, wLst, wLstO, wCall, wSl, pNone, pSome, wipe3, List.map_cons, List.map_nil, fI2, fI2C, fI1, fAbs, addI, mulI, intI, eqS, neS, isN_, notN_, L3.isNon, gN, gsN, gsC, gT, asT, at3, List.set_cons_zero, List.set_cons_succ, Option.some.injEq, exists_eq_left', D.bl.injEq, D.int.injEq, D.tup.injEq, List.length_cons, List.length_nil, Nat.reduceAdd, true_and, if_true, if_false, Bool.false_eq_true, reduceIte, ite_true, ite_false, len_t0, len_t1, len_t2, len_t3, len_l0, len_l1, eqI, neI, Int.reduceBEq, Int.reduceLT, Int.reduceLE, Int.reduceNeg, decide_true, decide_false, Bool.not_true, Bool.not_false, ix0, ix1, ix2, and_true, and_self, S_ft]
          exact ⟨q, rfl, hR' q hq, hQ⟩
        · rw [ft_map]
          refine add_lst (size_small (by simp only [List.length_append, List.length_map, List.length_singleton]; omega)) ?_
          have ew : [D.str "draw"] ++ (Ds.map frL).map wdD ++ [D.str "dry"] ++ (Rs.map frL).map wdD = (planW Ds Rs).map wdD := by
            have e1 : (D.str "draw") = wdD drawL := by
              show D.str _ = D.str _
              rw [show ("draw" : Str) = Sg drawL by decide +kernel]
            have e2 : (D.str "dry") = wdD dryL := by
              show D.str _ = D.str _
              rw [show ("dry" : Str) = Sg dryL by decide +kernel]
            unfold planW
            rw [e1, e2, List.map_cons, List.map_append, List.map_cons]
            simp
          rw [ew]
          simp only [wM, wExpr, wRaise, gSb, wSeq, wNext, wRet, wRetN, wExpr, wIfS, wSet, wAsg, wPar, wAug, w1, w2, wA, aNil, aCons, wVar, wVarT, wC, tOfW, w3c, wAnd, wOr, wNot, tAnd3, tOr3, tNot3, wIf, wTup, wLst, wLstO, wCall, wSl, pNone, pSome, wipe3, List.map_cons, List.map_nil, fI2, fI2C, fI1, fAbs, addI, mulI, intI, eqS, neS, isN_, notN_, L3.isNon, gN, gsN, gsC, gT, asT, at3, List.set_cons_zero, List.set_cons_succ, Option.some.injEq, exists_eq_left', D.bl.injEq, D.int.injEq, D.tup.injEq, List.length_cons, List.length_nil, Nat.reduceAdd, true_and, if_true, if_false, Bool.false_eq_true, reduceIte, ite_true, ite_false, len_t0, len_t1, len_t2, len_t3, len_l0, len_l1, eqI, neI, Int.reduceBEq, Int.reduceLT, Int.reduceLE, Int.reduceNeg, decide_true, decide_false, Bool.not_true, Bool.not_false, ix0, ix1, ix2, and_true, and_self]
          exact ⟨⟨_, rfl⟩, join_ok (by unfold planW; simp only [List.length_cons, List.length_append, List.length_map]; omega) (fun w hw => by have := planW_len hD hR' w hw; omega) h2⟩
    · intro N hN
      simp only [wExpr, wRaise, gSb, wSeq, wNext, wRet, wRetN, wExpr, wIfS, wSet, wAsg, wPar, wAug, w1, w2, wA, aNil, aCons, wVar, wVarT, wC, tOfW, w3c, wAnd, wOr, wNot, tAnd3, tOr3, tNot3, wIf, wTup, wLst, wLstO, wCall, wSl, pNone, pSome, wipe3, List.map_cons, List.map_nil, fI2, fI2C, fI1, fAbs, addI, mulI, intI, eqS, neS, isN_, notN_, L3.isNon, gN, gsN, gsC, gT, asT, at3, List.set_cons_zero, List.set_cons_succ, Option.some.injEq, exists_eq_left', D.bl.injEq, D.int.injEq, D.tup.injEq, List.length_cons, List.length_nil, Nat.reduceAdd, true_and, if_true, if_false, Bool.false_eq_true, reduceIte, ite_true, ite_false, len_t0, len_t1, len_t2, len_t3, len_l0, len_l1, eqI, neI, Int.reduceBEq, Int.reduceLT, Int.reduceLE, Int.reduceNeg, decide_true, decide_false, Bool.not_true, Bool.not_false, ix0, ix1, ix2, and_true, and_self, S_form]
      refine ⟨hx, fun d hd => by have := hl d hd; omega, ?_⟩
      cases e : planB x with
      | false =>
        rw [if_pos (by decide)]
        exact h1 e _
      | true =>
        rw [if_neg (by decide)]
        exact hN _ _ ⟨e, rfl, rfl⟩
def S_ltext : SP3 := fun ds G R _ => match ds with
  | [x] => ∃ Ds Rs : List Fr, x = .tup [.tup (Ds.map frI), .tup (Rs.map frI)] ∧ Ds.length ≤ 1000 ∧ Rs.length ≤ 1000 ∧ (∀ q ∈ Ds, QOk q) ∧ (∀ q ∈ Rs, QOk q) ∧ R (.str (Sg (planL Ds Rs))) G
  | _ => False
theorem ok_ltext (T : Tx K mg) : Good P w K mg base "_law_text" ["pair"] 5 S_ltext := by
  have g__law_word := ok_lw (P := P) (w := w) (base := base) T
  refine good_of (d__law_text T) sc__law_text fun f cd A outer s H E hp tk hgd hr => ⟨_, (s_one (s_ret (c_bm PySem.F.plainAttrs_str PySem.F.slot_str_join PySem.F.type_str_join mt_join m_join c_str (a_cons (c_op op_add3 lift_add (c_op op_add3 lift_add (c_op op_add3 lift_add (c_lst (a_cons c_str a_nil)) (c_lc [("one", 1)] rfl sc__law_text.nd (i_tpl (c_ix (c_var 0) c_int)) (blkOk_by (by kernel_rfl)) (by decide) (fun _ _ _ _ _ => (g_name 1 sc__law_text.nd rfl (.inl rfl))) (fun _ _ _ _ _ => ts_nil) (fun _ _ _ _ _ => (c_call g__law_word (hr.mono (by omega)) hgd takes0 (a_cons (c_var 1) a_nil))))) (c_lst (a_cons c_str a_nil))) (c_lc [("one", 1)] rfl sc__law_text.nd (i_tpl (c_ix (c_var 0) c_int)) (blkOk_by (by kernel_rfl)) (by decide) (fun _ _ _ _ _ => (g_name 1 sc__law_text.nd rfl (.inl rfl))) (fun _ _ _ _ _ => ts_nil) (fun _ _ _ _ _ => (c_call g__law_word (hr.mono (by omega)) hgd takes0 (a_cons (c_var 1) a_nil))))) a_nil)))), fun ds G R Ex hlen hS => ?_⟩
  clear hp tk hgd hr hlen
  match ds, hS with
  | [x], ⟨Ds, Rs, e, hlD, hlR, hD, hR', h2⟩ =>
    subst e
    rw [show start3 ["pair", "one"] [.tup [.tup (Ds.map frI), .tup (Rs.map frI)]] = [some (.tup [.tup (Ds.map frI), .tup (Rs.map frI)]), none] from rfl]
    simp only [wExpr, wRaise, gSb, wSeq, wNext, wRet, wRetN, wExpr, wIfS, wSet, wAsg, wPar, wAug, w1, w2, wA, aNil, aCons, wVar, wVarT, wC, tOfW, w3c, wAnd, wOr, wNot, tAnd3, tOr3, tNot3, wIf, wTup, wLst, wLstO, wCall, wSl, pNone, pSome, wipe3, List.map_cons, List.map_nil, fI2, fI2C, fI1, fAbs, addI, mulI, intI, eqS, neS, isN_, notN_, L3.isNon, gN, gsN, gsC, gT, asT, at3, List.set_cons_zero, List.set_cons_succ, Option.some.injEq, exists_eq_left', D.bl.injEq, D.int.injEq, D.tup.injEq, List.length_cons, List.length_nil, Nat.reduceAdd, true_and, if_true, if_false, Bool.false_eq_true, reduceIte, ite_true, ite_false, len_t0, len_t1, len_t2, len_t3, len_l0, len_l1, eqI, neI, Int.reduceBEq, Int.reduceLT, Int.reduceLE, Int.reduceNeg, decide_true, decide_false, Bool.not_true, Bool.not_false, ix0, ix1, ix2, and_true, and_self, wM]
    have s1 : 1 ≤ sizeLine := sizeLine_eq ▸ (by decide)
    refine ⟨⟨_, rfl⟩, s1, ?_⟩
    refine wLc_it (ds := Ds.map frI) ftOf rfl (by rw [List.length_map]; exact size_small (by omega)) (fun Kt hK => ?_) ?_ ?_
    · simp only [wExpr, wRaise, gSb, wSeq, wNext, wRet, wRetN, wExpr, wIfS, wSet, wAsg, wPar, wAug, w1, w2, wA, aNil, aCons, wVar, wVarT, wC, tOfW, w3c, wAnd, wOr, wNot, tAnd3, tOr3, tNot3, wIf, wTup, wLst, wLstO, wCall, wSl, pNone, pSome, wipe3, List.map_cons, List.map_nil, fI2, fI2C, fI1, fAbs, addI, mulI, intI, eqS, neS, isN_, notN_, L3.isNon, gN, gsN, gsC, gT, asT, at3, List.set_cons_zero, List.set_cons_succ, Option.some.injEq, exists_eq_left', D.bl.injEq, D.int.injEq, D.tup.injEq, List.length_cons, List.length_nil, Nat.reduceAdd, true_and, if_true, if_false, Bool.false_eq_true, reduceIte, ite_true, ite_false, len_t0, len_t1, len_t2, len_t3, len_l0, len_l1, eqI, neI, Int.reduceBEq, Int.reduceLT, Int.reduceLE, Int.reduceNeg, decide_true, decide_false, Bool.not_true, Bool.not_false, ix0, ix1, ix2, and_true, and_self, iTpl]
      exact hK _ fun _ _ => trivial
    · intro d hd p acc Q hp hQ
      obtain ⟨q, hq, rfl⟩ := List.mem_map.mp hd
      simp only [wExpr, wRaise, gSb, wSeq, wNext, wRet, wRetN, wExpr, wIfS, wSet, wAsg, wPar, wAug, w1, w2, wA, aNil, aCons, wVar, wVarT, wC, tOfW, w3c, wAnd, wOr, wNot, tAnd3, tOr3, tNot3, wIf, wTup, wLst, wLstO, wCall, wSl, pNone, pSome, wipe3, List.map_cons, List.map_nil, fI2, fI2C, fI1, fAbs, addI, mulI, intI, eqS, neS, isN_, notN_, L3.isNon, gN, gsN, gsC, gT, asT, at3, List.set_cons_zero, List.set_cons_succ, Option.some.injEq, exists_eq_left', D.bl.injEq, D.int.injEq, D.tup.injEq, List.length_cons, List.length_nil, Nat.reduceAdd, true_and, if_true, if_false, Bool.false_eq_true, reduceIte, ite_true, ite_false, len_t0, len_t1, len_t2, len_t3, len_l0, len_l1, eqI, neI, Int.reduceBEq, Int.reduceLT, Int.reduceLE, Int.reduceNeg, decide_true, decide_false, Bool.not_true, Bool.not_false, ix0, ix1, ix2, and_true, and_self, S_ft]
      exact ⟨q, rfl, hD q hq, hQ⟩
    · rw [ft_map]
      refine add_lst (size_small (by simp only [List.length_map, List.length_singleton]; omega)) ⟨s1, add_lst (size_small (by simp only [List.length_append, List.length_map, List.length_singleton]; omega)) ?_⟩
      refine wLc_it (ds := Rs.map frI) ftOf rfl (by rw [List.length_map]; exact size_small (by omega)) (fun Kt hK => ?_) ?_ ?_
      · simp only [wExpr, wRaise, gSb, wSeq, wNext, wRet, wRetN, wExpr, wIfS, wSet, wAsg, wPar, wAug, w1, w2, wA, aNil, aCons, wVar, wVarT, wC, tOfW, w3c, wAnd, wOr, wNot, tAnd3, tOr3, tNot3, wIf, wTup, wLst, wLstO, wCall, wSl, pNone, pSome, wipe3, List.map_cons, List.map_nil, fI2, fI2C, fI1, fAbs, addI, mulI, intI, eqS, neS, isN_, notN_, L3.isNon, gN, gsN, gsC, gT, asT, at3, List.set_cons_zero, List.set_cons_succ, Option.some.injEq, exists_eq_left', D.bl.injEq, D.int.injEq, D.tup.injEq, List.length_cons, List.length_nil, Nat.reduceAdd, true_and, if_true, if_false, Bool.false_eq_true, reduceIte, ite_true, ite_false, len_t0, len_t1, len_t2, len_t3, len_l0, len_l1, eqI, neI, Int.reduceBEq, Int.reduceLT, Int.reduceLE, Int.reduceNeg, decide_true, decide_false, Bool.not_true, Bool.not_false, ix0, ix1, ix2, and_true, and_self, iTpl]
        exact hK _ fun _ _ => trivial
      · intro d hd p acc Q hp hQ
        obtain ⟨q, hq, rfl⟩ := List.mem_map.mp hd
        simp only [wExpr, wRaise, gSb, wSeq, wNext, wRet, wRetN, wExpr, wIfS, wSet, wAsg, wPar, wAug, w1, w2, wA, aNil, aCons, wVar, wVarT, wC, tOfW, w3c, wAnd, wOr, wNot, tAnd3, tOr3, tNot3, wIf, wTup, wLst, wLstO, wCall, wSl, pNone, pSome, wipe3, List.map_cons, List.map_nil, fI2, fI2C, fI1, fAbs, addI, mulI, intI, eqS, neS, isN_, notN_, L3.isNon, gN, gsN, gsC, gT, asT, at3, List.set_cons_zero, List.set_cons_succ, Option.some.injEq, exists_eq_left', D.bl.injEq, D.int.injEq, D.tup.injEq, List.length_cons, List.length_nil, Nat.reduceAdd, true_and, if_true, if_false, Bool.false_eq_true, reduceIte, ite_true, ite_false, len_t0, len_t1, len_t2, len_t3, len_l0, len_l1, eqI, neI, Int.reduceBEq, Int.reduceLT, Int.reduceLE, Int.reduceNeg, decide_true, decide_false, Bool.not_true, Bool.not_false, ix0, ix1, ix2, and_true, and_self, S_ft]
        exact ⟨q, rfl, hR' q hq, hQ⟩
      · rw [ft_map]
        refine add_lst (size_small (by simp only [List.length_append, List.length_map, List.length_singleton]; omega)) ?_
        have ew : [D.str "draw"] ++ (Ds.map frL).map wdD ++ [D.str "dry"] ++ (Rs.map frL).map wdD = (planW Ds Rs).map wdD := by
          have e1 : (D.str "draw") = wdD drawL := by
            show D.str _ = D.str _
            rw [show ("draw" : Str) = Sg drawL by decide +kernel]
          have e2 : (D.str "dry") = wdD dryL := by
            show D.str _ = D.str _
            rw [show ("dry" : Str) = Sg dryL by decide +kernel]
          unfold planW
          rw [e1, e2, List.map_cons, List.map_append, List.map_cons]
          simp
        rw [ew]
        exact join_ok (by unfold planW; simp only [List.length_cons, List.length_append, List.length_map]; omega) (fun w hw => by have := planW_len hD hR' w hw; omega) h2
def S_written : SP3 := fun ds G R _ => match ds with
  | [x] => bsD x = true ∧ (∀ d, (∃ xs, x = .tup xs ∧ d ∈ xs) → lenN d ≤ 1000) ∧ (planB x = false → R (.tup [.str "plan", .int 0]) G) ∧
      ∀ Ds Rs, x = .tup [.tup (Ds.map frI), .tup (Rs.map frI)] → planB x = true → (∀ q ∈ Ds, QOk q) → (∀ q ∈ Rs, QOk q) → R (.str (Sg (planL Ds Rs))) G
  | _ => False
theorem ok_written (T : Tx K mg) : Good P w K mg base "_law_written" ["thing"] 7 S_written := by
  have g_plan_text := ok_ptext (P := P) (w := w) (base := base) T
  refine good_of (d__law_written T) sc__law_written fun f cd A outer s H E hp tk hgd hr => ⟨_, (s_one (s_tryF 1 rfl rfl sc__law_written.nd rfl rfl ⟨rfl, by decide, .inl (e_BinError T).gC⟩ tk
      (fun W1 pn xe tk hp => (s_one (s_ret (c_call g_plan_text (hr.mono (by omega)) hgd tk (a_cons (c_var 0) a_nil)))))
      (fun a oe cls d pn hl => (s_one (s_ret (c_if (t_val (c_callB (call_isX hl) (lift_isX (K := K)) (n_isinstance T) (a_cons (c_var 1) (a_cons (c_cls (e_BadPlan T)) a_nil)))) (c_tup (a_cons c_str (a_cons c_int a_nil))) (c_tup (a_cons c_str (a_cons c_int a_nil))))))))), fun ds G R Ex hlen hS => ?_⟩
  clear hp tk hgd hr hlen
  match ds, hS with
  | [x], ⟨hx, hl, h1, h2⟩ =>
    rw [show start3 ["thing", "error"] [x] = [some (x), none] from rfl]
    simp only [wExpr, wRaise, gSb, wSeq, wNext, wRet, wRetN, wExpr, wIfS, wSet, wAsg, wPar, wAug, w1, w2, wA, aNil, aCons, wVar, wVarT, wC, tOfW, w3c, wAnd, wOr, wNot, tAnd3, tOr3, tNot3, wIf, wTup, wLst, wLstO, wCall, wSl, pNone, pSome, wipe3, List.map_cons, List.map_nil, fI2, fI2C, fI1, fAbs, addI, mulI, intI, eqS, neS, isN_, notN_, L3.isNon, gN, gsN, gsC, gT, asT, at3, List.set_cons_zero, List.set_cons_succ, Option.some.injEq, exists_eq_left', D.bl.injEq, D.int.injEq, D.tup.injEq, List.length_cons, List.length_nil, Nat.reduceAdd, true_and, if_true, if_false, Bool.false_eq_true, reduceIte, ite_true, ite_false, len_t0, len_t1, len_t2, len_t3, len_l0, len_l1, eqI, neI, Int.reduceBEq, Int.reduceLT, Int.reduceLE, Int.reduceNeg, decide_true, decide_false, Bool.not_true, Bool.not_false, ix0, ix1, ix2, and_true, and_self, wTryF, S_ptext]
    refine ⟨hx, hl, fun hp env => ?_, h2⟩
    refine ⟨true, m_BadPlan_BinError T, fun _ a d ha hd => ?_, fun z => by cases z⟩
    have ed : d = none := by
      cases d with
      | none => rfl
      | some _ => cases hd
    subst ed
    refine ⟨⟨rfl, rfl⟩, _, _, true, rfl, (e_BadPlan T).c, rfl, k_BadPlan_BadPlan T, ?_⟩
    exact ⟨true, rfl, by rw [if_pos rfl]; exact ⟨sizeLine_eq ▸ (by decide), h1 hp⟩⟩
def S_told : SP3 := fun ds G R _ => match ds with
  | [x] => (∃ L : List Nat, x = .str (Sg L) ∧ L.length ≤ 100000 ∧ (TL.spl [32] 0 [] L).length ≤ 1000 ∧ (∀ q, plW (TL.spl [32] 0 [] L) = some q → R (plD (some q)) G) ∧ (plW (TL.spl [32] 0 [] L) = none → R (.tup [.str "text", .int 0]) G)) ∨
      (rdD x = true ∧ (∀ s, x ≠ .str s) ∧ R (.tup [.str "text", .int 0]) G)
  | _ => False
theorem ok_told (T : Tx K mg) : Good P w K mg base "_law_told" ["text"] 8 S_told := by
  have g_read_plan := ok_rdp (P := P) (w := w) (base := base) T
  refine good_of (d__law_told T) sc__law_told fun f cd A outer s H E hp tk hgd hr => ⟨_, (s_one (s_tryF 1 rfl rfl sc__law_told.nd rfl rfl ⟨rfl, by decide, .inl (e_BinError T).gC⟩ tk
      (fun W1 pn xe tk hp => (s_one (s_ret (c_call g_read_plan (hr.mono (by omega)) hgd tk (a_cons (c_var 0) a_nil)))))
      (fun a oe cls d pn hl => (s_one (s_ret (c_if (t_val (c_callB (call_isX hl) (lift_isX (K := K)) (n_isinstance T) (a_cons (c_var 1) (a_cons (c_clsV (x_BadText T).gC) a_nil)))) (c_tup (a_cons c_str (a_cons (c_xf (x_BadText T).xf ((x_BadText T).no "line" (by simp)) hl (c_var 1)) a_nil))) (c_tup (a_cons c_str (a_cons c_int a_nil))))))))), fun ds G R Ex hlen hS => ?_⟩
  clear hp tk hgd hr hlen
  match ds, hS with
  | [x], h =>
    rw [show start3 ["text", "error"] [x] = [some (x), none] from rfl]
    simp only [wExpr, wRaise, gSb, wSeq, wNext, wRet, wRetN, wExpr, wIfS, wSet, wAsg, wPar, wAug, w1, w2, wA, aNil, aCons, wVar, wVarT, wC, tOfW, w3c, wAnd, wOr, wNot, tAnd3, tOr3, tNot3, wIf, wTup, wLst, wLstO, wCall, wSl, pNone, pSome, wipe3, List.map_cons, List.map_nil, fI2, fI2C, fI1, fAbs, addI, mulI, intI, eqS, neS, isN_, notN_, L3.isNon, gN, gsN, gsC, gT, asT, at3, List.set_cons_zero, List.set_cons_succ, Option.some.injEq, exists_eq_left', D.bl.injEq, D.int.injEq, D.tup.injEq, List.length_cons, List.length_nil, Nat.reduceAdd, true_and, if_true, if_false, Bool.false_eq_true, reduceIte, ite_true, ite_false, len_t0, len_t1, len_t2, len_t3, len_l0, len_l1, eqI, neI, Int.reduceBEq, Int.reduceLT, Int.reduceLE, Int.reduceNeg, decide_true, decide_false, Bool.not_true, Bool.not_false, ix0, ix1, ix2, and_true, and_self, wTryF, S_rdp]
    rcases h with ⟨L, e, hl, hw, h1, h2⟩ | ⟨hr, hns, h2⟩
    · refine .inl ⟨L, e, hl, hw, h1, fun hn env => ⟨true, m_BadText_BinError T, fun _ a d ha hd => ?_, fun z => by cases z⟩⟩
      cases d with
      | none => cases hd
      | some dd =>
        refine ⟨⟨rfl, rfl⟩, _, _, true, rfl, (x_BadText T).c, rfl, k_BadText_BadText T, true, rfl, ?_⟩
        rw [if_pos rfl]
        simp only [wXf, wVar, at3, Option.some.injEq, exists_eq_left']
        exact ⟨dd, _, _, .int 0, rfl, trivial, rfl, rfl, sizeLine_eq ▸ (by decide), h2 hn⟩
    · refine .inr ⟨hr, hns, fun env => ⟨true, m_BadText_BinError T, fun _ a d ha hd => ?_, fun z => by cases z⟩⟩
      cases d with
      | none => cases hd
      | some dd =>
        refine ⟨⟨rfl, rfl⟩, _, _, true, rfl, (x_BadText T).c, rfl, k_BadText_BadText T, true, rfl, ?_⟩
        rw [if_pos rfl]
        simp only [wXf, wVar, at3, Option.some.injEq, exists_eq_left']
        exact ⟨dd, _, _, .int 0, rfl, trivial, rfl, rfl, sizeLine_eq ▸ (by decide), h2⟩
end

end K69

set_option Elab.async false
set_option linter.all false
set_option maxRecDepth 100000
set_option maxHeartbeats 0
namespace K69
open PySem PySem.Spec L2 L3
open PyProof.Rows hiding St
/-! ### what is written is read -/
theorem num_dig {n : Nat} : ∀ c ∈ TL.numL n, isDig c = true := fun c hc => by
  have := TL.numL_digits n c hc
  unfold isDig
  rw [Bool.and_eq_true, decide_eq_true_eq, decide_eq_true_eq]
  first
  | exact this
  | omega
theorem num_head : ∀ (k n : Nat), n ≤ k → 1 ≤ n → ∃ c r, TL.numL n = c :: r ∧ 49 ≤ c ∧ c ≤ 57
  | 0, n, h, h1 => by omega
  | k + 1, n, h, h1 => by
    by_cases z : n < 10
    · exact ⟨48 + n, [], TL.numL_lt z, by omega, by omega⟩
    · obtain ⟨c, r, e, h2, h3⟩ := num_head k (n / 10) (by omega) (by omega)
      exact ⟨c, r ++ [48 + n % 10], by rw [TL.numL_step (by omega), e]; rfl, h2, h3⟩
theorem rdW_num {n : Nat} {rest : List Nat} (h : n < 10 ^ 600) (hr : ∀ c, rest.head? = some c → isDig c = false) : rdW (TL.numL n ++ rest) = some (n, (TL.numL n).length) := by
  have e := run_app rest (num_dig (n := n)) hr
  have l1 : (TL.numL n).length ≤ 600 := TL.numL_len (by decide) h
  have l0 : 1 ≤ (TL.numL n).length := List.length_pos_iff.mpr (TL.numL_ne n)
  unfold rdW
  rw [e, List.take_left, TL.numL_val, if_neg]
  rintro (z | z | ⟨z1, z2⟩)
  · omega
  · omega
  · rcases Nat.eq_zero_or_pos n with n0 | n0
    · rw [n0, TL.numL_lt (by decide)] at z2
      exact absurd z2 (by decide)
    · obtain ⟨c, r, e2, h2, h3⟩ := num_head n n (Nat.le_refl _) n0
      rw [e2] at z1
      have : c = 48 := Option.some.inj z1
      omega
def frN (n d : Nat) : List Nat := if d = 1 then TL.numL n else TL.numL n ++ 47 :: TL.numL d
theorem amW_fr {n d : Nat} (hn : n < 10 ^ 600) (hd : d < 10 ^ 600) (h1 : 1 ≤ d) (hg : Nat.gcd n d = 1) : amW (frN n d) = some (n, d) := by
  unfold amW frN
  by_cases z : d = 1
  · rw [if_pos z]
    have e := rdW_num (rest := []) hn (fun c h => by cases h)
    rw [List.append_nil] at e
    have e2 : rdA (TL.numL n) = some ((n, 1), (TL.numL n).length) := by
      unfold rdA
      rw [e]
      dsimp only
      have hh : ¬ ((TL.numL n).drop (TL.numL n).length).head? = some 47 := by
        rw [List.drop_length]
        intro h
        cases h
      rw [if_neg hh]
    rw [e2, z]
    dsimp only
    rw [if_pos rfl]
  · rw [if_neg z]
    have e := rdW_num (rest := 47 :: TL.numL d) hn (fun c h => by cases h; decide)
    have e3 := rdW_num (rest := []) hd (fun c h => by cases h)
    rw [List.append_nil] at e3
    have e2 : rdA (TL.numL n ++ 47 :: TL.numL d) = some ((n, d), (TL.numL n).length + 1 + (TL.numL d).length) := by
      unfold rdA
      rw [e]
      dsimp only
      have hh : ((TL.numL n ++ 47 :: TL.numL d).drop (TL.numL n).length).head? = some 47 := by
        rw [List.drop_left]
        rfl
      rw [if_pos hh]
      have e4 : (TL.numL n ++ 47 :: TL.numL d).drop ((TL.numL n).length + 1) = TL.numL d := by
        rw [← List.drop_drop, List.drop_left]
        rfl
      rw [e4, e3]
      dsimp only
      have hq : ¬ (d < 2 ∨ Nat.gcd n d ≠ 1) := by
        rintro (q | q)
        · omega
        · exact q hg
      rw [if_neg hq]
    rw [e2]
    dsimp only
    have hl : (TL.numL n).length + 1 + (TL.numL d).length = (TL.numL n ++ 47 :: TL.numL d).length := by
      rw [List.length_append, List.length_cons]
      omega
    rw [if_pos hl]
theorem frL_N {q : Fr} (h : QOk q) : frL q = (if q.1 < 0 then 45 :: frN q.1.natAbs q.2.natAbs else frN q.1.natAbs q.2.natAbs) := by
  have h1 := h.d1
  unfold frL frN numZ
  by_cases z : q.2 = 1
  · rw [if_pos z, if_pos (show q.2.natAbs = 1 by omega)]
  · rw [if_neg z, if_neg (show ¬ q.2.natAbs = 1 by omega), if_neg (show ¬ q.2 < 0 by omega)]
    split <;> rfl
theorem frN_head {n d : Nat} : ∃ c r, frN n d = c :: r ∧ isDig c = true := by
  have hne := TL.numL_ne n
  cases e : TL.numL n with
  | nil => exact absurd e hne
  | cons c r =>
    have hc : isDig c = true := num_dig c (by rw [e]; exact List.mem_cons_self)
    unfold frN
    rw [e]
    split
    · exact ⟨c, r, rfl, hc⟩
    · exact ⟨c, r ++ 47 :: TL.numL d, rfl, hc⟩
theorem sg_word {q : Fr} (h : QOk q) : sgW (frL q) = some q := by
  have h1 := h.d1
  have hd : q.2.natAbs < 10 ^ 600 := by
    have := h.d6
    have e2 : ((10 ^ 600 : Nat) : Int) = (10 : Int) ^ 600 := by decide +kernel
    rw [← e2] at this
    generalize (10 ^ 600 : Nat) = B at this ⊢
    omega
  have e := amW_fr h.n6 hd (by omega) h.g
  rw [frL_N h]
  unfold sgW
  by_cases z : q.1 < 0
  · rw [if_pos z]
    rw [if_pos (show (45 :: frN q.1.natAbs q.2.natAbs).head? = some 45 from rfl)]
    rw [show (45 :: frN q.1.natAbs q.2.natAbs).drop 1 = frN q.1.natAbs q.2.natAbs from rfl, e]
    dsimp only
    rw [if_pos (show 0 < q.1.natAbs by omega), show -((q.1.natAbs : Nat) : Int) = q.1 by omega, show ((q.2.natAbs : Nat) : Int) = q.2 by omega]
  · rw [if_neg z]
    obtain ⟨c, r, ec, hc⟩ := frN_head (n := q.1.natAbs) (d := q.2.natAbs)
    rw [if_neg (by
      rw [ec]
      intro e4
      have : c = 45 := Option.some.inj e4
      rw [this] at hc
      exact absurd hc (by decide))]
    rw [e]
    show some (((q.1.natAbs : Nat) : Int), ((q.2.natAbs : Nat) : Int)) = _
    rw [show ((q.1.natAbs : Nat) : Int) = q.1 by omega, show ((q.2.natAbs : Nat) : Int) = q.2 by omega]
theorem sg_dry : sgW dryL = none := by decide +kernel
theorem sg_draw : sgW drawL = none := by decide +kernel
theorem no_dry {qs : List Fr} (h : ∀ q ∈ qs, QOk q) : ¬ dryL ∈ qs.map frL := fun z => by
  obtain ⟨q, hq, e⟩ := List.mem_map.mp z
  have := sg_word (h q hq)
  rw [e, sg_dry] at this
  cases this
theorem sgs {qs : List Fr} (h : ∀ q ∈ qs, QOk q) : (qs.map frL).map sgW = qs.map some := by
  rw [List.map_map]
  exact List.map_congr_left fun q hq => sg_word (h q hq)
theorem pl_plan {Ds Rs : List Fr} (h0 : Ds ≠ []) (hD : ∀ q ∈ Ds, QOk q) (hR : ∀ q ∈ Rs, QOk q) : plW (planW Ds Rs) = some (Ds.map some, Rs.map some) := by
  unfold planW
  rw [plW_of (no_dry hD), sgs hD, sgs hR, if_neg]
  rintro (z | z)
  · exact h0 (List.map_eq_nil_iff.mp z)
  · rcases List.mem_append.mp z with z | z
    · obtain ⟨q, _, e⟩ := List.mem_map.mp z
      cases e
    · obtain ⟨q, _, e⟩ := List.mem_map.mp z
      cases e
theorem plD_plan {Ds Rs : List Fr} : plD (some (Ds.map some, Rs.map some)) = .tup [.tup (Ds.map frI), .tup (Rs.map frI)] := by
  show D.tup [.tup ((Ds.map some).map sgD), .tup ((Rs.map some).map sgD)] = _
  rw [List.map_map, List.map_map]
  rfl
theorem fr_free {q : Fr} {c : Nat} (h : QOk q) (hc : c < 45 ∨ 57 < c) : ¬ c ∈ frL q := fun z => by
  have nf : ∀ n, ¬ c ∈ TL.numL n := fun n => TL.numL_free (by omega)
  have zf : ∀ n d, ¬ c ∈ frN n d := fun n d z => by
    unfold frN at z
    split at z
    · exact nf _ z
    · rcases List.mem_append.mp z with z | z
      · exact nf _ z
      · rcases List.mem_cons.mp z with z | z
        · omega
        · exact nf _ z
  rw [frL_N h] at z
  split at z
  · rcases List.mem_cons.mp z with z | z
    · omega
    · exact zf _ _ z
  · exact zf _ _ z
theorem plan_free {Ds Rs : List Fr} (hD : ∀ q ∈ Ds, QOk q) (hR : ∀ q ∈ Rs, QOk q) : ∀ w ∈ planW Ds Rs, ¬ 32 ∈ w := fun w hw => by
  rcases List.mem_cons.mp hw with e | hw
  · rw [e]; decide
  · rcases List.mem_append.mp hw with hw | hw
    · obtain ⟨q, hq, rfl⟩ := List.mem_map.mp hw
      exact fr_free (hD q hq) (by omega)
    · rcases List.mem_cons.mp hw with e | hw
      · rw [e]; decide
      · obtain ⟨q, hq, rfl⟩ := List.mem_map.mp hw
        exact fr_free (hR q hq) (by omega)
theorem spl_plan {Ds Rs : List Fr} (hD : ∀ q ∈ Ds, QOk q) (hR : ∀ q ∈ Rs, QOk q) : TL.spl [32] 0 [] (planL Ds Rs) = planW Ds Rs := SX.spl_join (by unfold planW; exact List.cons_ne_nil _ _) (plan_free hD hR)

end K69

set_option Elab.async false
set_option linter.all false
set_option maxRecDepth 100000
set_option maxHeartbeats 0
namespace K69
open PySem PySem.Spec L2 L3
open PyProof.Rows hiding St
/-! ### things drawn -/
theorem some_lst {p : Addr} {es : List D} {G : GH} {R : K3} {Ex : X3} (hH : HandOk G p) (h0 : 0 < es.length) (h1 : es.length < 4000) (q : ∀ d G', d ∈ es → HandOk G' p → Apart p G G' → R d G') : S_some [.ref p, .lst es] G R Ex := ⟨p, es, rfl, (fun z => by cases z), hH, rfl, h0, h1, q⟩
def NOk (x : D) : Prop := ∃ n : Int, x = .int n ∧ 1 ≤ n ∧ n.natAbs < 10 ^ 600
def FOk (x : D) : Prop := ∃ q, x = frI q ∧ QOk q
theorem six_bd {i : Int} (h : i.natAbs < 10 ^ 601) : Bd i := by
  unfold Bd
  exact Nat.lt_trans h (Nat.lt_of_lt_of_le (show 10 ^ 601 < 2 ^ 2000 by decide +kernel) (Nat.pow_le_pow_right (by decide) (by decide)))
theorem red_ok {n d : Int} (h1 : 1 ≤ n) (h2 : n.natAbs < 10 ^ 600) (h3 : 1 ≤ d) (h4 : d.natAbs < 10 ^ 600) : QOk (redN n d, redD n d) ∧ QOk (0 - redN n d, redD n d) := by
  have hd : 0 < d := by omega
  have l := red_le (n := n) hd
  have dp := redD_pos (n := n) hd
  have g1 : Int.gcd (redN n d) (redD n d) = 1 := by
    unfold redN redD
    exact Int.gcd_ediv_gcd_ediv_gcd (Int.gcd_pos_of_ne_zero_right n (by omega))
  have ed : redD n d < 10 ^ 600 := by
    have e2 : ((10 ^ 600 : Nat) : Int) = (10 : Int) ^ 600 := by decide +kernel
    rw [← e2]
    generalize (10 ^ 600 : Nat) = B at h4 ⊢
    omega
  have en : (redN n d).natAbs < 10 ^ 600 := Nat.lt_of_le_of_lt l.1 h2
  refine ⟨⟨dp, ed, en, g1⟩, ⟨dp, ed, ?_, ?_⟩⟩
  · show (0 - redN n d).natAbs < _
    rw [Int.zero_sub, Int.natAbs_neg]
    exact en
  · show Int.gcd (0 - redN n d) (redD n d) = 1
    rw [Int.zero_sub, Int.neg_gcd]
    exact g1
section
variable {P : Program} {w : World} {K : PySem.W.Frag} {mg : Str → Option Value} {base : Heap}
def S_dr (Pr : D → Prop) : SP3 := fun ds G R _ => match ds with
  | [x] => ∃ p, x = .ref p ∧ HandOk G p ∧ ∀ d G', Pr d → HandOk G' p → Apart p G G' → R d G'
  | _ => False
theorem ok_number (T : Tx K mg) : Good P w K mg base "_law_number" ["hand"] 3 (S_dr NOk) := by
  have g__law_draw := ok_draw (P := P) (w := w) (base := base) T
  have g__law_some := ok_some (P := P) (w := w) (base := base) T
  refine good_of (d__law_number T) sc__law_number fun f cd A outer s H E hp tk hgd hr => ⟨_, (s_cons (s_set 1 sc__law_number.nd rfl (.inl rfl) rfl (c_call g__law_draw (hr.mono (by omega)) hgd tk (a_cons (c_var 0) (a_cons c_int a_nil))))
      (s_cons (s_if (t_cmp (op_eq3 hr.units) lift_eq (c_var 1) c_int) (s_one (s_ret (c_op op_mul3 lift_mul (c_op op_pow lift_I2C c_int c_int) (c_op op_add3 lift_add c_int (c_call g__law_draw (hr.mono (by omega)) hgd tk (a_cons (c_var 0) (a_cons (c_op op_pow lift_I2C c_int c_int) a_nil))))))) s_nil)
      (s_cons (s_if (t_cmp (op_eq3 hr.units) lift_eq (c_var 1) c_int) (s_cons (s_set 2 sc__law_number.nd rfl (.inl rfl) rfl c_int)
      (s_cons (s_for hp rfl (i_rg1 (n_range T) c_int) (g_name 3 sc__law_number.nd rfl (.inl rfl)) (s_one (s_set 2 sc__law_number.nd rfl (.inl rfl) rfl (c_op op_mul3 lift_mul (c_var 2) (c_op op_pow lift_I2C c_int c_int)))))
      (s_one (s_ret (c_op op_sub lift_I2i (c_op op_sub lift_I2i (c_var 2) c_int) (c_call g__law_draw (hr.mono (by omega)) hgd tk (a_cons (c_var 0) (a_cons c_int a_nil)))))))) s_nil)
      (s_one (s_ret (c_op op_add3 lift_add c_int (c_call g__law_draw (hr.mono (by omega)) hgd tk (a_cons (c_var 0) (a_cons (c_call g__law_some (hr.mono (by omega)) hgd tk (a_cons (c_var 0) (a_cons (c_lst (a_cons c_int (a_cons c_int (a_cons c_int a_nil)))) a_nil))) a_nil))))))))), fun ds G R Ex hlen hS => ?_⟩
  clear hp tk hgd hr hlen
  match ds, hS with
  | [x], ⟨p, e, hH, hR⟩ =>
    subst e
    rw [show start3 ["hand", "way", "found", "turn"] [.ref p] = [some (.ref p), none, none, none] from rfl]
    have cp : CPow 10 60 := by unfold CPow; decide
    have cp9 : CPow 10 9 := by unfold CPow; decide
    refine seq_cut (fun env' G' => ∃ k : Int, env' = [some (.ref p), some (.int k), none, none] ∧ HandOk G' p ∧ Apart p G G') ?_ ?_
    · rintro env' G1 ⟨k, rfl, hH1, hA1⟩
      refine seq_cut (fun env' G' => env' = [some (.ref p), some (.int k), none, none] ∧ G' = G1) ?_ ?_
      · rintro env' G2 ⟨rfl, e0⟩
        subst e0
        refine seq_cut (fun env' G' => (∃ u v, env' = [some (.ref p), some (.int k), u, v]) ∧ G' = G2) ?_ ?_
        · rintro env' G3 ⟨⟨u, v, rfl⟩, e0⟩
          subst e0
          simp only [wExpr, wRaise, gSb, wSeq, wNext, wRet, wRetN, wExpr, wIfS, wSet, wAsg, wPar, wAug, w1, w2, wA, aNil, aCons, wVar, wVarT, wC, tOfW, w3c, wAnd, wOr, wNot, tAnd3, tOr3, tNot3, wIf, wTup, wLst, wLstO, wCall, wSl, pNone, pSome, wipe3, List.map_cons, List.map_nil, fI2, fI2C, fI1, fAbs, addI, mulI, intI, eqS, neS, isN_, notN_, L3.isNon, gN, gsN, gsC, gT, asT, at3, List.set_cons_zero, List.set_cons_succ, Option.some.injEq, exists_eq_left', D.bl.injEq, D.int.injEq, D.tup.injEq, List.length_cons, List.length_nil, Nat.reduceAdd, true_and, if_true, if_false, Bool.false_eq_true, reduceIte, ite_true, ite_false, len_t0, len_t1, len_t2, len_t3, len_l0, len_l1, eqI, neI, Int.reduceBEq, Int.reduceLT, Int.reduceLE, Int.reduceNeg, decide_true, decide_false, Bool.not_true, Bool.not_false, ix0, ix1, ix2, and_true, and_self, S_draw]
          refine ⟨sizeLine_eq ▸ (by decide), some_lst hH1 (by simp) (by simp) fun d G4 hd hH4 hA4 => ?_⟩
          obtain ⟨m, rfl, m1, m2⟩ : ∃ m : Int, d = .int m ∧ 1 ≤ m ∧ m ≤ 1000 := by
            simp only [List.mem_cons, List.not_mem_nil, or_false] at hd
            rcases hd with rfl | rfl | rfl <;> exact ⟨_, rfl, by decide, by decide⟩
          refine ⟨p, m, rfl, rfl, hH4, by omega, by omega, fun r G5 r1 r2 hH5 hA5 => hR _ _ ⟨_, rfl, by omega, ?_⟩ hH5 ((hA1.trans hA4).trans hA5)⟩
          exact Nat.lt_of_lt_of_le (show (1 + r).natAbs < 10 ^ 4 by omega) (Nat.pow_le_pow_right (by decide) (by decide))
        · intro N hN
          simp only [wExpr, wRaise, gSb, wSeq, wNext, wRet, wRetN, wExpr, wIfS, wSet, wAsg, wPar, wAug, w1, w2, wA, aNil, aCons, wVar, wVarT, wC, tOfW, w3c, wAnd, wOr, wNot, tAnd3, tOr3, tNot3, wIf, wTup, wLst, wLstO, wCall, wSl, pNone, pSome, wipe3, List.map_cons, List.map_nil, fI2, fI2C, fI1, fAbs, addI, mulI, intI, eqS, neS, isN_, notN_, L3.isNon, gN, gsN, gsC, gT, asT, at3, List.set_cons_zero, List.set_cons_succ, Option.some.injEq, exists_eq_left', D.bl.injEq, D.int.injEq, D.tup.injEq, List.length_cons, List.length_nil, Nat.reduceAdd, true_and, if_true, if_false, Bool.false_eq_true, reduceIte, ite_true, ite_false, len_t0, len_t1, len_t2, len_t3, len_l0, len_l1, eqI, neI, Int.reduceBEq, Int.reduceLT, Int.reduceLE, Int.reduceNeg, decide_true, decide_false, Bool.not_true, Bool.not_false, ix0, ix1, ix2, and_true, and_self]
          cases (k == 1) with
          | false => exact hN _ _ ⟨⟨_, _, rfl⟩, rfl⟩
          | true =>
            rw [if_pos rfl]
            simp only [wFor, iRg1, wC]
            refine ⟨10, rfl, by decide, by decide, ?_⟩
            refine lp_ix _ (fun i env' G' => (∃ u, env' = [some (.ref p), some (.int k), some (.int ((10 ^ (60 * i) : Nat) : Int)), u]) ∧ G' = G2) (fun _ _ _ _ => trivial) ?_ ?_ _ _ ⟨⟨none, rfl⟩, rfl⟩
            · rintro i d hd env' G3 N2 ⟨⟨u, rfl⟩, e3⟩ hN2
              subst e3
              have hi : i < 10 := by
                have := (List.getElem?_eq_some_iff.mp hd).1
                rwa [List.length_map, List.length_range] at this
              simp only [wExpr, wRaise, gSb, wSeq, wNext, wRet, wRetN, wExpr, wIfS, wSet, wAsg, wPar, wAug, w1, w2, wA, aNil, aCons, wVar, wVarT, wC, tOfW, w3c, wAnd, wOr, wNot, tAnd3, tOr3, tNot3, wIf, wTup, wLst, wLstO, wCall, wSl, pNone, pSome, wipe3, List.map_cons, List.map_nil, fI2, fI2C, fI1, fAbs, addI, mulI, intI, eqS, neS, isN_, notN_, L3.isNon, gN, gsN, gsC, gT, asT, at3, List.set_cons_zero, List.set_cons_succ, Option.some.injEq, exists_eq_left', D.bl.injEq, D.int.injEq, D.tup.injEq, List.length_cons, List.length_nil, Nat.reduceAdd, true_and, if_true, if_false, Bool.false_eq_true, reduceIte, ite_true, ite_false, len_t0, len_t1, len_t2, len_t3, len_l0, len_l1, eqI, neI, Int.reduceBEq, Int.reduceLT, Int.reduceLE, Int.reduceNeg, decide_true, decide_false, Bool.not_true, Bool.not_false, ix0, ix1, ix2, and_true, and_self, cp]
              have b1 : Bd ((10 ^ (60 * i) : Nat) : Int) := six_bd (by rw [Int.natAbs_natCast]; exact Nat.pow_lt_pow_right (by decide) (by omega))
              have e60 : ((10 : Int) ^ (Int.toNat 60)) = ((10 ^ 60 : Nat) : Int) := by decide +kernel
              have b2 : Bd ((10 ^ 60 : Nat) : Int) := six_bd (by rw [Int.natAbs_natCast]; exact Nat.pow_lt_pow_right (by decide) (by omega))
              rw [e60]
              refine ⟨b1.mul b2, ?_⟩
              have em : ((10 ^ (60 * i) : Nat) : Int) * ((10 ^ 60 : Nat) : Int) = ((10 ^ (60 * (i + 1)) : Nat) : Int) := by
                rw [← Int.natCast_mul, ← Nat.pow_add]
                rfl
              rw [em]
              exact hN2 _ _ ⟨⟨_, rfl⟩, rfl⟩
            · rintro env' G3 ⟨⟨u, rfl⟩, e3⟩
              subst e3
              simp only [wExpr, wRaise, gSb, wSeq, wNext, wRet, wRetN, wExpr, wIfS, wSet, wAsg, wPar, wAug, w1, w2, wA, aNil, aCons, wVar, wVarT, wC, tOfW, w3c, wAnd, wOr, wNot, tAnd3, tOr3, tNot3, wIf, wTup, wLst, wLstO, wCall, wSl, pNone, pSome, wipe3, List.map_cons, List.map_nil, fI2, fI2C, fI1, fAbs, addI, mulI, intI, eqS, neS, isN_, notN_, L3.isNon, gN, gsN, gsC, gT, asT, at3, List.set_cons_zero, List.set_cons_succ, Option.some.injEq, exists_eq_left', D.bl.injEq, D.int.injEq, D.tup.injEq, List.length_cons, List.length_nil, Nat.reduceAdd, true_and, if_true, if_false, Bool.false_eq_true, reduceIte, ite_true, ite_false, len_t0, len_t1, len_t2, len_t3, len_l0, len_l1, eqI, neI, Int.reduceBEq, Int.reduceLT, Int.reduceLE, Int.reduceNeg, decide_true, decide_false, Bool.not_true, Bool.not_false, ix0, ix1, ix2, and_true, and_self, S_draw]
              refine ⟨p, 1000, rfl, rfl, hH1, by decide, by decide, fun r G4 r1 r2 hH4 hA4 => hR _ _ ⟨_, rfl, ?_⟩ hH4 (hA1.trans hA4)⟩
              have el : 60 * ((List.range (Int.toNat 10)).map fun i : Nat => D.int (0 + i)).length = 600 := by
                rw [List.length_map, List.length_range]
                rfl
              rw [el]
              have big : 2000 ≤ 10 ^ 600 := Nat.le_trans (show 2000 ≤ 10 ^ 4 by decide) (Nat.pow_le_pow_right (by decide) (by decide))
              generalize (10 : Nat) ^ 600 = B at big ⊢
              omega
      · intro N hN
        simp only [wExpr, wRaise, gSb, wSeq, wNext, wRet, wRetN, wExpr, wIfS, wSet, wAsg, wPar, wAug, w1, w2, wA, aNil, aCons, wVar, wVarT, wC, tOfW, w3c, wAnd, wOr, wNot, tAnd3, tOr3, tNot3, wIf, wTup, wLst, wLstO, wCall, wSl, pNone, pSome, wipe3, List.map_cons, List.map_nil, fI2, fI2C, fI1, fAbs, addI, mulI, intI, eqS, neS, isN_, notN_, L3.isNon, gN, gsN, gsC, gT, asT, at3, List.set_cons_zero, List.set_cons_succ, Option.some.injEq, exists_eq_left', D.bl.injEq, D.int.injEq, D.tup.injEq, List.length_cons, List.length_nil, Nat.reduceAdd, true_and, if_true, if_false, Bool.false_eq_true, reduceIte, ite_true, ite_false, len_t0, len_t1, len_t2, len_t3, len_l0, len_l1, eqI, neI, Int.reduceBEq, Int.reduceLT, Int.reduceLE, Int.reduceNeg, decide_true, decide_false, Bool.not_true, Bool.not_false, ix0, ix1, ix2, and_true, and_self, S_draw, cp, cp9]
        cases (k == 0) with
        | false => exact hN _ _ ⟨rfl, rfl⟩
        | true =>
          rw [if_pos rfl]
          have e9 : ((10 : Int) ^ (Int.toNat 9)) = 1000000000 := by decide
          refine ⟨p, _, rfl, rfl, hH1, by decide, by decide, fun r G4 r1 r2 hH4 hA4 => ?_⟩
          rw [e9] at r2
          have e60 : ((10 : Int) ^ (Int.toNat 60)) = ((10 ^ 60 : Nat) : Int) := by decide +kernel
          refine ⟨mulR (by omega) (by omega), hR _ _ ⟨_, rfl, ?_, ?_⟩ hH4 (hA1.trans hA4)⟩
          · rw [e60]
            have b : 1 ≤ 10 ^ 60 := Nat.pow_pos (by decide)
            have : (1 : Int) * 1 ≤ ((10 ^ 60 : Nat) : Int) * (1 + r) := Int.mul_le_mul (by omega) (by omega) (by decide) (by omega)
            omega
          · rw [e60, Int.natAbs_mul, Int.natAbs_natCast]
            have h1 : (1 + r).natAbs ≤ 10 ^ 10 := by omega
            have h2 : 10 ^ 60 * (1 + r).natAbs ≤ 10 ^ 60 * 10 ^ 10 := Nat.mul_le_mul_left _ h1
            refine Nat.lt_of_le_of_lt h2 ?_
            rw [← Nat.pow_add]
            exact Nat.pow_lt_pow_right (by decide) (by decide)
    · intro N hN
      simp only [wExpr, wRaise, gSb, wSeq, wNext, wRet, wRetN, wExpr, wIfS, wSet, wAsg, wPar, wAug, w1, w2, wA, aNil, aCons, wVar, wVarT, wC, tOfW, w3c, wAnd, wOr, wNot, tAnd3, tOr3, tNot3, wIf, wTup, wLst, wLstO, wCall, wSl, pNone, pSome, wipe3, List.map_cons, List.map_nil, fI2, fI2C, fI1, fAbs, addI, mulI, intI, eqS, neS, isN_, notN_, L3.isNon, gN, gsN, gsC, gT, asT, at3, List.set_cons_zero, List.set_cons_succ, Option.some.injEq, exists_eq_left', D.bl.injEq, D.int.injEq, D.tup.injEq, List.length_cons, List.length_nil, Nat.reduceAdd, true_and, if_true, if_false, Bool.false_eq_true, reduceIte, ite_true, ite_false, len_t0, len_t1, len_t2, len_t3, len_l0, len_l1, eqI, neI, Int.reduceBEq, Int.reduceLT, Int.reduceLE, Int.reduceNeg, decide_true, decide_false, Bool.not_true, Bool.not_false, ix0, ix1, ix2, and_true, and_self, S_draw]
      exact ⟨p, 8, rfl, rfl, hH, by decide, by decide, fun k G1 _ _ hH1 hA1 => hN _ _ ⟨k, rfl, hH1, hA1⟩⟩
theorem ok_fraction (T : Tx K mg) : Good P w K mg base "_law_fraction" ["hand"] 4 (S_dr FOk) := by
  have g__law_draw := ok_draw (P := P) (w := w) (base := base) T
  have g__law_some := ok_some (P := P) (w := w) (base := base) T
  have g__law_number := ok_number (P := P) (w := w) (base := base) T
  have g__law_cut := ok_lcut (P := P) (w := w) (base := base) T
  refine good_of (d__law_fraction T) sc__law_fraction fun f cd A outer s H E hp tk hgd hr => ⟨_, (s_cons (s_set 1 sc__law_fraction.nd rfl (.inl rfl) rfl (c_call g__law_cut (hr.mono (by omega)) hgd tk (a_cons (c_call g__law_number (hr.mono (by omega)) hgd tk (a_cons (c_var 0) a_nil)) (a_cons (c_call g__law_some (hr.mono (by omega)) hgd tk (a_cons (c_var 0) (a_cons (c_lst (a_cons c_int (a_cons c_int (a_cons (c_call g__law_number (hr.mono (by omega)) hgd tk (a_cons (c_var 0) a_nil)) a_nil)))) a_nil))) a_nil))))
      (s_cons (s_set 2 sc__law_fraction.nd rfl (.inl rfl) rfl (c_call g__law_draw (hr.mono (by omega)) hgd tk (a_cons (c_var 0) (a_cons c_int a_nil))))
      (s_cons (s_if (t_cmp (op_eq3 hr.units) lift_eq (c_var 2) c_int) (s_one (s_ret (c_tup (a_cons c_int (a_cons c_int a_nil))))) s_nil)
      (s_one (s_ret (c_if (t_cmp (op_eq3 hr.units) lift_eq (c_var 2) c_int) (c_tup (a_cons (c_op op_sub lift_I2i c_int (c_ix (c_var 1) c_int)) (a_cons (c_ix (c_var 1) c_int) a_nil))) (c_var 1))))))), fun ds G R Ex hlen hS => ?_⟩
  clear hp tk hgd hr hlen
  match ds, hS with
  | [x], ⟨p, e, hH, hR⟩ =>
    subst e
    rw [show start3 ["hand", "one", "way"] [.ref p] = [some (.ref p), none, none] from rfl]
    simp only [wExpr, wRaise, gSb, wSeq, wNext, wRet, wRetN, wExpr, wIfS, wSet, wAsg, wPar, wAug, w1, w2, wA, aNil, aCons, wVar, wVarT, wC, tOfW, w3c, wAnd, wOr, wNot, tAnd3, tOr3, tNot3, wIf, wTup, wLst, wLstO, wCall, wSl, pNone, pSome, wipe3, List.map_cons, List.map_nil, fI2, fI2C, fI1, fAbs, addI, mulI, intI, eqS, neS, isN_, notN_, L3.isNon, gN, gsN, gsC, gT, asT, at3, List.set_cons_zero, List.set_cons_succ, Option.some.injEq, exists_eq_left', D.bl.injEq, D.int.injEq, D.tup.injEq, List.length_cons, List.length_nil, Nat.reduceAdd, true_and, if_true, if_false, Bool.false_eq_true, reduceIte, ite_true, ite_false, len_t0, len_t1, len_t2, len_t3, len_l0, len_l1, eqI, neI, Int.reduceBEq, Int.reduceLT, Int.reduceLE, Int.reduceNeg, decide_true, decide_false, Bool.not_true, Bool.not_false, ix0, ix1, ix2, and_true, and_self, S_draw, S_dr]
    refine ⟨p, rfl, hH, ?_⟩
    rintro _ G1 ⟨n, rfl, n1, n6⟩ hH1 hA1
    refine ⟨p, rfl, hH1, ?_⟩
    rintro _ G2 ⟨m, rfl, m1, m6⟩ hH2 hA2
    refine ⟨sizeLine_eq ▸ (by decide), some_lst hH2 (by simp) (by simp) fun d G3 hd hH3 hA3 => ?_⟩
    obtain ⟨d, rfl, d1, d6⟩ : NOk d := by
      simp only [List.mem_cons, List.not_mem_nil, or_false] at hd
      rcases hd with rfl | rfl | rfl
      · exact ⟨1, rfl, by decide, Nat.one_lt_pow (by decide) (by decide)⟩
      · exact ⟨1, rfl, by decide, Nat.one_lt_pow (by decide) (by decide)⟩
      · exact ⟨m, rfl, m1, m6⟩
    have p6 : (10 : Nat) ^ 600 < 10 ^ 601 := Nat.pow_lt_pow_right (by decide) (by decide)
    show 0 < d ∧ Bd n ∧ Bd d ∧ _
    refine ⟨by omega, six_bd (Nat.lt_trans n6 p6), six_bd (Nat.lt_trans d6 p6), ?_⟩
    obtain ⟨q1, q2⟩ := red_ok n1 n6 d1 d6
    refine ⟨p, 4, rfl, rfl, hH3, by decide, by decide, fun r G4 _ _ hH4 hA4 => ?_⟩
    have hA := ((hA1.trans hA2).trans hA3).trans hA4
    cases (r == 0) with
    | true =>
      rw [if_pos rfl]
      exact ⟨sizeLine_eq ▸ (by decide), hR _ _ ⟨(0, 1), rfl, ⟨by decide, by decide +kernel, by decide +kernel, rfl⟩⟩ hH4 hA⟩
    | false =>
      rw [if_neg (by decide)]
      cases (r == 1) with
      | true =>
        rw [if_pos rfl]
        unfold frD
        simp only [wExpr, wRaise, gSb, wSeq, wNext, wRet, wRetN, wExpr, wIfS, wSet, wAsg, wPar, wAug, w1, w2, wA, aNil, aCons, wVar, wVarT, wC, tOfW, w3c, wAnd, wOr, wNot, tAnd3, tOr3, tNot3, wIf, wTup, wLst, wLstO, wCall, wSl, pNone, pSome, wipe3, List.map_cons, List.map_nil, fI2, fI2C, fI1, fAbs, addI, mulI, intI, eqS, neS, isN_, notN_, L3.isNon, gN, gsN, gsC, gT, asT, at3, List.set_cons_zero, List.set_cons_succ, Option.some.injEq, exists_eq_left', D.bl.injEq, D.int.injEq, D.tup.injEq, List.length_cons, List.length_nil, Nat.reduceAdd, true_and, if_true, if_false, Bool.false_eq_true, reduceIte, ite_true, ite_false, len_t0, len_t1, len_t2, len_t3, len_l0, len_l1, eqI, neI, Int.reduceBEq, Int.reduceLT, Int.reduceLE, Int.reduceNeg, decide_true, decide_false, Bool.not_true, Bool.not_false, ix0, ix1, ix2, and_true, and_self]
        exact ⟨sizeLine_eq ▸ (by decide), hR _ _ ⟨_, rfl, q2⟩ hH4 hA⟩
      | false =>
        rw [if_neg (by decide)]
        exact hR _ _ ⟨_, rfl, q1⟩ hH4 hA
end

end K69

set_option Elab.async false
set_option linter.all false
set_option maxRecDepth 100000
set_option maxHeartbeats 0
namespace K69
open PySem PySem.Spec L2 L3
open PyProof.Rows hiding St
/-! ### wrong words -/
theorem bad_head {ws : List (List Nat)} (h : ws.head? ≠ some drawL) : plW ws = none := by
  unfold plW
  rw [if_pos (.inr (.inl h))]
theorem bad_nodry {ws : List (List Nat)} (h : ¬ dryL ∈ ws) : plW ws = none := by
  unfold plW
  rw [if_pos (.inr (.inr h))]
theorem bad_word {A B : List (List Nat)} {w : List Nat} (hA : ¬ dryL ∈ A) (hw : w ∈ A ++ B) (h : sgW w = none) : plW (drawL :: (A ++ dryL :: B)) = none := by
  rw [plW_of hA, if_pos]
  refine .inr ?_
  rw [← List.map_append]
  exact List.mem_map.mpr ⟨w, hw, h⟩
theorem join_cons {S w : List Nat} {ws : List (List Nat)} (h : ws ≠ []) : TL.joinL S (w :: ws) = w ++ (S ++ TL.joinL S ws) := by
  cases ws with
  | nil => exact absurd rfl h
  | cons v ws => rfl
theorem join_snoc {S w : List Nat} : ∀ {ws : List (List Nat)}, ws ≠ [] → TL.joinL S (ws ++ [w]) = TL.joinL S ws ++ (S ++ w)
  | [], h => absurd rfl h
  | [v], _ => rfl
  | v :: u :: ws, _ => by
    show v ++ (S ++ TL.joinL S ((u :: ws) ++ [w])) = (v ++ (S ++ TL.joinL S (u :: ws))) ++ (S ++ w)
    rw [join_snoc (List.cons_ne_nil u ws)]
    simp
theorem join_app {S t l : List Nat} {ws : List (List Nat)} : TL.joinL S (ws ++ [l]) ++ t = TL.joinL S (ws ++ [l ++ t]) := by
  cases ws with
  | nil => rfl
  | cons v ws =>
    rw [join_snoc (List.cons_ne_nil v ws), join_snoc (List.cons_ne_nil v ws)]
    simp
theorem join_len {ws : List (List Nat)} {m : Nat} : (∀ w ∈ ws, w.length ≤ m) → (TL.joinL [32] ws).length ≤ ws.length * (m + 1) := by
  induction ws with
  | nil => intro _; exact Nat.zero_le _
  | cons w ws ih =>
    intro h
    have hw := h w List.mem_cons_self
    have i := ih fun v hv => h v (List.mem_cons_of_mem _ hv)
    rw [List.length_cons, Nat.succ_mul]
    cases ws with
    | nil =>
      show w.length ≤ _
      omega
    | cons v ws =>
      rw [join_cons (List.cons_ne_nil v ws), List.length_append, List.length_append, List.length_singleton]
      omega
def BadT (x : D) : Prop := ∃ L : List Nat, x = .str (Sg L) ∧ L.length ≤ 100000 ∧ (TL.spl [32] 0 [] L).length ≤ 1000 ∧ plW (TL.spl [32] 0 [] L) = none
theorem bad_of {ws : List (List Nat)} (h0 : ws ≠ []) (hl : ws.length ≤ 30) (hw : ∀ w ∈ ws, w.length ≤ 2000 ∧ ¬ 32 ∈ w) (h : plW ws = none) : BadT (.str (Sg (TL.joinL [32] ws))) := by
  have e : TL.spl [32] 0 [] (TL.joinL [32] ws) = ws := SX.spl_join h0 fun w hx => (hw w hx).2
  refine ⟨_, rfl, ?_, by rw [e]; omega, by rw [e]; exact h⟩
  have h1 := join_len fun w hx => (hw w hx).1
  have h2 : ws.length * (2000 + 1) ≤ 30 * (2000 + 1) := Nat.mul_le_mul_right _ hl
  omega
/-- some words between -/
def inter : List (List Nat) → List (List Nat)
  | [] => []
  | [w] => [w]
  | w :: v :: ws => w :: [] :: inter (v :: ws)
theorem join_inter : ∀ (ws : List (List Nat)), TL.joinL [32, 32] ws = TL.joinL [32] (inter ws)
  | [] => rfl
  | [w] => rfl
  | w :: v :: ws => by
    have ih := join_inter (v :: ws)
    have hne : inter (v :: ws) ≠ [] := by
      cases ws with
      | nil => exact List.cons_ne_nil _ _
      | cons u us => exact List.cons_ne_nil _ _
    show w ++ ([32, 32] ++ TL.joinL [32, 32] (v :: ws)) = TL.joinL [32] (w :: [] :: inter (v :: ws))
    rw [join_cons (List.cons_ne_nil _ _), join_cons hne, ih]
    simp
/-! ### replaced -/
theorem repl_S {L y z : List Nat} (hy : 1 ≤ y.length) : Txt.replace (Sg L) (Sg y) (Sg z) = Sg (PySem.StrLaws.replL y z L) := by
  have e := PySem.StrLaws.replace_list (x := Sg L) (y := Sg y) (z := Sg z) (by rw [SX.S_len]; exact hy)
  have e2 := SX.S_tl (Txt.replace (Sg L) (Sg y) (Sg z))
  rw [← e2, e]
theorem repl_no {y z : List Nat} {c : Nat} (hc : c ∈ y) : ∀ {L : List Nat}, ¬ c ∈ L → PySem.StrLaws.replL y z L = L
  | [], _ => PySem.StrLaws.replL_nil
  | d :: L, h => by
    have m : ¬ (d :: L).take y.length = y := fun e => h (List.mem_of_mem_take (by rw [e]; exact hc))
    rw [PySem.StrLaws.replL_miss m, repl_no hc fun z => h (List.mem_cons_of_mem _ z)]
theorem repl_draw {z t : List Nat} (h : ¬ 119 ∈ t) : PySem.StrLaws.replL drawL z (drawL ++ t) = z ++ t := by
  have e : drawL ++ t = 100 :: ([114, 97, 119] ++ t) := rfl
  rw [e, PySem.StrLaws.replL_hit (by decide) (by rfl)]
  show z ++ PySem.StrLaws.replL drawL z t = _
  rw [repl_no (c := 119) (by decide) h]
theorem repl_dry {z post : List Nat} (h2 : ¬ 121 ∈ post) : ∀ {pre : List Nat}, ¬ 121 ∈ pre → PySem.StrLaws.replL dryL z (pre ++ (dryL ++ post)) = pre ++ (z ++ post)
  | [], _ => by
    have e : [] ++ (dryL ++ post) = 100 :: ([114, 121] ++ post) := rfl
    rw [e, PySem.StrLaws.replL_hit (by decide) (by rfl)]
    show z ++ PySem.StrLaws.replL dryL z post = _
    rw [repl_no (c := 121) (by decide) h2]
    rfl
  | c :: pre, h => by
    have m : ¬ (c :: (pre ++ (dryL ++ post))).take dryL.length = dryL := by
      intro e
      match pre, h, e with
      | [], _, e =>
        have e' : [c, 100, 114] = dryL := e
        exact absurd (Option.some.inj (show some 114 = some 121 from congrArg (·[2]?) e')) (by decide)
      | [c2], _, e =>
        have e' : [c, c2, 100] = dryL := e
        exact absurd (Option.some.inj (show some 100 = some 121 from congrArg (·[2]?) e')) (by decide)
      | c2 :: c3 :: pre, h, e =>
        have e' : [c, c2, c3] = dryL := e
        have := congrArg (·[2]?) e'
        have e3 : c3 = 121 := Option.some.inj this
        exact h (by rw [e3]; simp)
    show PySem.StrLaws.replL dryL z (c :: (pre ++ (dryL ++ post))) = _
    rw [PySem.StrLaws.replL_miss m, repl_dry h2 fun z => h (List.mem_cons_of_mem _ z)]
    rfl

end K69

set_option Elab.async false
set_option linter.all false
set_option maxRecDepth 100000
set_option maxHeartbeats 0
namespace K69
open PySem PySem.Spec L2 L3
open PyProof.Rows hiding St
/-! ### the wrong texts are wrong -/
theorem rdA_fr {n d : Nat} {rest : List Nat} (hn : n < 10 ^ 600) (hd : d < 10 ^ 600) (h1 : 1 ≤ d) (hg : Nat.gcd n d = 1) (hr : ∀ c, rest.head? = some c → isDig c = false ∧ c ≠ 47) : rdA (frN n d ++ rest) = some ((n, d), (frN n d).length) := by
  unfold frN
  by_cases z : d = 1
  · rw [if_pos z]
    have e := rdW_num (rest := rest) hn (fun c h => (hr c h).1)
    unfold rdA
    rw [e]
    dsimp only
    have hh : ¬ ((TL.numL n ++ rest).drop (TL.numL n).length).head? = some 47 := by
      rw [List.drop_left]
      intro h
      exact (hr 47 h).2 rfl
    rw [if_neg hh, z]
  · rw [if_neg z]
    have ea : TL.numL n ++ 47 :: TL.numL d ++ rest = TL.numL n ++ 47 :: (TL.numL d ++ rest) := by simp
    rw [ea]
    have e := rdW_num (rest := 47 :: (TL.numL d ++ rest)) hn (fun c h => by cases h; decide)
    have e3 := rdW_num (rest := rest) hd (fun c h => (hr c h).1)
    unfold rdA
    rw [e]
    dsimp only
    have hh : ((TL.numL n ++ 47 :: (TL.numL d ++ rest)).drop (TL.numL n).length).head? = some 47 := by
      rw [List.drop_left]
      rfl
    rw [if_pos hh]
    have e4 : (TL.numL n ++ 47 :: (TL.numL d ++ rest)).drop ((TL.numL n).length + 1) = TL.numL d ++ rest := by
      rw [← List.drop_drop, List.drop_left]
      rfl
    rw [e4, e3]
    dsimp only
    have hq : ¬ (d < 2 ∨ Nat.gcd n d ≠ 1) := by
      rintro (q | q)
      · omega
      · exact q hg
    rw [if_neg hq]
    have hl : (TL.numL n).length + 1 + (TL.numL d).length = (TL.numL n ++ 47 :: TL.numL d).length := by
      rw [List.length_append, List.length_cons]
      omega
    rw [hl]
theorem QOk.d6' {q : Fr} (h : QOk q) : q.2.natAbs < 10 ^ 600 := by
  have h1 := h.d1
  have := h.d6
  have e2 : ((10 ^ 600 : Nat) : Int) = (10 : Int) ^ 600 := by decide +kernel
  rw [← e2] at this
  generalize (10 ^ 600 : Nat) = B at this ⊢
  omega
theorem sg_junk {q : Fr} {c : Nat} (h : QOk q) (hc : isDig c = false) (h47 : c ≠ 47) : sgW (frL q ++ [c]) = none := by
  have h1 := h.d1
  have e : amW (frN q.1.natAbs q.2.natAbs ++ [c]) = none := by
    unfold amW
    rw [rdA_fr h.n6 h.d6' (by omega) h.g (fun d hd => by cases hd; exact ⟨hc, h47⟩)]
    dsimp only
    rw [if_neg (by rw [List.length_append, List.length_singleton]; omega)]
  rw [frL_N h]
  unfold sgW
  by_cases z : q.1 < 0
  · rw [if_pos z]
    rw [if_pos (show (45 :: frN q.1.natAbs q.2.natAbs ++ [c]).head? = some 45 from rfl)]
    rw [show (45 :: frN q.1.natAbs q.2.natAbs ++ [c]).drop 1 = frN q.1.natAbs q.2.natAbs ++ [c] from rfl, e]
  · rw [if_neg z]
    obtain ⟨d, r, ec, hd⟩ := frN_head (n := q.1.natAbs) (d := q.2.natAbs)
    have hh : ¬ (frN q.1.natAbs q.2.natAbs ++ [c]).head? = some 45 := by
      rw [ec]
      intro e4
      have : d = 45 := Option.some.inj e4
      rw [this] at hd
      exact absurd hd (by decide)
    rw [if_neg hh, e]
    rfl
theorem sg_zero {q : Fr} (h : QOk q) : sgW (48 :: frL q) = none := by
  unfold sgW
  rw [if_neg (by intro z; cases z)]
  have e : amW (48 :: frL q) = none := by
    rw [frL_N h]
    by_cases z : q.1 < 0
    · rw [if_pos z]
      obtain ⟨d, r, ec, hd⟩ := frN_head (n := q.1.natAbs) (d := q.2.natAbs)
      rw [ec]
      have er : rdW (48 :: 45 :: d :: r) = some (0, 1) := rfl
      unfold amW rdA
      rw [er]
      dsimp only
      rw [if_neg (by intro z; cases z)]
      dsimp only
      rw [if_neg (by rw [List.length_cons, List.length_cons]; omega)]
    · rw [if_neg z]
      obtain ⟨d, r, ec, hd⟩ := frN_head (n := q.1.natAbs) (d := q.2.natAbs)
      rw [ec]
      have er : rdW (48 :: d :: r) = none := by
        unfold rdW
        rw [if_pos]
        refine .inr (.inr ⟨rfl, ?_⟩)
        rw [run_cons, if_pos (by decide), run_cons, if_pos hd]
        omega
      unfold amW rdA
      rw [er]
  rw [e]
  rfl
structure Pl (Ds Rs : List Fr) : Prop where
  d0 : Ds ≠ []
  dl : Ds.length ≤ 6
  rl : Rs.length ≤ 6
  dq : ∀ q ∈ Ds, QOk q
  rq : ∀ q ∈ Rs, QOk q
section
variable {Ds Rs : List Fr}
theorem Pl.w (h : Pl Ds Rs) : ∀ w ∈ planW Ds Rs, w.length ≤ 2000 ∧ ¬ 32 ∈ w := fun w hw => ⟨by have := planW_len h.dq h.rq w hw; omega, plan_free h.dq h.rq w hw⟩
theorem Pl.wl (h : Pl Ds Rs) : (planW Ds Rs).length ≤ 14 := by
  have := h.dl
  have := h.rl
  unfold planW
  simp only [List.length_cons, List.length_append, List.length_map]
  omega
theorem Pl.ne : planW Ds Rs ≠ [] := List.cons_ne_nil _ _
theorem Pl.wd (h : Pl Ds Rs) {w : List Nat} (hw : w ∈ Ds.map frL ∨ w ∈ Rs.map frL ∨ w = drawL ∨ w = dryL) : w.length ≤ 2000 ∧ ¬ 32 ∈ w := by
  refine h.w w ?_
  unfold planW
  rcases hw with z | z | z | z
  · exact List.mem_cons_of_mem _ (List.mem_append_left _ z)
  · exact List.mem_cons_of_mem _ (List.mem_append_right _ (List.mem_cons_of_mem _ z))
  · rw [z]; exact List.mem_cons_self
  · rw [z]; exact List.mem_cons_of_mem _ (List.mem_append_right _ List.mem_cons_self)
/-- a word more at the end -/
theorem Pl.snoc (h : Pl Ds Rs) {w : List Nat} (hw : w.length ≤ 2000 ∧ ¬ 32 ∈ w) (hs : sgW w = none) : BadT (.str (Sg (planL Ds Rs ++ ([32] ++ w)))) := by
  have e : planL Ds Rs ++ ([32] ++ w) = TL.joinL [32] (planW Ds Rs ++ [w]) := (join_snoc Pl.ne).symm
  rw [e]
  refine bad_of (by simp) (by have := h.wl; rw [List.length_append, List.length_singleton]; omega) (fun v hv => ?_) ?_
  · rcases List.mem_append.mp hv with hv | hv
    · exact h.w v hv
    · rw [List.mem_singleton.mp hv]; exact hw
  · have ew : planW Ds Rs ++ [w] = drawL :: (Ds.map frL ++ dryL :: (Rs.map frL ++ [w])) := by
      unfold planW
      simp
    rw [ew]
    exact bad_word (no_dry h.dq) (by simp) hs
/-- a word ahead -/
theorem Pl.front (h : Pl Ds Rs) {w : List Nat} (hw : w.length ≤ 2000 ∧ ¬ 32 ∈ w) (hs : w ≠ drawL) : BadT (.str (Sg (w ++ ([32] ++ planL Ds Rs)))) := by
  have e : w ++ ([32] ++ planL Ds Rs) = TL.joinL [32] (w :: planW Ds Rs) := (join_cons Pl.ne).symm
  rw [e]
  refine bad_of (List.cons_ne_nil _ _) (by have := h.wl; rw [List.length_cons]; omega) (fun v hv => ?_) (bad_head fun z => hs (Option.some.inj z))
  rcases List.mem_cons.mp hv with hv | hv
  · rw [hv]; exact hw
  · exact h.w v hv
theorem Pl.draw2 (h : Pl Ds Rs) : BadT (.str (Sg (drawL ++ ([32] ++ planL Ds Rs)))) := by
  have e : drawL ++ ([32] ++ planL Ds Rs) = TL.joinL [32] (drawL :: planW Ds Rs) := (join_cons Pl.ne).symm
  rw [e]
  refine bad_of (List.cons_ne_nil _ _) (by have := h.wl; rw [List.length_cons]; omega) (fun v hv => ?_) ?_
  · rcases List.mem_cons.mp hv with hv | hv
    · exact h.wd (.inr (.inr (.inl hv)))
    · exact h.w v hv
  · have ew : drawL :: planW Ds Rs = drawL :: ((drawL :: Ds.map frL) ++ dryL :: Rs.map frL) := rfl
    rw [ew]
    refine bad_word (w := drawL) ?_ (by simp) sg_draw
    intro z
    rcases List.mem_cons.mp z with z | z
    · exact absurd z (by decide)
    · exact no_dry h.dq z
/-- two blanks for one -/
theorem inter_mem : ∀ {ws : List (List Nat)} {w : List Nat}, w ∈ inter ws → w = [] ∨ w ∈ ws
  | [], w, h => .inr h
  | [v], w, h => .inr h
  | v :: u :: ws, w, h => by
    rcases List.mem_cons.mp h with h | h
    · exact .inr (by rw [h]; exact List.mem_cons_self)
    · rcases List.mem_cons.mp h with h | h
      · exact .inl h
      · rcases inter_mem h with h | h
        · exact .inl h
        · exact .inr (List.mem_cons_of_mem _ h)
theorem inter_len : ∀ {ws : List (List Nat)}, (inter ws).length ≤ 2 * ws.length
  | [] => Nat.le_refl _
  | [v] => by show 1 ≤ 2; omega
  | v :: u :: ws => by
    have := inter_len (ws := u :: ws)
    show (inter (u :: ws)).length + 1 + 1 ≤ 2 * ((u :: ws).length + 1)
    omega
theorem Pl.blanks (h : Pl Ds Rs) : BadT (.str (Sg (TL.joinL [32, 32] (planW Ds Rs)))) := by
  rw [join_inter]
  have hw : ∀ v ∈ inter (planW Ds Rs), v.length ≤ 2000 ∧ ¬ 32 ∈ v := fun v hv => by
    rcases inter_mem hv with z | z
    · rw [z]; exact ⟨by decide, by decide⟩
    · exact h.w v z
  obtain ⟨w, ws, ew⟩ : ∃ w ws, planW Ds Rs = drawL :: w :: ws := by
    unfold planW
    cases Ds with
    | nil => exact ⟨_, _, rfl⟩
    | cons q Ds => exact ⟨_, _, rfl⟩
  have e2 : inter (planW Ds Rs) = drawL :: [] :: inter (w :: ws) := by rw [ew]; rfl
  refine bad_of (by rw [e2]; exact List.cons_ne_nil _ _) (by have := h.wl; have := inter_len (ws := planW Ds Rs); omega) hw ?_
  rw [e2]
  by_cases z : dryL ∈ inter (w :: ws)
  · obtain ⟨A, B, hA, e⟩ := dry_first z
    rw [e]
    show plW (drawL :: (([] :: A) ++ dryL :: B)) = none
    refine bad_word (w := []) ?_ (by simp) (by decide +kernel)
    intro z
    rcases List.mem_cons.mp z with z | z
    · cases z
    · exact hA z
  · refine bad_nodry ?_
    intro q
    rcases List.mem_cons.mp q with q | q
    · exact absurd q (by decide)
    · rcases List.mem_cons.mp q with q | q
      · cases q
      · exact z q
/-- a sign more at the end -/
theorem Pl.sign (h : Pl Ds Rs) {c : Nat} (hc : isDig c = false) (h47 : c ≠ 47) (h32 : c ≠ 32) : BadT (.str (Sg (planL Ds Rs ++ [c]))) := by
  rcases List.eq_nil_or_concat Rs with e | ⟨Ri, q, e⟩
  · subst e
    have e : planL Ds [] ++ [c] = TL.joinL [32] ((drawL :: Ds.map frL) ++ [dryL ++ [c]]) := by
      unfold planL planW
      rw [← join_app]
      rfl
    rw [e]
    refine bad_of (by simp) (by have := h.dl; simp only [List.length_append, List.length_cons, List.length_map, List.length_nil]; omega) (fun v hv => ?_) (bad_nodry ?_)
    · rcases List.mem_append.mp hv with hv | hv
      · rcases List.mem_cons.mp hv with hv | hv
        · exact h.wd (.inr (.inr (.inl hv)))
        · exact h.wd (.inl hv)
      · rw [List.mem_singleton.mp hv]
        exact ⟨by rw [List.length_append, List.length_singleton]; decide, by
          intro z
          rcases List.mem_append.mp z with z | z
          · exact absurd z (by decide)
          · exact h32 (List.mem_singleton.mp z).symm⟩
    · intro z
      rcases List.mem_append.mp z with z | z
      · rcases List.mem_cons.mp z with z | z
        · exact absurd z (by decide)
        · exact no_dry h.dq z
      · have := congrArg List.length (List.mem_singleton.mp z)
        exact absurd this (by rw [List.length_append, List.length_singleton]; decide)
  · have e' : Rs = Ri ++ [q] := by rw [e]; simp
    subst e'
    have hq := h.rq q (by simp)
    have e : planL Ds (Ri ++ [q]) ++ [c] = TL.joinL [32] ((drawL :: (Ds.map frL ++ dryL :: Ri.map frL)) ++ [frL q ++ [c]]) := by
      unfold planL planW
      rw [← join_app]
      simp
    rw [e]
    have hl := h.rl
    rw [List.length_append, List.length_singleton] at hl
    refine bad_of (by simp) (by have := h.dl; simp only [List.length_append, List.length_cons, List.length_map, List.length_nil]; omega) (fun v hv => ?_) ?_
    · rcases List.mem_append.mp hv with hv | hv
      · refine h.w v ?_
        unfold planW
        rcases List.mem_cons.mp hv with hv | hv
        · rw [hv]; exact List.mem_cons_self
        · refine List.mem_cons_of_mem _ ?_
          rcases List.mem_append.mp hv with hv | hv
          · exact List.mem_append_left _ hv
          · rcases List.mem_cons.mp hv with hv | hv
            · rw [hv]; exact List.mem_append_right _ List.mem_cons_self
            · exact List.mem_append_right _ (List.mem_cons_of_mem _ (by rw [List.map_append]; exact List.mem_append_left _ hv))
      · rw [List.mem_singleton.mp hv]
        have := frL_len hq
        refine ⟨by rw [List.length_append, List.length_singleton]; omega, ?_⟩
        intro z
        rcases List.mem_append.mp z with z | z
        · exact fr_free hq (by omega) z
        · exact h32 (List.mem_singleton.mp z).symm
    · have ew : (drawL :: (Ds.map frL ++ dryL :: Ri.map frL)) ++ [frL q ++ [c]] = drawL :: (Ds.map frL ++ dryL :: (Ri.map frL ++ [frL q ++ [c]])) := by simp
      rw [ew]
      exact bad_word (no_dry h.dq) (by simp) (sg_junk hq hc h47)
theorem mem_join {c : Nat} : ∀ {ws : List (List Nat)}, c ∈ TL.joinL [32] ws → c = 32 ∨ ∃ w ∈ ws, c ∈ w
  | [], h => by cases h
  | [w], h => .inr ⟨w, List.mem_cons_self, h⟩
  | w :: v :: ws, h => by
    have h' : c ∈ w ++ ([32] ++ TL.joinL [32] (v :: ws)) := h
    rcases List.mem_append.mp h' with h | h
    · exact .inr ⟨w, List.mem_cons_self, h⟩
    · rcases List.mem_append.mp h with h | h
      · exact .inl (List.mem_singleton.mp h)
      · rcases mem_join h with h | ⟨u, hu, hc⟩
        · exact .inl h
        · exact .inr ⟨u, List.mem_cons_of_mem _ hu, hc⟩
theorem Pl.rest (Ds Rs : List Fr) : planL Ds Rs = drawL ++ ([32] ++ TL.joinL [32] (Ds.map frL ++ dryL :: Rs.map frL)) := join_cons (by simp)
theorem fr_no {qs : List Fr} {c : Nat} (h : ∀ q ∈ qs, QOk q) (hc : c < 45 ∨ 57 < c) : ∀ w ∈ qs.map frL, ¬ c ∈ w := fun w hw => by
  obtain ⟨q, hq, rfl⟩ := List.mem_map.mp hw
  exact fr_free (h q hq) hc
theorem Pl.bigDraw (h : Pl Ds Rs) : BadT (.str (Sg (PySem.StrLaws.replL drawL [68, 114, 97, 119] (planL Ds Rs)))) := by
  rw [Pl.rest]
  have no : ¬ 119 ∈ [32] ++ TL.joinL [32] (Ds.map frL ++ dryL :: Rs.map frL) := by
    intro z
    rcases List.mem_append.mp z with z | z
    · exact absurd z (by decide)
    · rcases mem_join z with z | ⟨w, hw, z⟩
      · exact absurd z (by decide)
      · rcases List.mem_append.mp hw with hw | hw
        · exact fr_no h.dq (by omega) w hw z
        · rcases List.mem_cons.mp hw with hw | hw
          · rw [hw] at z
            exact absurd z (by decide)
          · exact fr_no h.rq (by omega) w hw z
  rw [repl_draw no, ← join_cons (by simp)]
  refine bad_of (List.cons_ne_nil _ _) (by have := h.dl; have := h.rl; simp only [List.length_cons, List.length_append, List.length_map]; omega) (fun v hv => ?_) (bad_head fun z => absurd (Option.some.inj z) (by decide))
  rcases List.mem_cons.mp hv with hv | hv
  · rw [hv]; exact ⟨by decide, by decide⟩
  · exact h.w v (List.mem_cons_of_mem _ hv)
theorem Pl.drop5 (h : Pl Ds Rs) : BadT (.str (Sg ((planL Ds Rs).drop 5))) := by
  rw [Pl.rest]
  have e : (drawL ++ ([32] ++ TL.joinL [32] (Ds.map frL ++ dryL :: Rs.map frL))).drop 5 = TL.joinL [32] (Ds.map frL ++ dryL :: Rs.map frL) := rfl
  rw [e]
  refine bad_of (by simp) (by have := h.dl; have := h.rl; simp only [List.length_cons, List.length_append, List.length_map]; omega) (fun v hv => h.w v (List.mem_cons_of_mem _ hv)) (bad_head fun z => ?_)
  cases Ds with
  | nil => exact h.d0 rfl
  | cons q Ds =>
    have e : frL q = drawL := Option.some.inj z
    have := sg_word (h.dq q List.mem_cons_self)
    rw [e, sg_draw] at this
    cases this
/-- the text about its word dry -/
theorem Pl.about (Ds Rs : List Fr) : ∃ post, planL Ds Rs = (TL.joinL [32] (drawL :: Ds.map frL) ++ [32]) ++ (dryL ++ post) ∧ ((Rs = [] ∧ post = []) ∨ post = [32] ++ TL.joinL [32] (Rs.map frL)) ∧ ∀ z : List Nat, (TL.joinL [32] (drawL :: Ds.map frL) ++ [32]) ++ (z ++ post) = TL.joinL [32] (drawL :: (Ds.map frL ++ z :: Rs.map frL)) := by
  have two : ∀ (A B : List (List Nat)), A ≠ [] → B ≠ [] → TL.joinL [32] (A ++ B) = TL.joinL [32] A ++ ([32] ++ TL.joinL [32] B) := by
    intro A
    induction A with
    | nil => intro B h; exact absurd rfl h
    | cons w A ih =>
      intro B _ hB
      cases A with
      | nil => exact join_cons hB
      | cons v A =>
        show TL.joinL [32] (w :: ((v :: A) ++ B)) = TL.joinL [32] (w :: (v :: A)) ++ _
        rw [join_cons (w := w) (ws := (v :: A) ++ B) (List.cons_ne_nil _ _), ih B (List.cons_ne_nil _ _) hB, join_cons (w := w) (ws := v :: A) (List.cons_ne_nil _ _), List.append_assoc, List.append_assoc]
  cases Rs with
  | nil =>
    refine ⟨[], ?_, .inl ⟨rfl, rfl⟩, fun z => ?_⟩
    · show TL.joinL [32] ((drawL :: Ds.map frL) ++ [dryL]) = _
      rw [two _ _ (by simp) (by simp)]
      simp [TL.joinL]
    · show _ = TL.joinL [32] ((drawL :: Ds.map frL) ++ [z])
      rw [two _ _ (by simp) (by simp)]
      simp [TL.joinL]
  | cons q Rs =>
    refine ⟨[32] ++ TL.joinL [32] ((q :: Rs).map frL), ?_, .inr rfl, fun z => ?_⟩
    · show TL.joinL [32] ((drawL :: Ds.map frL) ++ (dryL :: (q :: Rs).map frL)) = _
      rw [two _ _ (by simp) (by simp), join_cons (w := dryL) (by simp)]
      simp
    · show _ = TL.joinL [32] ((drawL :: Ds.map frL) ++ (z :: (q :: Rs).map frL))
      rw [two _ _ (by simp) (by simp), join_cons (w := z) (by simp)]
      simp
theorem Pl.redry (h : Pl Ds Rs) (z : List Nat) : PySem.StrLaws.replL dryL z (planL Ds Rs) = TL.joinL [32] (drawL :: (Ds.map frL ++ z :: Rs.map frL)) := by
  obtain ⟨post, e, hp, hz⟩ := Pl.about Ds Rs
  rw [e]
  have n1 : ¬ 121 ∈ TL.joinL [32] (drawL :: Ds.map frL) ++ [32] := by
    intro z
    rcases List.mem_append.mp z with z | z
    · rcases mem_join z with z | ⟨w, hw, z⟩
      · exact absurd z (by decide)
      · rcases List.mem_cons.mp hw with hw | hw
        · rw [hw] at z
          exact absurd z (by decide)
        · exact fr_no h.dq (by omega) w hw z
    · exact absurd z (by decide)
  have n2 : ¬ 121 ∈ post := by
    rcases hp with ⟨_, e⟩ | e
    · rw [e]; intro z; cases z
    · rw [e]
      intro z
      rcases List.mem_append.mp z with z | z
      · exact absurd z (by decide)
      · rcases mem_join z with z | ⟨w, hw, z⟩
        · exact absurd z (by decide)
        · exact fr_no h.rq (by omega) w hw z
  rw [repl_dry n2 n1]
  exact hz z
theorem Pl.dried (h : Pl Ds Rs) : BadT (.str (Sg (PySem.StrLaws.replL dryL [100, 114, 105, 101, 100] (planL Ds Rs)))) := by
  rw [h.redry]
  refine bad_of (List.cons_ne_nil _ _) (by have := h.dl; have := h.rl; simp only [List.length_cons, List.length_append, List.length_map]; omega) (fun v hv => ?_) (bad_nodry fun z => ?_)
  · rcases List.mem_cons.mp hv with hv | hv
    · exact h.wd (.inr (.inr (.inl hv)))
    · rcases List.mem_append.mp hv with hv | hv
      · exact h.wd (.inl hv)
      · rcases List.mem_cons.mp hv with hv | hv
        · rw [hv]; exact ⟨by decide, by decide⟩
        · exact h.wd (.inr (.inl hv))
  · rcases List.mem_cons.mp z with z | z
    · exact absurd z (by decide)
    · rcases List.mem_append.mp z with z | z
      · exact no_dry h.dq z
      · rcases List.mem_cons.mp z with z | z
        · exact absurd z (by decide)
        · exact no_dry h.rq z
theorem Pl.dry2 (h : Pl Ds Rs) : BadT (.str (Sg (PySem.StrLaws.replL dryL (dryL ++ ([32] ++ dryL)) (planL Ds Rs)))) := by
  rw [h.redry]
  have e : TL.joinL [32] (drawL :: (Ds.map frL ++ (dryL ++ ([32] ++ dryL)) :: Rs.map frL)) = TL.joinL [32] (drawL :: (Ds.map frL ++ dryL :: dryL :: Rs.map frL)) := by
    have gl : ∀ (A B : List (List Nat)), TL.joinL [32] (A ++ (dryL ++ ([32] ++ dryL)) :: B) = TL.joinL [32] (A ++ dryL :: dryL :: B) := by
      intro A
      induction A with
      | nil =>
        intro B
        cases B with
        | nil => rfl
        | cons b B =>
          show (dryL ++ ([32] ++ dryL)) ++ ([32] ++ TL.joinL [32] (b :: B)) = dryL ++ ([32] ++ (dryL ++ ([32] ++ TL.joinL [32] (b :: B))))
          simp
      | cons a A ih =>
        intro B
        show TL.joinL [32] (a :: (A ++ (dryL ++ ([32] ++ dryL)) :: B)) = TL.joinL [32] (a :: (A ++ dryL :: dryL :: B))
        rw [join_cons (by simp), join_cons (by simp), ih]
    exact gl (drawL :: Ds.map frL) (Rs.map frL)
  rw [e]
  refine bad_of (List.cons_ne_nil _ _) (by have := h.dl; have := h.rl; simp only [List.length_cons, List.length_append, List.length_map]; omega) (fun v hv => ?_) (bad_word (w := dryL) (no_dry h.dq) (by simp) sg_dry)
  rcases List.mem_cons.mp hv with hv | hv
  · exact h.wd (.inr (.inr (.inl hv)))
  · rcases List.mem_append.mp hv with hv | hv
    · exact h.wd (.inl hv)
    · rcases List.mem_cons.mp hv with hv | hv
      · exact h.wd (.inr (.inr (.inr hv)))
      · rcases List.mem_cons.mp hv with hv | hv
        · exact h.wd (.inr (.inr (.inr hv)))
        · exact h.wd (.inr (.inl hv))
/-- a word of the draws in another's place -/
theorem Pl.put (h : Pl Ds Rs) {j : Nat} {w : List Nat} (hj : j < Ds.length) (hw : w.length ≤ 2000 ∧ ¬ 32 ∈ w) (hs : sgW w = none) (hd : w ≠ dryL) :
    BadT (.str (Sg (TL.joinL [32] ((planW Ds Rs).take (j + 1) ++ [w] ++ (planW Ds Rs).drop (j + 1 + 1))))) := by
  have e1 : (planW Ds Rs).take (j + 1) = drawL :: (Ds.map frL).take j := by
    show (drawL :: (Ds.map frL ++ dryL :: Rs.map frL)).take (j + 1) = _
    rw [List.take_succ_cons, List.take_append_of_le_length (by rw [List.length_map]; omega)]
  have e2 : (planW Ds Rs).drop (j + 1 + 1) = (Ds.map frL).drop (j + 1) ++ dryL :: Rs.map frL := by
    show (drawL :: (Ds.map frL ++ dryL :: Rs.map frL)).drop (j + 1 + 1) = _
    rw [List.drop_succ_cons, List.drop_append_of_le_length (by rw [List.length_map]; omega)]
  have e3 : drawL :: (Ds.map frL).take j ++ [w] ++ ((Ds.map frL).drop (j + 1) ++ dryL :: Rs.map frL) = drawL :: (((Ds.map frL).take j ++ [w] ++ (Ds.map frL).drop (j + 1)) ++ dryL :: Rs.map frL) := by simp
  rw [e1, e2, e3]
  have mD : ∀ v, v ∈ (Ds.map frL).take j ++ [w] ++ (Ds.map frL).drop (j + 1) → v ∈ Ds.map frL ∨ v = w := fun v hv => by
    rcases List.mem_append.mp hv with hv | hv
    · rcases List.mem_append.mp hv with hv | hv
      · exact .inl (List.mem_of_mem_take hv)
      · exact .inr (List.mem_singleton.mp hv)
    · exact .inl (List.mem_of_mem_drop hv)
  refine bad_of (List.cons_ne_nil _ _) (by have := h.dl; have := h.rl; simp only [List.length_cons, List.length_append, List.length_map, List.length_take, List.length_drop, List.length_nil]; omega) (fun v hv => ?_) (bad_word (w := w) ?_ (by simp) hs)
  · rcases List.mem_cons.mp hv with hv | hv
    · exact h.wd (.inr (.inr (.inl hv)))
    · rcases List.mem_append.mp hv with hv | hv
      · rcases mD v hv with z | z
        · exact h.wd (.inl z)
        · rw [z]; exact hw
      · rcases List.mem_cons.mp hv with hv | hv
        · exact h.wd (.inr (.inr (.inr hv)))
        · exact h.wd (.inr (.inl hv))
  · intro z
    rcases mD _ z with z | z
    · exact no_dry h.dq z
    · exact hd z.symm
end

end K69

set_option Elab.async false
set_option linter.all false
set_option maxRecDepth 100000
set_option maxHeartbeats 0
namespace K69
open PySem PySem.Spec L2 L3
open PyProof.Rows hiding St
theorem bad_c (s : Str) (h : s.cps.toList.length ≤ 100000 ∧ (TL.spl [32] 0 [] s.cps.toList).length ≤ 1000 ∧ plW (TL.spl [32] 0 [] s.cps.toList) = none) : BadT (.str s) := ⟨s.cps.toList, congrArg D.str (SX.S_tl s).symm, h⟩
theorem Pl.len {Ds Rs : List Fr} (h : Pl Ds Rs) : (planL Ds Rs).length ≤ 30000 := by
  have h1 := join_len fun w hw => (h.w w hw).1
  have h2 : (planW Ds Rs).length * (2000 + 1) ≤ 14 * (2000 + 1) := Nat.mul_le_mul_right _ h.wl
  have h3 : (planL Ds Rs).length = (TL.joinL [32] (planW Ds Rs)).length := rfl
  omega
theorem addS {a b : List Nat} {t : Str} {G : GH} {R : K3} (e : t = Sg b) (hl : a.length + b.length ≤ 1000000) (q : R (.str (Sg (a ++ b))) G) : fAdd (.str (Sg a)) (.str t) G R := by
  subst e
  refine ⟨by rw [SX.S_len, SX.S_len]; exact size_small hl, ?_⟩
  rw [SX.S_cat]
  exact q
theorem addS' {a b : List Nat} {t : Str} {G : GH} {R : K3} (e : t = Sg b) (hl : b.length + a.length ≤ 1000000) (q : R (.str (Sg (b ++ a))) G) : fAdd (.str t) (.str (Sg a)) G R := by
  subst e
  refine ⟨by rw [SX.S_len, SX.S_len]; exact size_small hl, ?_⟩
  rw [SX.S_cat]
  exact q
def BadW (d : D) : Prop := ∃ w : List Nat, d = .str (Sg w) ∧ (w.length ≤ 2000 ∧ ¬ 32 ∈ w) ∧ sgW w = none ∧ w ≠ dryL
theorem badw_c (s : Str) (h : (s.cps.toList.length ≤ 2000 ∧ ¬ 32 ∈ s.cps.toList) ∧ sgW s.cps.toList = none ∧ s.cps.toList ≠ dryL) : BadW (.str s) := ⟨s.cps.toList, congrArg D.str (SX.S_tl s).symm, h⟩
section
variable {P : Program} {w : World} {K : PySem.W.Frag} {mg : Str → Option Value} {base : Heap}
def S_wt : SP3 := fun ds G R _ => match ds with
  | [x, y, z] => ∃ (p : Addr) (Ds Rs : List Fr), x = .ref p ∧ y = .tup [.tup (Ds.map frI), .tup (Rs.map frI)] ∧ z = .str (Sg (planL Ds Rs)) ∧ Ds ≠ [] ∧ Ds.length ≤ 6 ∧ Rs.length ≤ 6 ∧ (∀ q ∈ Ds, QOk q) ∧ (∀ q ∈ Rs, QOk q) ∧ HandOk G p ∧
      ∀ ds G', (∀ d ∈ ds, BadT d) → ds.length ≤ 1000 → HandOk G' p → R (.lst ds) G'
  | _ => False
theorem ok_wt (T : Tx K mg) : Good P w K mg base "_law_wrong_texts" ["hand", "pair", "text"] 3 S_wt := by
  have g__law_draw := ok_draw (P := P) (w := w) (base := base) T
  refine goodZ_of (d__law_wrong_texts T) sc__law_wrong_texts (by decide +kernel) (by decide) fun f cd A outer s H E hp tk hgd hr => ⟨_, (z_cons (z_st (s_set 3 sc__law_wrong_texts.nd rfl (.inl rfl) rfl (c_bm PySem.F.plainAttrs_str PySem.F.slot_str_split PySem.F.type_str_split mt_split m_split (c_var 2) (a_cons c_str a_nil))))
      (z_cons (z_set 4 sc__law_wrong_texts.nd rfl (.inl rfl) rfl (z_lstO (za_cons (z_e c_str) (za_cons (z_e c_str) (za_cons (z_e c_str) (za_cons (z_e c_str) (za_cons (z_e (c_op op_add3 lift_add (c_var 2) c_str)) (za_cons (z_e (c_op op_add3 lift_add c_str (c_var 2))) (za_cons (z_repl (c_var 2)) (za_cons (z_e (c_op op_add3 lift_add (c_var 2) c_str)) (za_cons (z_e (c_op op_add3 lift_add (c_var 2) c_str)) za_nil)))))))))))
      (z_cons (z_set 4 sc__law_wrong_texts.nd rfl (.inl rfl) rfl (z_op op_cat lift_addO (z_e (c_var 4)) (z_lst (za_cons (z_repl (c_var 2)) (za_cons (z_repl (c_var 2)) (za_cons (z_e (c_op op_add3 lift_add c_str (c_var 2))) (za_cons (z_e (c_slice (c_var 2) (p_some c_int) p_none)) za_nil)))))))
      (z_cons (z_set 4 sc__law_wrong_texts.nd rfl (.inl rfl) rfl (z_op op_cat lift_addO (z_e (c_var 4)) (z_lst (za_cons (z_e (c_op op_add3 lift_add (c_var 2) c_str)) (za_cons (z_repl (c_var 2)) (za_cons (z_e (c_op op_add3 lift_add c_str (c_var 2))) (za_cons (z_e (c_op op_add3 lift_add (c_var 2) c_str)) za_nil)))))))
      (z_of (s_cons (s_set 5 sc__law_wrong_texts.nd rfl (.inl rfl) rfl (c_op op_add3 lift_add c_int (c_call g__law_draw (hr.mono (by omega)) hgd tk (a_cons (c_var 0) (a_cons (c_callB call_len lift_len (n_len T) (a_cons (c_ix (c_var 1) c_int) a_nil)) a_nil)))))
      (s_cons (s_set 6 sc__law_wrong_texts.nd rfl (.inl rfl) rfl (c_lst (a_cons c_str (a_cons c_str (a_cons c_str (a_cons c_str (a_cons c_str (a_cons c_str (a_cons c_str (a_cons c_str (a_cons c_str (a_cons c_str (a_cons c_str (a_cons c_str (a_cons c_str a_nil)))))))))))))))
      (s_cons (s_for hp rfl (i_lst (c_op op_add3 lift_add (c_lst (a_cons (c_op op_add3 lift_add c_str (c_ix (c_var 3) (c_var 5))) a_nil)) (c_var 6))) (g_name 7 sc__law_wrong_texts.nd rfl (.inl rfl)) (s_one (s_expr (c_bm PySem.F.plainAttrs_list PySem.F.slot_list_append PySem.F.type_list_append mt_append m_append (c_var 4) (a_cons (c_bm PySem.F.plainAttrs_str PySem.F.slot_str_join PySem.F.type_str_join mt_join m_join c_str (a_cons (c_op op_add3 lift_add (c_op op_add3 lift_add (c_slice (c_var 3) p_none (p_some (c_var 5))) (c_lst (a_cons (c_var 7) a_nil))) (c_slice (c_var 3) (p_some (c_op op_add3 lift_add (c_var 5) c_int)) p_none)) a_nil)) a_nil)))))
      (s_cons (s_set 8 sc__law_wrong_texts.nd rfl (.inl rfl) rfl (c_op op_add3 lift_add c_str (c_op op_mulS lift_mulS c_str c_int)))
      (s_cons (s_for hp rfl (i_lst (c_lst (a_cons (c_var 8) (a_cons (c_op op_add3 lift_add c_str (c_var 8)) (a_cons (c_op op_add3 lift_add c_str (c_var 8)) a_nil))))) (g_name 7 sc__law_wrong_texts.nd rfl (.inl rfl)) (s_cons (s_expr (c_bm PySem.F.plainAttrs_list PySem.F.slot_list_append PySem.F.type_list_append mt_append m_append (c_var 4) (a_cons (c_bm PySem.F.plainAttrs_str PySem.F.slot_str_join PySem.F.type_str_join mt_join m_join c_str (a_cons (c_op op_add3 lift_add (c_op op_add3 lift_add (c_slice (c_var 3) p_none (p_some (c_var 5))) (c_lst (a_cons (c_var 7) a_nil))) (c_slice (c_var 3) (p_some (c_op op_add3 lift_add (c_var 5) c_int)) p_none)) a_nil)) a_nil)))
      (s_one (s_expr (c_bm PySem.F.plainAttrs_list PySem.F.slot_list_append PySem.F.type_list_append mt_append m_append (c_var 4) (a_cons (c_op op_add3 lift_add (c_op op_add3 lift_add (c_var 2) c_str) (c_var 7)) a_nil))))))
      (s_one (s_ret (c_varZ 4))))))))))))), fun ds G R Ex hlen hS => ?_⟩
  clear hp tk hgd hr hlen
  match ds, hS with
  | [x, y, z], ⟨p, Ds, Rs, e1, e2, e3, hD0, hDl, hRl, hD, hRq, hH, hR⟩ =>
    subst e1 e2 e3
    have hp : Pl Ds Rs := ⟨hD0, hDl, hRl, hD, hRq⟩
    have len := hp.len
    rw [show start3 ["hand", "pair", "text", "words", "found", "at", "wrong", "word", "great"] [.ref p, .tup [.tup (Ds.map frI), .tup (Rs.map frI)], .str (Sg (planL Ds Rs))] = [some (.ref p), some (.tup [.tup (Ds.map frI), .tup (Rs.map frI)]), some (.str (Sg (planL Ds Rs))), none, none, none, none, none, none] from rfl]
    refine seq_cut (fun env' G' => env' = [some (.ref p), some (.tup [.tup (Ds.map frI), .tup (Rs.map frI)]), some (.str (Sg (planL Ds Rs))), some (.lst ((planW Ds Rs).map wdD)), none, none, none, none, none] ∧ G' = G) ?_ ?_
    · rintro env' G' ⟨rfl, e0⟩
      subst e0
      refine seq_cut (fun env' G1 => ∃ (q : Addr) (ds : List D), env' = [some (.ref p), some (.tup [.tup (Ds.map frI), .tup (Rs.map frI)]), some (.str (Sg (planL Ds Rs))), some (.lst ((planW Ds Rs).map wdD)), some (.ref q), none, none, none, none] ∧ HandOk G1 p ∧ q ≠ p ∧ G1 q = some (.lst ds) ∧ (∀ d ∈ ds, BadT d) ∧ ds.length ≤ 20) ?_ ?_
      · rintro env' G1 ⟨q, ds, rfl, hH1, hqp, hq, hds, hdl⟩
        refine seq_cut (fun env' G2 => ∃ (q : Addr) (ds : List D), env' = [some (.ref p), some (.tup [.tup (Ds.map frI), .tup (Rs.map frI)]), some (.str (Sg (planL Ds Rs))), some (.lst ((planW Ds Rs).map wdD)), some (.ref q), none, none, none, none] ∧ HandOk G2 p ∧ q ≠ p ∧ G2 q = some (.lst ds) ∧ (∀ d ∈ ds, BadT d) ∧ ds.length ≤ 40) ?_ ?_
        · rintro env' G2 ⟨q, ds, rfl, hH2, hqp, hq, hds, hdl⟩
          refine seq_cut (fun env' G3 => ∃ (q : Addr) (ds : List D), env' = [some (.ref p), some (.tup [.tup (Ds.map frI), .tup (Rs.map frI)]), some (.str (Sg (planL Ds Rs))), some (.lst ((planW Ds Rs).map wdD)), some (.ref q), none, none, none, none] ∧ HandOk G3 p ∧ q ≠ p ∧ G3 q = some (.lst ds) ∧ (∀ d ∈ ds, BadT d) ∧ ds.length ≤ 60) ?_ ?_
          · rintro env' G3 ⟨q, ds, rfl, hH3, hqp, hq, hds, hdl⟩
            refine seq_cut (fun env' G4 => ∃ j : Nat, j < Ds.length ∧ env' = [some (.ref p), some (.tup [.tup (Ds.map frI), .tup (Rs.map frI)]), some (.str (Sg (planL Ds Rs))), some (.lst ((planW Ds Rs).map wdD)), some (.ref q), some (.int ((j + 1 : Nat) : Int)), none, none, none] ∧ HandOk G4 p ∧ G4 q = some (.lst ds)) ?_ ?_
            · rintro env' G4 ⟨j, hj, rfl, hH4, hq4⟩
              have wl := hp.wl
              have wj : (planW Ds Rs)[j + 1]? = some (frL (Ds[j]'hj)) := by
                show (drawL :: (Ds.map frL ++ dryL :: Rs.map frL))[j + 1]? = _
                rw [List.getElem?_cons_succ, List.getElem?_append_left (by rw [List.length_map]; exact hj), List.getElem?_map, List.getElem?_eq_getElem hj]
                rfl
              have hqj := hD _ (List.getElem_mem hj)
              have joinb : ∀ (d : D) (G5 : GH) (R' : K3) (Ex' : X3), BadW d → (∀ y, BadT y → R' y G5) → cS (.str " ") G5 ∧ fSl (.lst ((planW Ds Rs).map wdD)) none (some ((j + 1 : Nat) : Int)) G5 fun x G1 => 1 ≤ sizeLine ∧ fAdd x (.lst [d]) G1 fun x G1 => fSl (.lst ((planW Ds Rs).map wdD)) (some (((j + 1 : Nat) : Int) + 1)) none G1 fun y G2 => fAdd x y G2 fun x G1 => fJoin (.str " ") [x] G1 R' := by
                rintro _ G5 R' Ex' ⟨w, rfl, hw, hs, hd⟩ hR'
                refine ⟨⟨_, rfl⟩, _, rfl, sizeLine_eq ▸ (by decide), ?_⟩
                rw [cut_upto, show (((j + 1 : Nat) : Int) + 1) = ((j + 1 + 1 : Nat) : Int) by omega]
                refine add_lst (size_small (by rw [List.length_take, List.length_map, List.length_singleton]; omega)) ⟨_, rfl, ?_⟩
                rw [cut_from]
                refine add_lst (size_small (by rw [List.length_append, List.length_take, List.length_drop, List.length_map, List.length_singleton]; omega)) ?_
                have e : ((planW Ds Rs).map wdD).take (j + 1) ++ [D.str (Sg w)] ++ ((planW Ds Rs).map wdD).drop (j + 1 + 1) = ((planW Ds Rs).take (j + 1) ++ [w] ++ (planW Ds Rs).drop (j + 1 + 1)).map wdD := by
                  rw [List.map_append, List.map_append, List.map_take, List.map_drop]
                  rfl
                rw [e]
                refine join_ok (by rw [List.length_append, List.length_append, List.length_take, List.length_drop, List.length_singleton]; omega) (fun v hv => ?_) (hR' _ (hp.put hj hw hs hd))
                rcases List.mem_append.mp hv with hv | hv
                · rcases List.mem_append.mp hv with hv | hv
                  · have := (hp.w v (List.mem_of_mem_take hv)).1
                    omega
                  · rw [List.mem_singleton.mp hv]
                    have := hw.1
                    omega
                · have := (hp.w v (List.mem_of_mem_drop hv)).1
                  omega
              refine seq_cut (fun env' G5 => ∃ ws : List D, (∀ d ∈ ws, BadW d) ∧ ws.length ≤ 20 ∧ env' = [some (.ref p), some (.tup [.tup (Ds.map frI), .tup (Rs.map frI)]), some (.str (Sg (planL Ds Rs))), some (.lst ((planW Ds Rs).map wdD)), some (.ref q), some (.int ((j + 1 : Nat) : Int)), some (.lst ws), none, none] ∧ G5 = G4) ?_ ?_
              · rintro env' G5 ⟨ws, hws, hwl, rfl, e5⟩
                subst e5
                refine seq_cut (fun env' G6 => ∃ (u : Option D) (ds : List D), env' = [some (.ref p), some (.tup [.tup (Ds.map frI), .tup (Rs.map frI)]), some (.str (Sg (planL Ds Rs))), some (.lst ((planW Ds Rs).map wdD)), some (.ref q), some (.int ((j + 1 : Nat) : Int)), some (.lst ws), u, none] ∧ HandOk G6 p ∧ G6 q = some (.lst ds) ∧ (∀ d ∈ ds, BadT d) ∧ ds.length ≤ 100) ?_ ?_
                · rintro env' G6 ⟨u, ds, rfl, hH6, hq6, hds, hdl⟩
                  refine seq_cut (fun env' G7 => env' = [some (.ref p), some (.tup [.tup (Ds.map frI), .tup (Rs.map frI)]), some (.str (Sg (planL Ds Rs))), some (.lst ((planW Ds Rs).map wdD)), some (.ref q), some (.int ((j + 1 : Nat) : Int)), some (.lst ws), u, some (.str (Sg (49 :: List.replicate 600 48)))] ∧ G7 = G6) ?_ ?_
                  · rintro env' G7 ⟨rfl, e7⟩
                    subst e7
                    refine seq_cut (fun env' G8 => ∃ (u : Option D) (ds : List D), env' = [some (.ref p), some (.tup [.tup (Ds.map frI), .tup (Rs.map frI)]), some (.str (Sg (planL Ds Rs))), some (.lst ((planW Ds Rs).map wdD)), some (.ref q), some (.int ((j + 1 : Nat) : Int)), some (.lst ws), u, some (.str (Sg (49 :: List.replicate 600 48)))] ∧ HandOk G8 p ∧ G8 q = some (.lst ds) ∧ (∀ d ∈ ds, BadT d) ∧ ds.length ≤ 200) ?_ ?_
                    · rintro env' G8 ⟨u, ds, rfl, hH8, hq8, hds, hdl⟩
                      simp only [wExpr, wRaise, gSb, wSeq, wNext, wRet, wRetN, wExpr, wIfS, wSet, wAsg, wPar, wAug, w1, w2, wA, aNil, aCons, wVar, wVarT, wC, tOfW, w3c, wAnd, wOr, wNot, tAnd3, tOr3, tNot3, wIf, wTup, wLst, wLstO, wCall, wSl, pNone, pSome, wipe3, List.map_cons, List.map_nil, fI2, fI2C, fI1, fAbs, addI, mulI, intI, eqS, neS, isN_, notN_, L3.isNon, gN, gsN, gsC, gT, asT, at3, List.set_cons_zero, List.set_cons_succ, Option.some.injEq, exists_eq_left', D.bl.injEq, D.int.injEq, D.tup.injEq, List.length_cons, List.length_nil, Nat.reduceAdd, true_and, if_true, if_false, Bool.false_eq_true, reduceIte, ite_true, ite_false, len_t0, len_t1, len_t2, len_t3, len_l0, len_l1, eqI, neI, Int.reduceBEq, Int.reduceLT, Int.reduceLE, Int.reduceNeg, decide_true, decide_false, Bool.not_true, Bool.not_false, ix0, ix1, ix2, and_true, and_self, wVarZ]
                      exact ⟨q, ds, rfl, hq8, hR _ _ hds (by omega) (hH8.del hqp)⟩
                    · intro N hN
                      simp only [wFor, iLst, wExpr, wRaise, gSb, wSeq, wNext, wRet, wRetN, wExpr, wIfS, wSet, wAsg, wPar, wAug, w1, w2, wA, aNil, aCons, wVar, wVarT, wC, tOfW, w3c, wAnd, wOr, wNot, tAnd3, tOr3, tNot3, wIf, wTup, wLst, wLstO, wCall, wSl, pNone, pSome, wipe3, List.map_cons, List.map_nil, fI2, fI2C, fI1, fAbs, addI, mulI, intI, eqS, neS, isN_, notN_, L3.isNon, gN, gsN, gsC, gT, asT, at3, List.set_cons_zero, List.set_cons_succ, Option.some.injEq, exists_eq_left', D.bl.injEq, D.int.injEq, D.tup.injEq, List.length_cons, List.length_nil, Nat.reduceAdd, true_and, if_true, if_false, Bool.false_eq_true, reduceIte, ite_true, ite_false, len_t0, len_t1, len_t2, len_t3, len_l0, len_l1, eqI, neI, Int.reduceBEq, Int.reduceLT, Int.reduceLE, Int.reduceNeg, decide_true, decide_false, Bool.not_true, Bool.not_false, ix0, ix1, ix2, and_true, and_self]
                      have lg : (49 :: List.replicate 600 48).length = 601 := by rw [List.length_cons, List.length_replicate]
                      refine addS' (b := [45]) (by decide +kernel) (by rw [lg]; decide) (addS' (b := [49, 47]) (by decide +kernel) (by rw [lg]; decide) ⟨sizeLine_eq ▸ (by decide), _, rfl, ?_⟩)
                      have hall : ∀ d ∈ [D.str (Sg (49 :: List.replicate 600 48)), D.str (Sg ([45] ++ (49 :: List.replicate 600 48))), D.str (Sg ([49, 47] ++ (49 :: List.replicate 600 48)))], BadW d := fun d hd => by
                        simp only [List.mem_cons, List.not_mem_nil, or_false] at hd
                        rcases hd with rfl | rfl | rfl
                        · exact ⟨_, rfl, ⟨by rw [lg]; decide, by decide +kernel⟩, by decide +kernel, by intro z; cases z⟩
                        · exact ⟨_, rfl, ⟨by rw [List.length_append, lg]; decide, by decide +kernel⟩, by decide +kernel, by intro z; cases z⟩
                        · exact ⟨_, rfl, ⟨by rw [List.length_append, lg]; decide, by decide +kernel⟩, by decide +kernel, by intro z; cases z⟩
                      refine lp_ix _ (fun i env' G8 => ∃ (u : Option D) (ds : List D), env' = [some (.ref p), some (.tup [.tup (Ds.map frI), .tup (Rs.map frI)]), some (.str (Sg (planL Ds Rs))), some (.lst ((planW Ds Rs).map wdD)), some (.ref q), some (.int ((j + 1 : Nat) : Int)), some (.lst ws), u, some (.str (Sg (49 :: List.replicate 600 48)))] ∧ HandOk G8 p ∧ G8 q = some (.lst ds) ∧ (∀ d ∈ ds, BadT d) ∧ ds.length ≤ 100 + 2 * i) (fun _ _ _ _ => trivial) ?_ ?_ _ _ ⟨u, ds, rfl, hH6, hq6, hds, hdl⟩
                      · rintro i d hd env' G8 N2 ⟨u, ds, rfl, hH8, hq8, hds, hdl⟩ hN2
                        have hil : i < 3 := (List.getElem?_eq_some_iff.mp hd).1
                        have hbd := hall d (List.mem_of_getElem? hd)
                        simp only [gN, List.set_cons_zero, List.set_cons_succ]
                        refine seq_cut (fun env' G9 => ∃ ds : List D, env' = [some (.ref p), some (.tup [.tup (Ds.map frI), .tup (Rs.map frI)]), some (.str (Sg (planL Ds Rs))), some (.lst ((planW Ds Rs).map wdD)), some (.ref q), some (.int ((j + 1 : Nat) : Int)), some (.lst ws), some d, some (.str (Sg (49 :: List.replicate 600 48)))] ∧ HandOk G9 p ∧ G9 q = some (.lst ds) ∧ (∀ d ∈ ds, BadT d) ∧ ds.length ≤ 100 + 2 * i + 1) ?_ ?_
                        · rintro env' G9 ⟨ds, rfl, hH9, hq9, hds, hdl⟩
                          obtain ⟨w, rfl, hw, hs, _⟩ := hbd
                          simp only [wM, wExpr, wRaise, gSb, wSeq, wNext, wRet, wRetN, wExpr, wIfS, wSet, wAsg, wPar, wAug, w1, w2, wA, aNil, aCons, wVar, wVarT, wC, tOfW, w3c, wAnd, wOr, wNot, tAnd3, tOr3, tNot3, wIf, wTup, wLst, wLstO, wCall, wSl, pNone, pSome, wipe3, List.map_cons, List.map_nil, fI2, fI2C, fI1, fAbs, addI, mulI, intI, eqS, neS, isN_, notN_, L3.isNon, gN, gsN, gsC, gT, asT, at3, List.set_cons_zero, List.set_cons_succ, Option.some.injEq, exists_eq_left', D.bl.injEq, D.int.injEq, D.tup.injEq, List.length_cons, List.length_nil, Nat.reduceAdd, true_and, if_true, if_false, Bool.false_eq_true, reduceIte, ite_true, ite_false, len_t0, len_t1, len_t2, len_t3, len_l0, len_l1, eqI, neI, Int.reduceBEq, Int.reduceLT, Int.reduceLE, Int.reduceNeg, decide_true, decide_false, Bool.not_true, Bool.not_false, ix0, ix1, ix2, and_true, and_self, L3.cL, asL_ref hq9, Option.isSome_some]
                          refine addS (b := [32]) (by decide +kernel) (by rw [List.length_singleton]; omega) ?_
                          have hw1 := hw.1
                          refine addS (b := w) rfl (by rw [List.length_append, List.length_singleton]; omega) ⟨ds, hq9, size_small (by omega), hN2 _ _ ⟨_, _, rfl, hH9.new hqp, gset_same, fun z hz => ?_, by rw [List.length_append, List.length_singleton]; omega⟩⟩
                          rcases List.mem_append.mp hz with hz | hz
                          · exact hds z hz
                          · rw [List.mem_singleton.mp hz, List.append_assoc]
                            exact hp.snoc hw hs
                        · intro N3 hN3
                          simp only [wM, wExpr, wRaise, gSb, wSeq, wNext, wRet, wRetN, wExpr, wIfS, wSet, wAsg, wPar, wAug, w1, w2, wA, aNil, aCons, wVar, wVarT, wC, tOfW, w3c, wAnd, wOr, wNot, tAnd3, tOr3, tNot3, wIf, wTup, wLst, wLstO, wCall, wSl, pNone, pSome, wipe3, List.map_cons, List.map_nil, fI2, fI2C, fI1, fAbs, addI, mulI, intI, eqS, neS, isN_, notN_, L3.isNon, gN, gsN, gsC, gT, asT, at3, List.set_cons_zero, List.set_cons_succ, Option.some.injEq, exists_eq_left', D.bl.injEq, D.int.injEq, D.tup.injEq, List.length_cons, List.length_nil, Nat.reduceAdd, true_and, if_true, if_false, Bool.false_eq_true, reduceIte, ite_true, ite_false, len_t0, len_t1, len_t2, len_t3, len_l0, len_l1, eqI, neI, Int.reduceBEq, Int.reduceLT, Int.reduceLE, Int.reduceNeg, decide_true, decide_false, Bool.not_true, Bool.not_false, ix0, ix1, ix2, and_true, and_self, L3.cL, asL_ref hq8, Option.isSome_some]
                          exact joinb d _ _ noX hbd fun y hy => ⟨ds, hq8, size_small (by omega), hN3 _ _ ⟨ds ++ [y], rfl, hH8.new hqp, gset_same, fun z hz => by
                            rcases List.mem_append.mp hz with hz | hz
                            · exact hds z hz
                            · rw [List.mem_singleton.mp hz]; exact hy, by rw [List.length_append, List.length_singleton]; omega⟩⟩
                      · rintro env' G8 ⟨u, ds, rfl, hH8, hq8, hds, hdl⟩
                        exact hN _ _ ⟨u, ds, rfl, hH8, hq8, hds, by simp only [List.length_cons, List.length_nil] at hdl; omega⟩
                  · intro N hN
                    simp only [wExpr, wRaise, gSb, wSeq, wNext, wRet, wRetN, wExpr, wIfS, wSet, wAsg, wPar, wAug, w1, w2, wA, aNil, aCons, wVar, wVarT, wC, tOfW, w3c, wAnd, wOr, wNot, tAnd3, tOr3, tNot3, wIf, wTup, wLst, wLstO, wCall, wSl, pNone, pSome, wipe3, List.map_cons, List.map_nil, fI2, fI2C, fI1, fAbs, addI, mulI, intI, eqS, neS, isN_, notN_, L3.isNon, gN, gsN, gsC, gT, asT, at3, List.set_cons_zero, List.set_cons_succ, Option.some.injEq, exists_eq_left', D.bl.injEq, D.int.injEq, D.tup.injEq, List.length_cons, List.length_nil, Nat.reduceAdd, true_and, if_true, if_false, Bool.false_eq_true, reduceIte, ite_true, ite_false, len_t0, len_t1, len_t2, len_t3, len_l0, len_l1, eqI, neI, Int.reduceBEq, Int.reduceLT, Int.reduceLE, Int.reduceNeg, decide_true, decide_false, Bool.not_true, Bool.not_false, ix0, ix1, ix2, and_true, and_self]
                    refine ⟨_, _, rfl, rfl, by decide, by decide, by decide +kernel, by decide +kernel, ?_⟩
                    have eg : (⟨(List.replicate (Int.toNat 600) (Str.ofString "0").cps).foldl (· ++ ·) #[]⟩ : Str) = Sg (List.replicate 600 48) := by decide +kernel
                    rw [eg]
                    refine addS' (b := [49]) (by decide +kernel) (by rw [List.length_replicate]; decide) ?_
                    exact hN _ _ ⟨rfl, rfl⟩
                · intro N hN
                  simp only [wFor, iLst, wExpr, wRaise, gSb, wSeq, wNext, wRet, wRetN, wExpr, wIfS, wSet, wAsg, wPar, wAug, w1, w2, wA, aNil, aCons, wVar, wVarT, wC, tOfW, w3c, wAnd, wOr, wNot, tAnd3, tOr3, tNot3, wIf, wTup, wLst, wLstO, wCall, wSl, pNone, pSome, wipe3, List.map_cons, List.map_nil, fI2, fI2C, fI1, fAbs, addI, mulI, intI, eqS, neS, isN_, notN_, L3.isNon, gN, gsN, gsC, gT, asT, at3, List.set_cons_zero, List.set_cons_succ, Option.some.injEq, exists_eq_left', D.bl.injEq, D.int.injEq, D.tup.injEq, List.length_cons, List.length_nil, Nat.reduceAdd, true_and, if_true, if_false, Bool.false_eq_true, reduceIte, ite_true, ite_false, len_t0, len_t1, len_t2, len_t3, len_l0, len_l1, eqI, neI, Int.reduceBEq, Int.reduceLT, Int.reduceLE, Int.reduceNeg, decide_true, decide_false, Bool.not_true, Bool.not_false, ix0, ix1, ix2, and_true, and_self]
                  have wjx : ((planW Ds Rs).map wdD)[j + 1]? = some (wdD (frL (Ds[j]'hj))) := by rw [List.getElem?_map, wj]; rfl
                  rw [ix_lst (atD_nat wjx)]
                  have lq := frL_len hqj
                  refine addS' (b := [48]) (by decide +kernel) (by rw [List.length_singleton]; omega) ⟨sizeLine_eq ▸ (by decide), add_lst (size_small (by rw [List.length_singleton]; omega)) ⟨_, rfl, ?_⟩⟩
                  have hall : ∀ d ∈ [D.str (Sg ([48] ++ frL (Ds[j]'hj)))] ++ ws, BadW d := fun d hd => by
                    rcases List.mem_append.mp hd with hd | hd
                    · rw [List.mem_singleton.mp hd]
                      refine ⟨_, rfl, ⟨by rw [List.length_append, List.length_singleton]; omega, ?_⟩, sg_zero hqj, by intro z; cases z⟩
                      intro z
                      rcases List.mem_append.mp z with z | z
                      · exact absurd z (by decide)
                      · exact fr_free hqj (by omega) z
                    · exact hws d hd
                  refine lp_ix _ (fun i env' G6 => ∃ (u : Option D) (ds : List D), env' = [some (.ref p), some (.tup [.tup (Ds.map frI), .tup (Rs.map frI)]), some (.str (Sg (planL Ds Rs))), some (.lst ((planW Ds Rs).map wdD)), some (.ref q), some (.int ((j + 1 : Nat) : Int)), some (.lst ws), u, none] ∧ HandOk G6 p ∧ G6 q = some (.lst ds) ∧ (∀ d ∈ ds, BadT d) ∧ ds.length ≤ 60 + i) (fun _ _ _ _ => trivial) ?_ ?_ _ _ ⟨none, ds, rfl, hH4, hq4, hds, hdl⟩
                  · rintro i d hd env' G6 N2 ⟨u, ds, rfl, hH6, hq6, hds, hdl⟩ hN2
                    have hil : i < 21 := by
                      have := (List.getElem?_eq_some_iff.mp hd).1
                      rw [List.length_append, List.length_singleton] at this
                      omega
                    simp only [gN, List.set_cons_zero, List.set_cons_succ]
                    simp only [wM, wExpr, wRaise, gSb, wSeq, wNext, wRet, wRetN, wExpr, wIfS, wSet, wAsg, wPar, wAug, w1, w2, wA, aNil, aCons, wVar, wVarT, wC, tOfW, w3c, wAnd, wOr, wNot, tAnd3, tOr3, tNot3, wIf, wTup, wLst, wLstO, wCall, wSl, pNone, pSome, wipe3, List.map_cons, List.map_nil, fI2, fI2C, fI1, fAbs, addI, mulI, intI, eqS, neS, isN_, notN_, L3.isNon, gN, gsN, gsC, gT, asT, at3, List.set_cons_zero, List.set_cons_succ, Option.some.injEq, exists_eq_left', D.bl.injEq, D.int.injEq, D.tup.injEq, List.length_cons, List.length_nil, Nat.reduceAdd, true_and, if_true, if_false, Bool.false_eq_true, reduceIte, ite_true, ite_false, len_t0, len_t1, len_t2, len_t3, len_l0, len_l1, eqI, neI, Int.reduceBEq, Int.reduceLT, Int.reduceLE, Int.reduceNeg, decide_true, decide_false, Bool.not_true, Bool.not_false, ix0, ix1, ix2, and_true, and_self, L3.cL, asL_ref hq6, Option.isSome_some]
                    exact joinb d _ _ noX (hall d (List.mem_of_getElem? hd)) fun y hy => ⟨ds, hq6, size_small (by omega), hN2 _ _ ⟨_, ds ++ [y], rfl, hH6.new hqp, gset_same, fun z hz => by
                      rcases List.mem_append.mp hz with hz | hz
                      · exact hds z hz
                      · rw [List.mem_singleton.mp hz]; exact hy, by rw [List.length_append, List.length_singleton]; omega⟩⟩
                  · rintro env' G6 ⟨u, ds, rfl, hH6, hq6, hds, hdl⟩
                    exact hN _ _ ⟨u, ds, rfl, hH6, hq6, hds, by rw [List.length_append, List.length_singleton] at hdl; omega⟩
              · intro N hN
                simp only [wExpr, wRaise, gSb, wSeq, wNext, wRet, wRetN, wExpr, wIfS, wSet, wAsg, wPar, wAug, w1, w2, wA, aNil, aCons, wVar, wVarT, wC, tOfW, w3c, wAnd, wOr, wNot, tAnd3, tOr3, tNot3, wIf, wTup, wLst, wLstO, wCall, wSl, pNone, pSome, wipe3, List.map_cons, List.map_nil, fI2, fI2C, fI1, fAbs, addI, mulI, intI, eqS, neS, isN_, notN_, L3.isNon, gN, gsN, gsC, gT, asT, at3, List.set_cons_zero, List.set_cons_succ, Option.some.injEq, exists_eq_left', D.bl.injEq, D.int.injEq, D.tup.injEq, List.length_cons, List.length_nil, Nat.reduceAdd, true_and, if_true, if_false, Bool.false_eq_true, reduceIte, ite_true, ite_false, len_t0, len_t1, len_t2, len_t3, len_l0, len_l1, eqI, neI, Int.reduceBEq, Int.reduceLT, Int.reduceLE, Int.reduceNeg, decide_true, decide_false, Bool.not_true, Bool.not_false, ix0, ix1, ix2, and_true, and_self]
                refine ⟨sizeLine_eq ▸ (by decide), hN _ _ ⟨_, fun d hd => ?_, ?_, rfl, rfl⟩⟩
                · simp only [List.mem_cons, List.not_mem_nil, or_false] at hd
                  rcases hd with rfl | rfl | rfl | rfl | rfl | rfl | rfl | rfl | rfl | rfl | rfl | rfl | rfl <;> exact badw_c _ (by decide +kernel)
                · simp only [List.length_cons, List.length_nil]
                  decide
            · intro N hN
              simp only [wExpr, wRaise, gSb, wSeq, wNext, wRet, wRetN, wExpr, wIfS, wSet, wAsg, wPar, wAug, w1, w2, wA, aNil, aCons, wVar, wVarT, wC, tOfW, w3c, wAnd, wOr, wNot, tAnd3, tOr3, tNot3, wIf, wTup, wLst, wLstO, wCall, wSl, pNone, pSome, wipe3, List.map_cons, List.map_nil, fI2, fI2C, fI1, fAbs, addI, mulI, intI, eqS, neS, isN_, notN_, L3.isNon, gN, gsN, gsC, gT, asT, at3, List.set_cons_zero, List.set_cons_succ, Option.some.injEq, exists_eq_left', D.bl.injEq, D.int.injEq, D.tup.injEq, List.length_cons, List.length_nil, Nat.reduceAdd, true_and, if_true, if_false, Bool.false_eq_true, reduceIte, ite_true, ite_false, len_t0, len_t1, len_t2, len_t3, len_l0, len_l1, eqI, neI, Int.reduceBEq, Int.reduceLT, Int.reduceLE, Int.reduceNeg, decide_true, decide_false, Bool.not_true, Bool.not_false, ix0, ix1, ix2, and_true, and_self, S_draw]
              rw [len_tup, List.length_map]
              have l1 := List.length_pos_iff.mpr hD0
              refine ⟨p, _, rfl, rfl, hH3, by omega, by omega, fun r G4 r1 r2 hH4 hA4 => ?_⟩
              obtain ⟨j, rfl⟩ : ∃ j : Nat, r = (j : Int) := ⟨r.toNat, by omega⟩
              refine hN _ _ ⟨j, by omega, ?_, hH4, (hA4 q hqp (by rw [hq]; simp)).trans hq⟩
              rw [show (1 : Int) + ((j : Nat) : Int) = ((j + 1 : Nat) : Int) by omega]
          · intro N hN
            simp only [wExpr, wRaise, gSb, wSeq, wNext, wRet, wRetN, wExpr, wIfS, wSet, wAsg, wPar, wAug, w1, w2, wA, aNil, aCons, wVar, wVarT, wC, tOfW, w3c, wAnd, wOr, wNot, tAnd3, tOr3, tNot3, wIf, wTup, wLst, wLstO, wCall, wSl, pNone, pSome, wipe3, List.map_cons, List.map_nil, fI2, fI2C, fI1, fAbs, addI, mulI, intI, eqS, neS, isN_, notN_, L3.isNon, gN, gsN, gsC, gT, asT, at3, List.set_cons_zero, List.set_cons_succ, Option.some.injEq, exists_eq_left', D.bl.injEq, D.int.injEq, D.tup.injEq, List.length_cons, List.length_nil, Nat.reduceAdd, true_and, if_true, if_false, Bool.false_eq_true, reduceIte, ite_true, ite_false, len_t0, len_t1, len_t2, len_t3, len_l0, len_l1, eqI, neI, Int.reduceBEq, Int.reduceLT, Int.reduceLE, Int.reduceNeg, decide_true, decide_false, Bool.not_true, Bool.not_false, ix0, ix1, ix2, and_true, and_self, wRepl]
            refine addS (b := [32, 100, 114, 121]) (by decide +kernel) (by simp only [List.length_cons, List.length_nil]; omega) ?_
            refine ⟨_, rfl, by rw [SX.S_len, show (Str.ofString "dry dry").length = 7 by decide +kernel]; omega, ?_⟩
            refine addS' (b := [100, 114, 97, 119, 32]) (by decide +kernel) (by simp only [List.length_cons, List.length_nil]; omega) ?_
            refine addS (b := [44]) (by decide +kernel) (by simp only [List.length_cons, List.length_nil]; omega) ⟨sizeLine_eq ▸ (by decide), ?_⟩
            refine ⟨ds, _, asL1_ref hq, rfl, size_small (by simp only [List.length_cons, List.length_nil]; omega), fun q2 hq2 => ?_⟩
            have hqp2 : q2 ≠ p := hH2.ne hq2
            refine hN _ _ ⟨q2, _, rfl, hH2.new hqp2, hqp2, gset_same, fun d hd => ?_, by rw [List.length_append]; simp only [List.length_cons, List.length_nil]; omega⟩
            rcases List.mem_append.mp hd with hd | hd
            · exact hds d hd
            · simp only [List.mem_cons, List.not_mem_nil, or_false] at hd
              rcases hd with rfl | rfl | rfl | rfl
              · exact hp.snoc (w := dryL) ⟨by decide, by decide⟩ sg_dry
              · rw [show (Str.ofString "dry") = Sg dryL by decide +kernel, show (Str.ofString "dry dry") = Sg (dryL ++ ([32] ++ dryL)) by decide +kernel, repl_S (by decide)]
                exact hp.dry2
              · exact hp.draw2
              · exact hp.sign (c := 44) (by decide) (by decide) (by decide)
        · intro N hN
          simp only [wExpr, wRaise, gSb, wSeq, wNext, wRet, wRetN, wExpr, wIfS, wSet, wAsg, wPar, wAug, w1, w2, wA, aNil, aCons, wVar, wVarT, wC, tOfW, w3c, wAnd, wOr, wNot, tAnd3, tOr3, tNot3, wIf, wTup, wLst, wLstO, wCall, wSl, pNone, pSome, wipe3, List.map_cons, List.map_nil, fI2, fI2C, fI1, fAbs, addI, mulI, intI, eqS, neS, isN_, notN_, L3.isNon, gN, gsN, gsC, gT, asT, at3, List.set_cons_zero, List.set_cons_succ, Option.some.injEq, exists_eq_left', D.bl.injEq, D.int.injEq, D.tup.injEq, List.length_cons, List.length_nil, Nat.reduceAdd, true_and, if_true, if_false, Bool.false_eq_true, reduceIte, ite_true, ite_false, len_t0, len_t1, len_t2, len_t3, len_l0, len_l1, eqI, neI, Int.reduceBEq, Int.reduceLT, Int.reduceLE, Int.reduceNeg, decide_true, decide_false, Bool.not_true, Bool.not_false, ix0, ix1, ix2, and_true, and_self, wRepl]
          refine ⟨_, rfl, by rw [SX.S_len, show (Str.ofString "Draw").length = 4 by decide +kernel]; omega, ?_⟩
          refine ⟨_, rfl, by rw [SX.S_len, show (Str.ofString "dried").length = 5 by decide +kernel]; omega, ?_⟩
          refine addS' (b := [102, 105, 108, 108, 32]) (by decide +kernel) (by simp only [List.length_cons, List.length_nil]; omega) ?_
          refine ⟨by rw [SX.S_len]; exact size_small (by omega), sizeLine_eq ▸ (by decide), ?_⟩
          have l5 : 5 ≤ (planL Ds Rs).length := by
            rw [Pl.rest, List.length_append, List.length_append]
            show 5 ≤ 4 + (1 + _)
            omega
          rw [show (5 : Int) = ((5 : Nat) : Int) from rfl, cut_end l5]
          refine ⟨ds, _, asL1_ref hq, rfl, size_small (by simp only [List.length_cons, List.length_nil]; omega), fun q2 hq2 => ?_⟩
          have hqp2 : q2 ≠ p := hH1.ne hq2
          refine hN _ _ ⟨q2, _, rfl, hH1.new hqp2, hqp2, gset_same, fun d hd => ?_, by rw [List.length_append]; simp only [List.length_cons, List.length_nil]; omega⟩
          rcases List.mem_append.mp hd with hd | hd
          · exact hds d hd
          · simp only [List.mem_cons, List.not_mem_nil, or_false] at hd
            rcases hd with rfl | rfl | rfl | rfl
            · rw [show (Str.ofString "draw") = Sg drawL by decide +kernel, show (Str.ofString "Draw") = Sg [68, 114, 97, 119] by decide +kernel, repl_S (by decide)]
              exact hp.bigDraw
            · rw [show (Str.ofString "dry") = Sg dryL by decide +kernel, show (Str.ofString "dried") = Sg [100, 114, 105, 101, 100] by decide +kernel, repl_S (by decide)]
              exact hp.dried
            · exact hp.front (w := [102, 105, 108, 108]) ⟨by decide, by decide⟩ (by decide)
            · exact hp.drop5
      · intro N hN
        simp only [wExpr, wRaise, gSb, wSeq, wNext, wRet, wRetN, wExpr, wIfS, wSet, wAsg, wPar, wAug, w1, w2, wA, aNil, aCons, wVar, wVarT, wC, tOfW, w3c, wAnd, wOr, wNot, tAnd3, tOr3, tNot3, wIf, wTup, wLst, wLstO, wCall, wSl, pNone, pSome, wipe3, List.map_cons, List.map_nil, fI2, fI2C, fI1, fAbs, addI, mulI, intI, eqS, neS, isN_, notN_, L3.isNon, gN, gsN, gsC, gT, asT, at3, List.set_cons_zero, List.set_cons_succ, Option.some.injEq, exists_eq_left', D.bl.injEq, D.int.injEq, D.tup.injEq, List.length_cons, List.length_nil, Nat.reduceAdd, true_and, if_true, if_false, Bool.false_eq_true, reduceIte, ite_true, ite_false, len_t0, len_t1, len_t2, len_t3, len_l0, len_l1, eqI, neI, Int.reduceBEq, Int.reduceLT, Int.reduceLE, Int.reduceNeg, decide_true, decide_false, Bool.not_true, Bool.not_false, ix0, ix1, ix2, and_true, and_self, wRepl]
        refine addS (b := [32]) (by decide +kernel) (by rw [List.length_singleton]; omega) ?_
        refine addS' (b := [32]) (by decide +kernel) (by rw [List.length_singleton]; omega) ?_
        refine ⟨_, rfl, by rw [SX.S_len, show (Str.ofString "  ").length = 2 by decide +kernel]; omega, ?_⟩
        refine addS (b := [10]) (by decide +kernel) (by rw [List.length_singleton]; omega) ?_
        refine addS (b := [32, 120]) (by decide +kernel) (by simp only [List.length_cons, List.length_nil]; omega) ⟨sizeLine_eq ▸ (by decide), fun q hq => ?_⟩
        have hqp : q ≠ p := hH.ne hq
        refine hN _ _ ⟨q, _, rfl, hH.new hqp, hqp, gset_same, fun d hd => ?_, by simp⟩
        simp only [List.mem_cons, List.not_mem_nil, or_false] at hd
        rcases hd with rfl | rfl | rfl | rfl | rfl | rfl | rfl | rfl | rfl
        · exact bad_c _ (by decide +kernel)
        · exact bad_c _ (by decide +kernel)
        · exact bad_c _ (by decide +kernel)
        · exact bad_c _ (by decide +kernel)
        · exact hp.snoc (w := []) ⟨by decide, by decide⟩ (by decide +kernel)
        · exact hp.front (w := []) ⟨by decide, by decide⟩ (by decide)
        · have e1 : Txt.replace (Sg (planL Ds Rs)) (Str.ofString " ") (Str.ofString "  ") = Sg (TL.joinL [32, 32] (planW Ds Rs)) := by
            rw [show (Str.ofString " ") = ⟨#[32]⟩ by decide +kernel, PySem.StrLaws.replace_one, show (⟨#[32]⟩ : Str) = SX.S [32] from rfl, SX.split_S (by decide) (by decide), spl_plan hD hRq, show (Str.ofString "  ") = SX.S [32, 32] by decide +kernel]
            rw [← TL.join_eq]
            exact SX.join_S _ _
          rw [e1]
          exact hp.blanks
        · exact hp.sign (c := 10) (by decide) (by decide) (by decide)
        · exact hp.snoc (w := [120]) ⟨by decide, by decide⟩ (by decide +kernel)
    · intro N hN
      simp only [wExpr, wRaise, gSb, wSeq, wNext, wRet, wRetN, wExpr, wIfS, wSet, wAsg, wPar, wAug, w1, w2, wA, aNil, aCons, wVar, wVarT, wC, tOfW, w3c, wAnd, wOr, wNot, tAnd3, tOr3, tNot3, wIf, wTup, wLst, wLstO, wCall, wSl, pNone, pSome, wipe3, List.map_cons, List.map_nil, fI2, fI2C, fI1, fAbs, addI, mulI, intI, eqS, neS, isN_, notN_, L3.isNon, gN, gsN, gsC, gT, asT, at3, List.set_cons_zero, List.set_cons_succ, Option.some.injEq, exists_eq_left', D.bl.injEq, D.int.injEq, D.tup.injEq, List.length_cons, List.length_nil, Nat.reduceAdd, true_and, if_true, if_false, Bool.false_eq_true, reduceIte, ite_true, ite_false, len_t0, len_t1, len_t2, len_t3, len_l0, len_l1, eqI, neI, Int.reduceBEq, Int.reduceLT, Int.reduceLE, Int.reduceNeg, decide_true, decide_false, Bool.not_true, Bool.not_false, ix0, ix1, ix2, and_true, and_self, wM]
      have ez : (" " : Str) = Sg [32] := by decide +kernel
      refine ⟨⟨_, rfl⟩, _, _, rfl, rfl, by decide +kernel, ?_, ?_⟩
      · rw [SX.S_len, sizeLine_eq]
        omega
      · rw [ez, SX.split_S (by decide) (by decide), spl_plan hD hRq, List.map_map]
        exact hN _ _ ⟨rfl, rfl⟩
end

end K69

set_option Elab.async false
set_option linter.all false
set_option maxRecDepth 100000
set_option maxHeartbeats 0
namespace K69
open PySem PySem.Spec L2 L3
open PyProof.Rows hiding St
def isD : Nat → D → Bool
  | _, .non => true
  | _, .bl _ => true
  | _, .int _ => true
  | _, .str _ => true
  | n + 1, .tup xs => decide (xs.length ≤ 1000) && xs.all (isD n)
  | n + 1, .lst xs => decide (xs.length ≤ 1000) && xs.all (isD n)
  | _, _ => false
section
variable {P : Program} {w : World} {K : PySem.W.Frag} {mg : Str → Option Value} {base : Heap}
def S_is (n : Nat) : SP3 := fun ds G R _ => match ds with
  | [x, y] => y = x ∧ rdD x = true ∧ isD n x = true ∧ R (.bl true) G
  | _ => False
def S_isP : Nat → SP3
  | 0 => fun _ _ _ _ => False
  | n + 1 => S_is n
theorem zip_self : ∀ (xs : List D), zipD xs xs = xs.map fun d => .tup [d, d]
  | [] => rfl
  | x :: xs => by
    show D.tup [x, x] :: zipD xs xs = _
    rw [zip_self xs]
    rfl
theorem trues {xs : List D} : bools (xs.map fun _ => D.bl true) = some (xs.map fun _ => true) := by
  rw [show (xs.map fun _ => D.bl true) = (xs.map fun _ => true).map D.bl by rw [List.map_map]; rfl, bools_map]
theorem all_trues : ∀ {xs : List D}, (xs.map fun _ => true).all id = true
  | [] => rfl
  | x :: xs => all_trues (xs := xs)
theorem is_step (T : Tx K mg) (n : Nat) (g__law_is : Good P w K mg base "_law_is" ["got", "due"] (2 + n) (S_isP n)) : Good P w K mg base "_law_is" ["got", "due"] (2 + n + 1) (S_is n) := by
  refine good_of (d__law_is T) sc__law_is fun f cd A outer s H E hp tk hgd hr => ⟨_, (s_cons (s_if (t_val (c_callB call_isi3 (lift_isi (K := K)) (n_isinstance T) (a_cons (c_var 1) (a_cons (c_tup (a_cons (c_bltn (n := "tuple") (n_tuple T)) (a_cons (c_bltn (n := "list") (n_list T)) a_nil))) a_nil)))) (s_cons (s_if (t_w (o_or (t_cmp (op_ne3 hr.units) lift_ne (c_callB call_isi3 (lift_isi (K := K)) (n_isinstance T) (a_cons (c_var 0) (a_cons (c_bltn (n := "tuple") (n_tuple T)) a_nil))) (c_callB call_isi3 (lift_isi (K := K)) (n_isinstance T) (a_cons (c_var 1) (a_cons (c_bltn (n := "tuple") (n_tuple T)) a_nil)))) (o_or1 (t_cmp (op_ne3 hr.units) lift_ne (c_callB call_isi3 (lift_isi (K := K)) (n_isinstance T) (a_cons (c_var 0) (a_cons (c_bltn (n := "list") (n_list T)) a_nil))) (c_callB call_isi3 (lift_isi (K := K)) (n_isinstance T) (a_cons (c_var 1) (a_cons (c_bltn (n := "list") (n_list T)) a_nil))))))) (s_one (s_ret c_bl)) s_nil)
      (s_one (s_ret (c_and (c_cmp (op_eq3 hr.units) lift_eq (c_callB call_len lift_len (n_len T) (a_cons (c_var 0) a_nil)) (c_callB call_len lift_len (n_len T) (a_cons (c_var 1) a_nil))) (c_one (c_callB (cr_all rfl) lift_all (n_all T) (a_cons (c_lc [("one", 2), ("other", 3)] rfl sc__law_is.nd (i_zpX (n_zip T) (c_var 0) (c_var 1)) (blkOk_by (by kernel_rfl)) (by decide) (fun _ _ _ _ _ => (g_tup (n := 2) rfl (gs_cons (g_name 2 sc__law_is.nd rfl (.inl rfl)) (gs_cons (g_name 3 sc__law_is.nd rfl (.inl rfl)) gs_nil)))) (fun _ _ _ _ _ => ts_nil) (fun _ _ _ _ _ => (c_call g__law_is (hr.mono (by omega)) hgd takes0 (a_cons (c_var 2) (a_cons (c_var 3) a_nil))))) a_nil))))))) s_nil)
      (s_cons (s_if (t_w (o_or (t_cmp op_isN lift_isN (c_var 1) c_non) (o_or1 (t_cmp op_isN lift_isN (c_var 0) c_non)))) (s_one (s_ret (c_and (c_cmp op_isN lift_isN (c_var 1) c_non) (c_one (c_cmp op_isN lift_isN (c_var 0) c_non))))) s_nil)
      (s_cons (s_if (t_w (o_or (t_cmp (op_ne3 hr.units) lift_ne (c_callB call_isi3 (lift_isi (K := K)) (n_isinstance T) (a_cons (c_var 0) (a_cons (c_bltn (n := "bool") (n_bool T)) a_nil))) (c_callB call_isi3 (lift_isi (K := K)) (n_isinstance T) (a_cons (c_var 1) (a_cons (c_bltn (n := "bool") (n_bool T)) a_nil)))) (o_or1 (t_cmp (op_ne3 hr.units) lift_ne (c_callB call_isi3 (lift_isi (K := K)) (n_isinstance T) (a_cons (c_var 0) (a_cons (c_bltn (n := "int") (n_int T)) a_nil))) (c_callB call_isi3 (lift_isi (K := K)) (n_isinstance T) (a_cons (c_var 1) (a_cons (c_bltn (n := "int") (n_int T)) a_nil))))))) (s_one (s_ret c_bl)) s_nil)
      (s_one (s_ret (c_and (c_cmp (op_eq3 hr.units) lift_eq (c_callB call_isi3 (lift_isi (K := K)) (n_isinstance T) (a_cons (c_var 0) (a_cons (c_bltn (n := "str") (n_str T)) a_nil))) (c_callB call_isi3 (lift_isi (K := K)) (n_isinstance T) (a_cons (c_var 1) (a_cons (c_bltn (n := "str") (n_str T)) a_nil)))) (c_one (c_cmp (op_eq3 hr.units) lift_eq (c_var 0) (c_var 1))))))))), fun ds G R Ex hlen hS => ?_⟩
  clear hp tk hgd hr hlen
  match ds, hS with
  | [x, y], ⟨e, hs, hd, hR⟩ =>
    subst e
    rw [show start3 ["got", "due", "one", "other"] [y, y] = [some (y), some (y), none, none] from rfl]
    have hr := hs
    simp only [wExpr, wRaise, gSb, wSeq, wNext, wRet, wRetN, wExpr, wIfS, wSet, wAsg, wPar, wAug, w1, w2, wA, aNil, aCons, wVar, wVarT, wC, tOfW, w3c, wAnd, wOr, wNot, tAnd3, tOr3, tNot3, wIf, wTup, wLst, wLstO, wCall, wSl, pNone, pSome, wipe3, List.map_cons, List.map_nil, fI2, fI2C, fI1, fAbs, addI, mulI, intI, eqS, neS, isN_, notN_, L3.isNon, gN, gsN, gsC, gT, asT, at3, List.set_cons_zero, List.set_cons_succ, Option.some.injEq, exists_eq_left', D.bl.injEq, D.int.injEq, D.tup.injEq, List.length_cons, List.length_nil, Nat.reduceAdd, true_and, if_true, if_false, Bool.false_eq_true, reduceIte, ite_true, ite_false, len_t0, len_t1, len_t2, len_t3, len_l0, len_l1, eqI, neI, Int.reduceBEq, Int.reduceLT, Int.reduceLE, Int.reduceNeg, decide_true, decide_false, Bool.not_true, Bool.not_false, ix0, ix1, ix2, and_true, and_self, isi_tl hr, isi_tup hr, isi_lst hr, isi_bool hr, isi_int hr, isi_str hr, neB, eqB]
    have loop : ∀ (xs : List D), (∀ G', stL y xs G') → (∀ d ∈ xs, rdD d = true) → xs.length ≤ 1000 → (∀ d ∈ xs, ∃ m, n = m + 1 ∧ isD m d = true) → asS G y = some xs →
        wLc (iZpX (wVar 0) (wVar 1)) (gT 2 (gsC (gN 2) (gsC (gN 3) gsN))) tYes3 (wCall 2 (S_isP n) (aCons (wVar 2) (aCons (wVar 3) aNil))) [2, 3] [some y, some y, none, none] G (fun x G1 => fAll [x] G1 R) Ex := by
      intro xs hst hx hl hdx hy
      refine wLc_it (ds := xs.map fun d => .tup [d, d]) (fun _ => .bl true) rfl (by rw [List.length_map]; exact size_small (by omega)) (fun Kt hK => ?_) ?_ ?_
      · simp only [iZpX, wVar, at3, Option.some.injEq, exists_eq_left']
        refine ⟨xs, xs, hy, hy, ?_⟩
        rw [zip_self]
        exact hK _ fun G' _ => ⟨hst G', hst G'⟩
      · intro d hd p acc Q hp hQ
        obtain ⟨z, hz, rfl⟩ := List.mem_map.mp hd
        obtain ⟨m, rfl, hm⟩ := hdx z hz
        simp only [wExpr, wRaise, gSb, wSeq, wNext, wRet, wRetN, wExpr, wIfS, wSet, wAsg, wPar, wAug, w1, w2, wA, aNil, aCons, wVar, wVarT, wC, tOfW, w3c, wAnd, wOr, wNot, tAnd3, tOr3, tNot3, wIf, wTup, wLst, wLstO, wCall, wSl, pNone, pSome, wipe3, List.map_cons, List.map_nil, fI2, fI2C, fI1, fAbs, addI, mulI, intI, eqS, neS, isN_, notN_, L3.isNon, gN, gsN, gsC, gT, asT, at3, List.set_cons_zero, List.set_cons_succ, Option.some.injEq, exists_eq_left', D.bl.injEq, D.int.injEq, D.tup.injEq, List.length_cons, List.length_nil, Nat.reduceAdd, true_and, if_true, if_false, Bool.false_eq_true, reduceIte, ite_true, ite_false, len_t0, len_t1, len_t2, len_t3, len_l0, len_l1, eqI, neI, Int.reduceBEq, Int.reduceLT, Int.reduceLE, Int.reduceNeg, decide_true, decide_false, Bool.not_true, Bool.not_false, ix0, ix1, ix2, and_true, and_self, S_isP, S_is]
        exact ⟨hx z hz, hm, hQ⟩
      · rw [List.map_map]
        show fAll [.lst (xs.map fun _ => D.bl true)] G R
        rw [all_lst trues, all_trues]
        exact hR
    cases y with
    | tup xs =>
      refine ⟨sizeLine_eq ▸ (by decide), ?_⟩
      rw [if_pos (show (isTupD (D.tup xs) || isLstD (D.tup xs)) = true from rfl), if_neg (show ¬ (!(isTupD (D.tup xs) == isTupD (D.tup xs))) = true from Bool.false_ne_true), if_neg (show ¬ (!(isLstD (D.tup xs) == isLstD (D.tup xs))) = true from Bool.false_ne_true)]
      rw [len_tup]
      show fLen [.tup xs] G _
      rw [len_tup, eqI, beq_self_eq_true]
      refine ⟨true, rfl, ?_⟩
      rw [if_pos rfl]
      have hd' : decide (xs.length ≤ 1000) = true ∧ ∀ d ∈ xs, ∃ m, n = m + 1 ∧ isD m d = true := by
        cases n with
        | zero => cases hd
        | succ m =>
          have hd2 : (decide (xs.length ≤ 1000) && xs.all (isD m)) = true := hd
          rw [Bool.and_eq_true, List.all_eq_true] at hd2
          exact ⟨hd2.1, fun d hd => ⟨m, rfl, hd2.2 d hd⟩⟩
      exact loop xs (fun _ => trivial) (rdDL_iff.mp hs) (of_decide_eq_true hd'.1) hd'.2 rfl
    | lst xs =>
      refine ⟨sizeLine_eq ▸ (by decide), ?_⟩
      rw [if_pos (show (isTupD (D.lst xs) || isLstD (D.lst xs)) = true from rfl), if_neg (show ¬ (!(isTupD (D.lst xs) == isTupD (D.lst xs))) = true from Bool.false_ne_true), if_neg (show ¬ (!(isLstD (D.lst xs) == isLstD (D.lst xs))) = true from Bool.false_ne_true)]
      rw [len_lst]
      show fLen [.lst xs] G _
      rw [len_lst, eqI, beq_self_eq_true]
      refine ⟨true, rfl, ?_⟩
      rw [if_pos rfl]
      have hd' : decide (xs.length ≤ 1000) = true ∧ ∀ d ∈ xs, ∃ m, n = m + 1 ∧ isD m d = true := by
        cases n with
        | zero => cases hd
        | succ m =>
          have hd2 : (decide (xs.length ≤ 1000) && xs.all (isD m)) = true := hd
          rw [Bool.and_eq_true, List.all_eq_true] at hd2
          exact ⟨hd2.1, fun d hd => ⟨m, rfl, hd2.2 d hd⟩⟩
      exact loop xs (fun _ => trivial) (rdDL_iff.mp hs) (of_decide_eq_true hd'.1) hd'.2 rfl
    | non =>
      refine ⟨sizeLine_eq ▸ (by decide), ?_⟩
      exact hR
    | int i =>
      refine ⟨sizeLine_eq ▸ (by decide), ?_⟩
      show fEq (.int i) (.int i) G R
      rw [eqI, beq_self_eq_true]
      exact hR
    | bl b =>
      refine ⟨sizeLine_eq ▸ (by decide), ?_⟩
      show fEq (.bl b) (.bl b) G R
      rw [eqB, beq_self_eq_true]
      exact hR
    | str z =>
      refine ⟨sizeLine_eq ▸ (by decide), ?_⟩
      show R (.bl (z == z)) G
      rw [beq_self_eq_true]
      exact hR
    | lsx xs => cases n <;> cases hd
    | dct ks xs => cases n <;> cases hd
    | _ => cases hs
theorem ok_is (T : Tx K mg) : ∀ n, Good P w K mg base "_law_is" ["got", "due"] (2 + n + 1) (S_is n)
  | 0 => is_step T 0 (good_no 2 (d__law_is T))
  | n + 1 => is_step T (n + 1) (ok_is T n)
end

end K69

set_option Elab.async false
set_option linter.all false
set_option maxRecDepth 100000
set_option maxHeartbeats 0
namespace K69
open PySem PySem.Spec L2 L3
open PyProof.Rows hiding St
/-! ### wrong plans -/
def BadP (x : D) : Prop := bsD x = true ∧ (∀ d, (∃ xs, x = .tup xs ∧ d ∈ xs) → lenN d ≤ 1000) ∧ planB x = false
theorem bs_frI {q : Fr} (h : QOk q) : bsD (frI q) = true := by
  have l : (10 : Nat) ^ 600 < 2 ^ 3900 := Nat.lt_of_lt_of_le (show 10 ^ 600 < 2 ^ 2000 by decide +kernel) (Nat.pow_le_pow_right (by decide) (by decide))
  refine bs_t fun d hd => ?_
  simp only [List.mem_cons, List.not_mem_nil, or_false] at hd
  rcases hd with rfl | rfl
  · show decide (q.1.natAbs < 2 ^ 3900) = true
    rw [decide_eq_true_eq]
    exact Nat.lt_trans h.n6 l
  · show decide (q.2.natAbs < 2 ^ 3900) = true
    rw [decide_eq_true_eq]
    exact Nat.lt_trans h.d6' l
theorem frac_frI {q : Fr} (h : QOk q) : isFracD (frI q) = true := by
  show (decide (1 ≤ q.2) && (Int.gcd q.1 q.2 == 1)) = true
  rw [decide_eq_true h.d1, h.g]
  rfl
theorem short_frI {q : Fr} (h : QOk q) : shortB (frI q) = true := by
  have eb : bigT = ((10 ^ 600 : Nat) : Int) := by
    rw [bigT_def]
    decide +kernel
  have e2 : ((10 ^ 600 : Nat) : Int) = (10 : Int) ^ 600 := by decide +kernel
  have d6 := h.d6
  rw [← e2] at d6
  show (decide (((q.1.natAbs : Nat) : Int) < bigT) && decide (q.2 < bigT)) = true
  rw [eb, decide_eq_true (Int.ofNat_lt.mpr h.n6), decide_eq_true d6]
  rfl
section
variable {Ds Rs : List Fr}
theorem Pl.good (h : Pl Ds Rs) : planB (.tup [.tup (Ds.map frI), .tup (Rs.map frI)]) = true := by
  show (decide (Ds.map frI ≠ []) && ((Ds.map frI).all isFracD && ((Rs.map frI).all isFracD && (Ds.map frI ++ Rs.map frI).all shortB))) = true
  rw [Bool.and_eq_true, Bool.and_eq_true, Bool.and_eq_true, decide_eq_true_eq, List.all_eq_true, List.all_eq_true, List.all_eq_true]
  refine ⟨fun e => h.d0 (List.map_eq_nil_iff.mp e), fun d hd => ?_, fun d hd => ?_, fun d hd => ?_⟩
  · obtain ⟨q, hq, rfl⟩ := List.mem_map.mp hd
    exact frac_frI (h.dq q hq)
  · obtain ⟨q, hq, rfl⟩ := List.mem_map.mp hd
    exact frac_frI (h.rq q hq)
  · rcases List.mem_append.mp hd with hd | hd
    · obtain ⟨q, hq, rfl⟩ := List.mem_map.mp hd
      exact short_frI (h.dq q hq)
    · obtain ⟨q, hq, rfl⟩ := List.mem_map.mp hd
      exact short_frI (h.rq q hq)
theorem Pl.bsd (h : Pl Ds Rs) : ∀ d ∈ Ds.map frI, bsD d = true := fun d hd => by
  obtain ⟨q, hq, rfl⟩ := List.mem_map.mp hd
  exact bs_frI (h.dq q hq)
theorem Pl.bsr (h : Pl Ds Rs) : ∀ d ∈ Rs.map frI, bsD d = true := fun d hd => by
  obtain ⟨q, hq, rfl⟩ := List.mem_map.mp hd
  exact bs_frI (h.rq q hq)
/-- a pair of which one part is wrong -/
theorem bad_pair {a b : D} (ha : bsD a = true) (hb : bsD b = true) (la : lenN a ≤ 1000) (lb : lenN b ≤ 1000) (h : pairB a b = false) : BadP (.tup [a, b]) := by
  refine ⟨bs_t fun d hd => ?_, ?_, h⟩
  · simp only [List.mem_cons, List.not_mem_nil, or_false] at hd
    rcases hd with rfl | rfl
    · exact ha
    · exact hb
  · rintro d ⟨xs, e, hd⟩
    cases e
    simp only [List.mem_cons, List.not_mem_nil, or_false] at hd
    rcases hd with rfl | rfl
    · exact la
    · exact lb
theorem pair_fst {xs : List D} {b d : D} (hd : d ∈ xs) (h : isFracD d = false ∨ shortB d = false) : pairB (.tup xs) b = false := by
  cases b with
  | tup ys =>
    show (decide (xs ≠ []) && (xs.all isFracD && (ys.all isFracD && (xs ++ ys).all shortB))) = false
    rcases h with h | h
    · rw [show xs.all isFracD = false from List.all_eq_false.mpr ⟨d, hd, by rw [h]; decide⟩, Bool.false_and, Bool.and_false]
    · rw [show (xs ++ ys).all shortB = false from List.all_eq_false.mpr ⟨d, List.mem_append_left _ hd, by rw [h]; decide⟩, Bool.and_false, Bool.and_false, Bool.and_false]
  | _ => rfl
theorem pair_snd {ys : List D} {a d : D} (hd : d ∈ ys) (h : isFracD d = false ∨ shortB d = false) : pairB a (.tup ys) = false := by
  cases a with
  | tup xs =>
    show (decide (xs ≠ []) && (xs.all isFracD && (ys.all isFracD && (xs ++ ys).all shortB))) = false
    rcases h with h | h
    · rw [show ys.all isFracD = false from List.all_eq_false.mpr ⟨d, hd, by rw [h]; decide⟩, Bool.false_and, Bool.and_false, Bool.and_false]
    · rw [show (xs ++ ys).all shortB = false from List.all_eq_false.mpr ⟨d, List.mem_append_right _ hd, by rw [h]; decide⟩, Bool.and_false, Bool.and_false, Bool.and_false]
  | _ => rfl
end
section
variable {P : Program} {w : World} {K : PySem.W.Frag} {mg : Str → Option Value} {base : Heap}
def greatI : Int := ((10 ^ 600 : Nat) : Int)
def S_wp : SP3 := fun ds G R _ => match ds with
  | [x] => ∃ Ds Rs : List Fr, x = .tup [.tup (Ds.map frI), .tup (Rs.map frI)] ∧ Pl Ds Rs ∧ ∀ ds, (∀ d ∈ ds, BadP d) → ds.length ≤ 100 → R (.lst ds) G
  | _ => False
theorem ok_wp (T : Tx K mg) : Good P w K mg base "_law_wrong_plans" ["pair"] 2 S_wp := by
  refine good_of (d__law_wrong_plans T) sc__law_wrong_plans fun f cd A outer s H E hp tk hgd hr => ⟨_, (s_cons (s_asg (c_var 0) (g_tup (n := 2) rfl (gs_cons (g_name 1 sc__law_wrong_plans.nd rfl (.inl rfl)) (gs_cons (g_name 2 sc__law_wrong_plans.nd rfl (.inl rfl)) gs_nil))))
      (s_cons (s_set 3 sc__law_wrong_plans.nd rfl (.inl rfl) rfl c_int)
      (s_cons (s_for hp rfl (i_rg1 (n_range T) c_int) (g_name 4 sc__law_wrong_plans.nd rfl (.inl rfl)) (s_one (s_set 3 sc__law_wrong_plans.nd rfl (.inl rfl) rfl (c_op op_mul3 lift_mul (c_var 3) (c_op op_pow lift_I2C c_int c_int)))))
      (s_cons (s_set 5 sc__law_wrong_plans.nd rfl (.inl rfl) rfl (c_lst (a_cons c_non (a_cons (c_ix (c_var 0) c_int) (a_cons (c_lst (a_cons (c_var 1) (a_cons (c_var 2) a_nil))) (a_cons (c_tup (a_cons (c_var 1) a_nil)) (a_cons (c_tup (a_cons (c_var 1) (a_cons (c_var 2) (a_cons (c_tup a_nil) a_nil)))) (a_cons (c_tup (a_cons (c_tup a_nil) (a_cons (c_var 2) a_nil))) (a_cons (c_tup (a_cons (c_callT call_list_of lift_list (n_list T) (a_cons (c_var 1) a_nil)) (a_cons (c_var 2) a_nil))) a_nil)))))))))
      (s_cons (s_set 5 sc__law_wrong_plans.nd rfl (.inl rfl) rfl (c_op op_add3 lift_add (c_var 5) (c_lst (a_cons (c_tup (a_cons (c_var 1) (a_cons (c_callT call_list_of lift_list (n_list T) (a_cons (c_var 2) a_nil)) a_nil))) (a_cons (c_tup (a_cons (c_var 1) (a_cons c_non a_nil))) (a_cons (c_tup (a_cons (c_op op_add3 lift_add (c_var 1) (c_tup (a_cons c_int a_nil))) (a_cons (c_var 2) a_nil))) (a_cons (c_tup (a_cons (c_var 1) (a_cons (c_op op_add3 lift_add (c_var 2) (c_tup (a_cons (c_tup (a_cons c_int (a_cons c_int a_nil))) a_nil))) a_nil))) a_nil)))))))
      (s_cons (s_set 5 sc__law_wrong_plans.nd rfl (.inl rfl) rfl (c_op op_add3 lift_add (c_var 5) (c_lst (a_cons (c_tup (a_cons (c_op op_add3 lift_add (c_var 1) (c_tup (a_cons (c_tup (a_cons (c_var 3) (a_cons c_int a_nil))) a_nil))) (a_cons (c_var 2) a_nil))) (a_cons (c_tup (a_cons (c_var 1) (a_cons (c_op op_add3 lift_add (c_var 2) (c_tup (a_cons (c_tup (a_cons (c_op op_sub lift_I2i c_int (c_var 3)) (a_cons c_int a_nil))) a_nil))) a_nil))) (a_cons (c_tup (a_cons (c_tup (a_cons (c_tup (a_cons c_int (a_cons (c_var 3) a_nil))) a_nil)) (a_cons (c_tup a_nil) a_nil))) a_nil))))))
      (s_one (s_ret (c_op op_add3 lift_add (c_var 5) (c_lst (a_cons (c_tup (a_cons (c_op op_add3 lift_add (c_var 1) (c_tup (a_cons (c_tup (a_cons c_bl (a_cons c_int a_nil))) a_nil))) (a_cons (c_var 2) a_nil))) (a_cons (c_tup (a_cons (c_var 1) (a_cons (c_op op_add3 lift_add (c_var 2) (c_tup (a_cons (c_tup (a_cons c_int (a_cons c_int a_nil))) a_nil))) a_nil))) (a_cons c_str (a_cons c_int a_nil)))))))))))))), fun ds G R Ex hlen hS => ?_⟩
  clear hp tk hgd hr hlen
  match ds, hS with
  | [x], ⟨Ds, Rs, e, hp, hR⟩ =>
    subst e
    rw [show start3 ["pair", "draws", "drying", "great", "turn", "found"] [.tup [.tup (Ds.map frI), .tup (Rs.map frI)]] = [some (.tup [.tup (Ds.map frI), .tup (Rs.map frI)]), none, none, none, none, none] from rfl]
    have cp : CPow 10 60 := by unfold CPow; decide
    refine seq_cut (fun env' G' => env' = [some (.tup [.tup (Ds.map frI), .tup (Rs.map frI)]), some (.tup (Ds.map frI)), some (.tup (Rs.map frI)), none, none, none] ∧ G' = G) ?_ ?_
    · rintro env' G' ⟨rfl, e0⟩
      subst e0
      refine seq_cut (fun env' G2 => env' = [some (.tup [.tup (Ds.map frI), .tup (Rs.map frI)]), some (.tup (Ds.map frI)), some (.tup (Rs.map frI)), some (.int 1), none, none] ∧ G2 = G') ?_ ?_
      · rintro env' G2 ⟨rfl, e0⟩
        subst e0
        refine seq_cut (fun env' G3 => ∃ u, env' = [some (.tup [.tup (Ds.map frI), .tup (Rs.map frI)]), some (.tup (Ds.map frI)), some (.tup (Rs.map frI)), some (.int greatI), u, none] ∧ G3 = G2) ?_ ?_
        · rintro env' G3 ⟨u, rfl, e0⟩
          subst e0
          have s0 : (0 : Nat) ≤ sizeLine := Nat.zero_le _
          have s1 : (1 : Nat) ≤ sizeLine := sizeLine_eq ▸ (by decide)
          have s2 : (2 : Nat) ≤ sizeLine := sizeLine_eq ▸ (by decide)
          have s3 : (3 : Nat) ≤ sizeLine := sizeLine_eq ▸ (by decide)
          have s4 : (4 : Nat) ≤ sizeLine := sizeLine_eq ▸ (by decide)
          have s7 : (7 : Nat) ≤ sizeLine := sizeLine_eq ▸ (by decide)
          have dl := hp.dl
          have rl := hp.rl
          have ld : (Ds.map frI).length ≤ 6 := by rw [List.length_map]; exact dl
          have lr : (Rs.map frI).length ≤ 6 := by rw [List.length_map]; exact rl
          have bd := hp.bsd
          have br := hp.bsr
          have pg := hp.good
          simp only [wExpr, wRaise, gSb, wSeq, wNext, wRet, wRetN, wExpr, wIfS, wSet, wAsg, wPar, wAug, w1, w2, wA, aNil, aCons, wVar, wVarT, wC, tOfW, w3c, wAnd, wOr, wNot, tAnd3, tOr3, tNot3, wIf, wTup, wLst, wLstO, wCall, wSl, pNone, pSome, wipe3, List.map_cons, List.map_nil, fI2, fI2C, fI1, fAbs, addI, mulI, intI, eqS, neS, isN_, notN_, L3.isNon, gN, gsN, gsC, gT, asT, at3, List.set_cons_zero, List.set_cons_succ, Option.some.injEq, exists_eq_left', D.bl.injEq, D.int.injEq, D.tup.injEq, List.length_cons, List.length_nil, Nat.reduceAdd, true_and, if_true, if_false, Bool.false_eq_true, reduceIte, ite_true, ite_false, len_t0, len_t1, len_t2, len_t3, len_l0, len_l1, eqI, neI, Int.reduceBEq, Int.reduceLT, Int.reduceLE, Int.reduceNeg, decide_true, decide_false, Bool.not_true, Bool.not_false, ix0, ix1, ix2, and_true, and_self, s0, s1, s2, s3, s4, s7, add_t]
          refine ⟨_, _, rfl, rfl, _, _, rfl, rfl, ?_⟩
          generalize hDD : Ds.map frI = DD at ld bd hR ⊢
          generalize hRR : Rs.map frI = RR at lr br hR ⊢
          have fD : ∀ d ∈ DD, ∃ q : Fr, d = frI q := fun d hd => by
            rw [← hDD] at hd
            obtain ⟨q, _, rfl⟩ := List.mem_map.mp hd
            exact ⟨q, rfl⟩
          have z1 : DD.length + 1 ≤ sizeLine := size_small (by omega)
          have z2 : RR.length + 1 ≤ sizeLine := size_small (by omega)
          have bD : bsD (.tup DD) = true := bs_t bd
          have bR : bsD (.tup RR) = true := bs_t br
          have lD : lenN (.tup DD) ≤ 1000 := by show DD.length ≤ _; omega
          have lR : lenN (.tup RR) ≤ 1000 := by show RR.length ≤ _; omega
          have app : ∀ {xs : List D} {d : D}, (∀ d ∈ xs, bsD d = true) → bsD d = true → bsD (.tup (xs ++ [d])) = true := fun {xs d} h k => bs_t fun e he => by
            rcases List.mem_append.mp he with he | he
            · exact h e he
            · rw [List.mem_singleton.mp he]; exact k
          have lapp : ∀ {xs : List D} {d : D}, xs.length ≤ 6 → lenN (.tup (xs ++ [d])) ≤ 1000 := fun {xs d} h => by
            show (xs ++ [d]).length ≤ _
            rw [List.length_append, List.length_singleton]
            omega
          have gb : bsD (.int greatI) = true := by
            show decide (greatI.natAbs < 2 ^ 3900) = true
            rw [decide_eq_true_eq]
            unfold greatI
            rw [Int.natAbs_natCast]
            exact Nat.lt_of_lt_of_le (show 10 ^ 600 < 2 ^ 2000 by decide +kernel) (Nat.pow_le_pow_right (by decide) (by decide))
          have gb2 : bsD (.int (0 - greatI)) = true := by
            show decide ((0 - greatI).natAbs < 2 ^ 3900) = true
            rw [decide_eq_true_eq, Int.zero_sub, Int.natAbs_neg]
            unfold greatI
            rw [Int.natAbs_natCast]
            exact Nat.lt_of_lt_of_le (show 10 ^ 600 < 2 ^ 2000 by decide +kernel) (Nat.pow_le_pow_right (by decide) (by decide))
          have two : ∀ {a b : D}, bsD a = true → bsD b = true → bsD (.tup [a, b]) = true := fun {a b} h k => bs_t fun e he => by
            simp only [List.mem_cons, List.not_mem_nil, or_false] at he
            rcases he with rfl | rfl
            · exact h
            · exact k
          have eb : bigT = greatI := by
            rw [bigT_def]
            unfold greatI
            decide +kernel
          have sh1 : shortB (.tup [.int greatI, .int 1]) = false := by
            show (decide (((greatI.natAbs : Nat) : Int) < bigT) && decide ((1 : Int) < bigT)) = false
            rw [eb, decide_eq_false (by have : 0 ≤ greatI := Int.natCast_nonneg _; omega), Bool.false_and]
          have sh2 : shortB (.tup [.int (0 - greatI), .int 1]) = false := by
            show (decide ((((0 - greatI).natAbs : Nat) : Int) < bigT) && decide ((1 : Int) < bigT)) = false
            rw [eb, decide_eq_false (by have : 0 ≤ greatI := Int.natCast_nonneg _; omega), Bool.false_and]
          have sh3 : shortB (.tup [.int 1, .int greatI]) = false := by
            show (decide ((((1 : Int).natAbs : Nat) : Int) < bigT) && decide (greatI < bigT)) = false
            rw [eb, decide_eq_false (by omega : ¬ greatI < greatI), Bool.and_false]
          refine ⟨z1, z2, add_lst (size_small (by simp)) ⟨z1, z2, add_lst (size_small (by simp)) ⟨z1, z2, add_lst (size_small (by simp)) (hR _ (fun d hd => ?_) (by simp))⟩⟩⟩
          simp only [List.mem_append, List.mem_cons, List.not_mem_nil, or_false] at hd
          rcases hd with (((rfl | rfl | rfl | rfl | rfl | rfl | rfl) | (rfl | rfl | rfl | rfl)) | (rfl | rfl | rfl)) | (rfl | rfl | rfl | rfl)
          · exact ⟨rfl, by rintro d ⟨xs, e, _⟩; (cases e), rfl⟩
          · refine ⟨bD, ?_, ?_⟩
            · rintro d ⟨xs, e, hd⟩
              cases e
              obtain ⟨q, rfl⟩ := fD d hd
              show 2 ≤ 1000
              decide
            · match DD, fD with
              | [], _ => rfl
              | [a], _ => rfl
              | a :: b :: c :: r, _ => rfl
              | [a, b], fD =>
                obtain ⟨q, rfl⟩ := fD a (by simp)
                exact pair_fst (d := .int q.1) (by simp) (.inl rfl)
          · refine ⟨?_, ?_, rfl⟩
            · exact (bsL_iff (xs := [.tup DD, .tup RR])).mpr fun e he => by
                simp only [List.mem_cons, List.not_mem_nil, or_false] at he
                rcases he with rfl | rfl
                · exact bD
                · exact bR
            · rintro d ⟨xs, e, _⟩
              cases e
          · refine ⟨bs_t fun e he => by rw [List.mem_singleton.mp he]; exact bD, ?_, rfl⟩
            rintro d ⟨xs, e, hd⟩
            cases e
            rw [List.mem_singleton.mp hd]
            exact lD
          · refine ⟨bs_t fun e he => ?_, ?_, rfl⟩
            · simp only [List.mem_cons, List.not_mem_nil, or_false] at he
              rcases he with rfl | rfl | rfl
              · exact bD
              · exact bR
              · rfl
            · rintro d ⟨xs, e, hd⟩
              cases e
              simp only [List.mem_cons, List.not_mem_nil, or_false] at hd
              rcases hd with rfl | rfl | rfl
              · exact lD
              · exact lR
              · decide
          · exact bad_pair rfl bR (by decide) lR rfl
          · exact bad_pair ((bsL_iff (xs := DD)).mpr bd) bR (by show 0 ≤ 1000; decide) lR rfl
          · exact bad_pair bD ((bsL_iff (xs := RR)).mpr br) lD (by show 0 ≤ 1000; decide) rfl
          · exact bad_pair bD rfl lD (by decide) rfl
          · exact bad_pair (app bd rfl) bR (lapp ld) lR (pair_fst (d := .int 1) (by simp) (.inl rfl))
          · exact bad_pair bD (app br (by decide +kernel)) lD (lapp lr) (pair_snd (d := .tup [.int 2, .int 4]) (by simp) (.inl (by decide +kernel)))
          · exact bad_pair (app bd (two gb rfl)) bR (lapp ld) lR (pair_fst (d := .tup [.int greatI, .int 1]) (by simp) (.inr sh1))
          · exact bad_pair bD (app br (two gb2 rfl)) lD (lapp lr) (pair_snd (d := .tup [.int (0 - greatI), .int 1]) (by simp) (.inr sh2))
          · exact bad_pair (bs_t fun e he => by rw [List.mem_singleton.mp he]; exact two rfl gb) rfl (by decide) (by decide) (pair_fst (d := .tup [.int 1, .int greatI]) (by simp) (.inr sh3))
          · exact bad_pair (app bd rfl) bR (lapp ld) lR (pair_fst (d := .tup [.bl true, .int 1]) (by simp) (.inl rfl))
          · exact bad_pair bD (app br rfl) lD (lapp lr) (pair_snd (d := .tup [.int 1, .int 0]) (by simp) (.inl (by decide +kernel)))
          · exact ⟨rfl, by rintro d ⟨xs, e, _⟩; (cases e), rfl⟩
          · exact ⟨rfl, by rintro d ⟨xs, e, _⟩; (cases e), rfl⟩
        · intro N hN
          simp only [wFor, iRg1, wC]
          refine ⟨10, rfl, by decide, by decide, ?_⟩
          refine lp_ix _ (fun i env' G' => (∃ u, env' = [some (.tup [.tup (Ds.map frI), .tup (Rs.map frI)]), some (.tup (Ds.map frI)), some (.tup (Rs.map frI)), some (.int ((10 ^ (60 * i) : Nat) : Int)), u, none]) ∧ G' = G2) (fun _ _ _ _ => trivial) ?_ ?_ _ _ ⟨⟨none, rfl⟩, rfl⟩
          · rintro i d hd env' G3 N2 ⟨⟨u, rfl⟩, e3⟩ hN2
            subst e3
            have hi : i < 10 := by
              have := (List.getElem?_eq_some_iff.mp hd).1
              rwa [List.length_map, List.length_range] at this
            simp only [wExpr, wRaise, gSb, wSeq, wNext, wRet, wRetN, wExpr, wIfS, wSet, wAsg, wPar, wAug, w1, w2, wA, aNil, aCons, wVar, wVarT, wC, tOfW, w3c, wAnd, wOr, wNot, tAnd3, tOr3, tNot3, wIf, wTup, wLst, wLstO, wCall, wSl, pNone, pSome, wipe3, List.map_cons, List.map_nil, fI2, fI2C, fI1, fAbs, addI, mulI, intI, eqS, neS, isN_, notN_, L3.isNon, gN, gsN, gsC, gT, asT, at3, List.set_cons_zero, List.set_cons_succ, Option.some.injEq, exists_eq_left', D.bl.injEq, D.int.injEq, D.tup.injEq, List.length_cons, List.length_nil, Nat.reduceAdd, true_and, if_true, if_false, Bool.false_eq_true, reduceIte, ite_true, ite_false, len_t0, len_t1, len_t2, len_t3, len_l0, len_l1, eqI, neI, Int.reduceBEq, Int.reduceLT, Int.reduceLE, Int.reduceNeg, decide_true, decide_false, Bool.not_true, Bool.not_false, ix0, ix1, ix2, and_true, and_self, cp]
            have b1 : Bd ((10 ^ (60 * i) : Nat) : Int) := six_bd (by rw [Int.natAbs_natCast]; exact Nat.pow_lt_pow_right (by decide) (by omega))
            have e60 : ((10 : Int) ^ (Int.toNat 60)) = ((10 ^ 60 : Nat) : Int) := by decide +kernel
            have b2 : Bd ((10 ^ 60 : Nat) : Int) := six_bd (by rw [Int.natAbs_natCast]; exact Nat.pow_lt_pow_right (by decide) (by omega))
            rw [e60]
            refine ⟨b1.mul b2, ?_⟩
            have em : ((10 ^ (60 * i) : Nat) : Int) * ((10 ^ 60 : Nat) : Int) = ((10 ^ (60 * (i + 1)) : Nat) : Int) := by
              rw [← Int.natCast_mul, ← Nat.pow_add]
              rfl
            rw [em]
            exact hN2 _ _ ⟨⟨_, rfl⟩, rfl⟩
          · rintro env' G3 ⟨⟨u, rfl⟩, e3⟩
            subst e3
            have el : 60 * ((List.range (Int.toNat 10)).map fun i : Nat => D.int (0 + i)).length = 600 := by
              rw [List.length_map, List.length_range]
              rfl
            rw [el]
            exact hN _ _ ⟨u, rfl, rfl⟩
      · intro N hN
        simp only [wExpr, wRaise, gSb, wSeq, wNext, wRet, wRetN, wExpr, wIfS, wSet, wAsg, wPar, wAug, w1, w2, wA, aNil, aCons, wVar, wVarT, wC, tOfW, w3c, wAnd, wOr, wNot, tAnd3, tOr3, tNot3, wIf, wTup, wLst, wLstO, wCall, wSl, pNone, pSome, wipe3, List.map_cons, List.map_nil, fI2, fI2C, fI1, fAbs, addI, mulI, intI, eqS, neS, isN_, notN_, L3.isNon, gN, gsN, gsC, gT, asT, at3, List.set_cons_zero, List.set_cons_succ, Option.some.injEq, exists_eq_left', D.bl.injEq, D.int.injEq, D.tup.injEq, List.length_cons, List.length_nil, Nat.reduceAdd, true_and, if_true, if_false, Bool.false_eq_true, reduceIte, ite_true, ite_false, len_t0, len_t1, len_t2, len_t3, len_l0, len_l1, eqI, neI, Int.reduceBEq, Int.reduceLT, Int.reduceLE, Int.reduceNeg, decide_true, decide_false, Bool.not_true, Bool.not_false, ix0, ix1, ix2, and_true, and_self]
        exact hN _ _ ⟨rfl, rfl⟩
    · intro N hN
      simp only [wExpr, wRaise, gSb, wSeq, wNext, wRet, wRetN, wExpr, wIfS, wSet, wAsg, wPar, wAug, w1, w2, wA, aNil, aCons, wVar, wVarT, wC, tOfW, w3c, wAnd, wOr, wNot, tAnd3, tOr3, tNot3, wIf, wTup, wLst, wLstO, wCall, wSl, pNone, pSome, wipe3, List.map_cons, List.map_nil, fI2, fI2C, fI1, fAbs, addI, mulI, intI, eqS, neS, isN_, notN_, L3.isNon, gN, gsN, gsC, gT, asT, at3, List.set_cons_zero, List.set_cons_succ, Option.some.injEq, exists_eq_left', D.bl.injEq, D.int.injEq, D.tup.injEq, List.length_cons, List.length_nil, Nat.reduceAdd, true_and, if_true, if_false, Bool.false_eq_true, reduceIte, ite_true, ite_false, len_t0, len_t1, len_t2, len_t3, len_l0, len_l1, eqI, neI, Int.reduceBEq, Int.reduceLT, Int.reduceLE, Int.reduceNeg, decide_true, decide_false, Bool.not_true, Bool.not_false, ix0, ix1, ix2, and_true, and_self]
      exact hN _ _ ⟨rfl, rfl⟩
end

end K69

set_option Elab.async false
set_option linter.all false
set_option maxRecDepth 100000
set_option maxHeartbeats 0
namespace K69
open PySem PySem.Spec L2 L3
open PyProof.Rows hiding St
theorem rd_t {xs : List D} (h : ∀ d ∈ xs, rdD d = true) : rdD (.tup xs) = true := rdDL_iff.mpr h
theorem isD_t {n : Nat} {xs : List D} (hl : xs.length ≤ 1000) (h : ∀ d ∈ xs, isD n d = true) : isD (n + 1) (.tup xs) = true := by
  show (decide (xs.length ≤ 1000) && xs.all (isD n)) = true
  rw [Bool.and_eq_true, decide_eq_true_eq, List.all_eq_true]
  exact ⟨hl, h⟩
theorem each_of {α : Type} {Pr : D → Prop} : ∀ {l : List α} {ys : List D}, EachR (fun _ y => Pr y) l ys → ys.length = l.length ∧ ∀ y ∈ ys, Pr y
  | [], [], _ => ⟨rfl, fun y hy => by cases hy⟩
  | [], y :: ys, h => by cases h
  | d :: l, [], h => by cases h
  | d :: l, y :: ys, ⟨h1, h2⟩ => by
    obtain ⟨k1, k2⟩ := each_of h2
    refine ⟨by rw [List.length_cons, List.length_cons, k1], fun z hz => ?_⟩
    rcases List.mem_cons.mp hz with e | e
    · rw [e]; exact h1
    · exact k2 z e
/-- a list given by a call, each of whose things answers True -/
theorem wLcAll {it : I3} {g : G3} {te : W3} {env env' : Env3} {G : GH} {R : K3} {Ex : X3} {vs : List Nat} (Ok : D → Prop) (I : GH → Prop) (he : wipe3 env vs = env')
    (hit : ∀ Kt : List D → (GH → Prop) → GH → Prop, (∀ ds st G1, (∀ d ∈ ds, Ok d) → ds.length ≤ 1000 → (∀ G', st G') → I G1 → Kt ds st G1) → it env G Kt Ex)
    (step : ∀ d, Ok d → ∀ (G1 : GH) (Q : K3), Q (.bl true) G1 → g d env' G1 fun env2 G2 => te env2 G2 Q noX)
    (fin : ∀ G1, I G1 → R (.bl true) G1) : wLc it g tYes3 te vs env G (fun x G1 => fAll [x] G1 R) Ex := by
  refine hit _ fun ds st G1 hd hl hst hI => ?_
  rw [he]
  intro q hq
  have e : fAll [.lst (ds.map fun _ => D.bl true)] G1 R := by
    rw [all_lst trues, all_trues]
    exact fin _ hI
  exact lcm (R := fun x G1 => fAll [x] G1 R) (fun _ => .bl true) (fun G' _ => hst G') (size_small (by omega)) (fun d hx p acc Q _ hQ => step d (hd d hx) _ _ hQ) e q hq
/-- a list drawn whose walk is drawn itself -/
theorem wLcDr {α : Type} {it : I3} {g : G3} {te : W3} {env env' : Env3} {G : GH} {R : K3} {Ex : X3} {vs : List Nat} {p : Addr} (h : α → D) (Ok : List α → Prop) (Pr : α → D → Prop) (he : wipe3 env vs = env') (hl : ∀ l, Ok l → l.length ≤ 1000000)
    (hit : ∀ Kt : List D → (GH → Prop) → GH → Prop, (∀ l G1, Ok l → HandOk G1 p → Kt (l.map h) (fun _ => True) G1) → it env G Kt Ex)
    (step : ∀ (d : α) (G1 : GH) (Q : K3), HandOk G1 p → (∀ y G', Pr d y → HandOk G' p → Apart p G1 G' → Q y G') → g (h d) env' G1 fun env2 G2 => te env2 G2 Q noX)
    (fin : ∀ l ys G', Ok l → EachR Pr l ys → HandOk G' p → R (.lst ys) G') : wLc it g tYes3 te vs env G R Ex := by
  refine hit _ fun l G1 ok hH => ?_
  rw [he]
  intro q hq
  have hqp : q ≠ p := hH.ne hq
  refine lcD h Pr hq hqp (fun _ _ _ => trivial) l [] _ (hH.new hqp) ((Apart.refl).new hq) gset_same (fun d hd acc G1 Q h1 h2 h3 => step d G1 Q h1) (by simpa using size_small (hl l ok)) fun ys G' hy h1 h2 h3 => ?_
  rw [List.nil_append]
  exact fin l ys _ ok hy (h1.del hqp)
theorem qs_of : ∀ {ys : List D}, (∀ y ∈ ys, FOk y) → ∃ qs : List Fr, ys = qs.map frI ∧ ∀ q ∈ qs, QOk q
  | [], _ => ⟨[], rfl, fun q h => by cases h⟩
  | y :: ys, h => by
    obtain ⟨q, e, hq⟩ := h y List.mem_cons_self
    obtain ⟨qs, e2, hqs⟩ := qs_of fun z hz => h z (List.mem_cons_of_mem _ hz)
    exact ⟨q :: qs, by rw [e, e2]; rfl, fun z hz => by
      rcases List.mem_cons.mp hz with e | e
      · rw [e]; exact hq
      · exact hqs z e⟩
section
variable {P : Program} {w : World} {K : PySem.W.Frag} {mg : Str → Option Value} {base : Heap}
def S_law : SP3 := fun ds G R _ => match ds with
  | [x] => ∃ ns : List Int, x = .lsx (ns.map D.int) ∧ ns.length ≤ 4000 ∧ ∀ G', R (.bl true) G'
  | _ => False
theorem ok_law (T : Tx K mg) : Good P w K mg base "law" ["script"] 10 S_law := by
  have g__law_hand := ok_hand (P := P) (w := w) (base := base) T
  have g__law_draw := ok_draw (P := P) (w := w) (base := base) T
  have g__law_fraction := ok_fraction (P := P) (w := w) (base := base) T
  have g__law_text := ok_ltext (P := P) (w := w) (base := base) T
  have g__law_told := ok_told (P := P) (w := w) (base := base) T
  have g__law_written := ok_written (P := P) (w := w) (base := base) T
  have g__law_is := ok_is (P := P) (w := w) (base := base) T 4
  have g__law_wrong_texts := ok_wt (P := P) (w := w) (base := base) T
  have g__law_wrong_plans := ok_wp (P := P) (w := w) (base := base) T
  refine good_of (d_law T) sc_law fun f cd A outer s H E hp tk hgd hr => ⟨_, (s_cons (s_set 1 sc_law.nd rfl (.inr rfl) rfl (c_call g__law_hand (hr.mono (by omega)) hgd tk (a_cons (c_var 0) a_nil)))
      (s_cons (s_for hp rfl (i_rg1 (n_range T) c_int) (g_name 2 sc_law.nd rfl (.inl rfl)) (s_cons (s_set 3 sc_law.nd rfl (.inl rfl) rfl (c_callT call_tuple_of lift_tuple (n_tuple T) (a_cons (c_lc [("at", 6)] rfl sc_law.nd (i_rg1 (n_range T) (c_op op_add3 lift_add c_int (c_call g__law_draw (hr.mono (by omega)) hgd tk (a_cons (c_var 1) (a_cons c_int a_nil))))) (blkOk_by (by kernel_rfl)) (by decide) (fun _ _ _ _ _ => (g_name 6 sc_law.nd rfl (.inl rfl))) (fun _ _ _ _ _ => ts_nil) (fun _ _ _ _ _ => (c_call g__law_fraction (hr.mono (by omega)) hgd takes0 (a_cons (c_var 1) a_nil)))) a_nil)))
      (s_cons (s_set 4 sc_law.nd rfl (.inl rfl) rfl (c_tup (a_cons (c_var 3) (a_cons (c_callT call_tuple_of lift_tuple (n_tuple T) (a_cons (c_lc [("at", 6)] rfl sc_law.nd (i_rg1 (n_range T) (c_call g__law_draw (hr.mono (by omega)) hgd tk (a_cons (c_var 1) (a_cons c_int a_nil)))) (blkOk_by (by kernel_rfl)) (by decide) (fun _ _ _ _ _ => (g_name 6 sc_law.nd rfl (.inl rfl))) (fun _ _ _ _ _ => ts_nil) (fun _ _ _ _ _ => (c_call g__law_fraction (hr.mono (by omega)) hgd takes0 (a_cons (c_var 1) a_nil)))) a_nil)) a_nil))))
      (s_cons (s_set 5 sc_law.nd rfl (.inl rfl) rfl (c_call g__law_text (hr.mono (by omega)) hgd tk (a_cons (c_var 4) a_nil)))
      (s_cons (s_if (t_w (o_or (t_not (t_val (c_call g__law_is (hr.mono (by omega)) hgd tk (a_cons (c_call g__law_told (hr.mono (by omega)) hgd tk (a_cons (c_var 5) a_nil)) (a_cons (c_var 4) a_nil))))) (o_or1 (t_not (t_val (c_call g__law_is (hr.mono (by omega)) hgd tk (a_cons (c_call g__law_written (hr.mono (by omega)) hgd tk (a_cons (c_var 4) a_nil)) (a_cons (c_var 5) a_nil)))))))) (s_one (s_ret c_bl)) s_nil)
      (s_cons (s_if (t_not (t_val (c_call g__law_is (hr.mono (by omega)) hgd tk (a_cons (c_call g__law_told (hr.mono (by omega)) hgd tk (a_cons (c_call g__law_written (hr.mono (by omega)) hgd tk (a_cons (c_var 4) a_nil)) a_nil)) (a_cons (c_var 4) a_nil))))) (s_one (s_ret c_bl)) s_nil)
      (s_cons (s_if (t_not (t_val (c_callB (cr_all rfl) lift_all (n_all T) (a_cons (c_lc [("wrong", 7)] rfl sc_law.nd (i_lst (c_call g__law_wrong_texts (hr.mono (by omega)) hgd tk (a_cons (c_var 1) (a_cons (c_var 4) (a_cons (c_var 5) a_nil))))) (blkOk_by (by kernel_rfl)) (by decide) (fun _ _ _ _ _ => (g_name 7 sc_law.nd rfl (.inl rfl))) (fun _ _ _ _ _ => ts_nil) (fun _ _ _ _ _ => (c_cmp (op_eq3 hr.units) lift_eq (c_call g__law_told (hr.mono (by omega)) hgd takes0 (a_cons (c_var 7) a_nil)) (c_tup (a_cons c_str (a_cons c_int a_nil)))))) a_nil)))) (s_one (s_ret c_bl)) s_nil)
      (s_one (s_if (t_not (t_val (c_callB (cr_all rfl) lift_all (n_all T) (a_cons (c_lc [("wrong", 7)] rfl sc_law.nd (i_lst (c_call g__law_wrong_plans (hr.mono (by omega)) hgd tk (a_cons (c_var 4) a_nil))) (blkOk_by (by kernel_rfl)) (by decide) (fun _ _ _ _ _ => (g_name 7 sc_law.nd rfl (.inl rfl))) (fun _ _ _ _ _ => ts_nil) (fun _ _ _ _ _ => (c_cmp (op_eq3 hr.units) lift_eq (c_call g__law_written (hr.mono (by omega)) hgd takes0 (a_cons (c_var 7) a_nil)) (c_tup (a_cons c_str (a_cons c_int a_nil)))))) a_nil)))) (s_one (s_ret c_bl)) s_nil)))))))))
      (s_one (s_ret (c_callB (cr_all rfl) lift_all (n_all T) (a_cons (c_lc [("thing", 8)] rfl sc_law.nd (i_lst (c_lst (a_cons c_non (a_cons c_int (a_cons (c_lst (a_cons c_str a_nil)) (a_cons c_bl (a_cons (c_tup (a_cons (c_tup a_nil) (a_cons (c_tup a_nil) a_nil))) a_nil))))))) (blkOk_by (by kernel_rfl)) (by decide) (fun _ _ _ _ _ => (g_name 8 sc_law.nd rfl (.inl rfl))) (fun _ _ _ _ _ => ts_nil) (fun _ _ _ _ _ => (c_cmp (op_eq3 hr.units) lift_eq (c_call g__law_told (hr.mono (by omega)) hgd takes0 (a_cons (c_var 8) a_nil)) (c_tup (a_cons c_str (a_cons c_int a_nil)))))) a_nil)))))), fun ds G R Ex hlen hS => ?_⟩
  clear hp tk hgd hr hlen
  match ds, hS with
  | [x], ⟨ns, e, hl, hR⟩ =>
    subst e
    rw [show start3 ["script", "hand", "turn", "draws", "pair", "text", "at", "wrong", "thing"] [.lsx (ns.map D.int)] = [some (.lsx (ns.map D.int)), none, none, none, none, none, none, none, none] from rfl]
    refine seq_cut (fun env' G' => ∃ p, env' = [some (.lsx (ns.map D.int)), some (.ref p), none, none, none, none, none, none, none] ∧ HandOk G' p) ?_ ?_
    · rintro env' G1 ⟨p, rfl, hH1⟩
      refine seq_cut (fun env' G' => (∃ u2 u3 u4 u5 u6 u7 u8, env' = [some (.lsx (ns.map D.int)), some (.ref p), u2, u3, u4, u5, u6, u7, u8]) ∧ HandOk G' p) ?_ ?_
      · rintro env' G2 ⟨⟨u2, u3, u4, u5, u6, u7, u8, rfl⟩, hH2⟩
        simp only [wExpr, wRaise, gSb, wSeq, wNext, wRet, wRetN, wExpr, wIfS, wSet, wAsg, wPar, wAug, w1, w2, wA, aNil, aCons, wVar, wVarT, wC, tOfW, w3c, wAnd, wOr, wNot, tAnd3, tOr3, tNot3, wIf, wTup, wLst, wLstO, wCall, wSl, pNone, pSome, wipe3, List.map_cons, List.map_nil, fI2, fI2C, fI1, fAbs, addI, mulI, intI, eqS, neS, isN_, notN_, L3.isNon, gN, gsN, gsC, gT, asT, at3, List.set_cons_zero, List.set_cons_succ, Option.some.injEq, exists_eq_left', D.bl.injEq, D.int.injEq, D.tup.injEq, List.length_cons, List.length_nil, Nat.reduceAdd, true_and, if_true, if_false, Bool.false_eq_true, reduceIte, ite_true, ite_false, len_t0, len_t1, len_t2, len_t3, len_l0, len_l1, eqI, neI, Int.reduceBEq, Int.reduceLT, Int.reduceLE, Int.reduceNeg, decide_true, decide_false, Bool.not_true, Bool.not_false, ix0, ix1, ix2, and_true, and_self]
        have same : ∀ (G' : GH) (Q : K3), Q (.bl true) G' → fEq (.tup [.str "text", .int 0]) (.tup [.str "text", .int 0]) G' Q := fun G' Q q => eq_same (fun _ z => by cases z) (by decide +kernel) (by decide +kernel) q
        refine wLc_it (ds := [D.non, .int 0, .lst [.str "draw 1 dry"], .bl true, .tup [.tup [], .tup []]]) (fun _ => .bl true) rfl (sizeLine_eq ▸ (by decide)) (fun Kt hK => ?_) ?_ ?_
        · simp only [wExpr, wRaise, gSb, wSeq, wNext, wRet, wRetN, wExpr, wIfS, wSet, wAsg, wPar, wAug, w1, w2, wA, aNil, aCons, wVar, wVarT, wC, tOfW, w3c, wAnd, wOr, wNot, tAnd3, tOr3, tNot3, wIf, wTup, wLst, wLstO, wCall, wSl, pNone, pSome, wipe3, List.map_cons, List.map_nil, fI2, fI2C, fI1, fAbs, addI, mulI, intI, eqS, neS, isN_, notN_, L3.isNon, gN, gsN, gsC, gT, asT, at3, List.set_cons_zero, List.set_cons_succ, Option.some.injEq, exists_eq_left', D.bl.injEq, D.int.injEq, D.tup.injEq, List.length_cons, List.length_nil, Nat.reduceAdd, true_and, if_true, if_false, Bool.false_eq_true, reduceIte, ite_true, ite_false, len_t0, len_t1, len_t2, len_t3, len_l0, len_l1, eqI, neI, Int.reduceBEq, Int.reduceLT, Int.reduceLE, Int.reduceNeg, decide_true, decide_false, Bool.not_true, Bool.not_false, ix0, ix1, ix2, and_true, and_self, iLst]
          exact ⟨sizeLine_eq ▸ (by decide), Nat.zero_le _, Nat.zero_le _, sizeLine_eq ▸ (by decide), sizeLine_eq ▸ (by decide), _, rfl, hK _ fun _ _ => trivial⟩
        · intro d hd q acc Q hq hQ
          simp only [wExpr, wRaise, gSb, wSeq, wNext, wRet, wRetN, wExpr, wIfS, wSet, wAsg, wPar, wAug, w1, w2, wA, aNil, aCons, wVar, wVarT, wC, tOfW, w3c, wAnd, wOr, wNot, tAnd3, tOr3, tNot3, wIf, wTup, wLst, wLstO, wCall, wSl, pNone, pSome, wipe3, List.map_cons, List.map_nil, fI2, fI2C, fI1, fAbs, addI, mulI, intI, eqS, neS, isN_, notN_, L3.isNon, gN, gsN, gsC, gT, asT, at3, List.set_cons_zero, List.set_cons_succ, Option.some.injEq, exists_eq_left', D.bl.injEq, D.int.injEq, D.tup.injEq, List.length_cons, List.length_nil, Nat.reduceAdd, true_and, if_true, if_false, Bool.false_eq_true, reduceIte, ite_true, ite_false, len_t0, len_t1, len_t2, len_t3, len_l0, len_l1, eqI, neI, Int.reduceBEq, Int.reduceLT, Int.reduceLE, Int.reduceNeg, decide_true, decide_false, Bool.not_true, Bool.not_false, ix0, ix1, ix2, and_true, and_self, S_told]
          refine .inr ⟨?_, ?_, sizeLine_eq ▸ (by decide), same _ _ hQ⟩
          · simp only [List.mem_cons, List.not_mem_nil, or_false] at hd
            rcases hd with rfl | rfl | rfl | rfl | rfl <;> rfl
          · intro s e
            subst e
            simp only [List.mem_cons, List.not_mem_nil, or_false] at hd
            rcases hd with e | e | e | e | e <;> cases e
        · rw [all_lst (bs := [true, true, true, true, true]) rfl]
          exact hR _
      · intro N hN
        simp only [wFor, iRg1, wC]
        refine ⟨3, rfl, by decide, by decide, ?_⟩
        refine lp_in (fun env' G' => (∃ u2 u3 u4 u5 u6 u7 u8, env' = [some (.lsx (ns.map D.int)), some (.ref p), u2, u3, u4, u5, u6, u7, u8]) ∧ HandOk G' p) (fun _ _ _ => trivial) _ ?_ ?_ _ _ ⟨⟨_, _, _, _, _, _, _, rfl⟩, hH1⟩
        · rintro tn htn env' G3 N2 ⟨⟨u2, u3, u4, u5, u6, u7, u8, rfl⟩, hH3⟩ hN2
          simp only [gN, List.set_cons_zero, List.set_cons_succ]
          refine seq_cut (fun env' G' => ∃ Ds : List Fr, Ds ≠ [] ∧ Ds.length ≤ 6 ∧ (∀ q ∈ Ds, QOk q) ∧ env' = [some (.lsx (ns.map D.int)), some (.ref p), some tn, some (.tup (Ds.map frI)), u4, u5, u6, u7, u8] ∧ HandOk G' p) ?_ ?_
          · rintro env' G4 ⟨Ds, d0, dl, dq, rfl, hH4⟩
            refine seq_cut (fun env' G' => ∃ Rs : List Fr, Pl Ds Rs ∧ env' = [some (.lsx (ns.map D.int)), some (.ref p), some tn, some (.tup (Ds.map frI)), some (.tup [.tup (Ds.map frI), .tup (Rs.map frI)]), u5, u6, u7, u8] ∧ HandOk G' p) ?_ ?_
            · rintro env' G5 ⟨Rs, hp, rfl, hH5⟩
              refine seq_cut (fun env' G' => env' = [some (.lsx (ns.map D.int)), some (.ref p), some tn, some (.tup (Ds.map frI)), some (.tup [.tup (Ds.map frI), .tup (Rs.map frI)]), some (.str (Sg (planL Ds Rs))), u6, u7, u8] ∧ G' = G5) ?_ ?_
              · rintro env' G6 ⟨rfl, e6⟩
                subst e6
                have same : ∀ (s : Str) (hs : s = "text" ∨ s = "plan") (G' : GH) (Q : K3), Q (.bl true) G' → fEq (.tup [.str s, .int 0]) (.tup [.str s, .int 0]) G' Q := fun s hs G' Q q => by
                  rcases hs with rfl | rfl
                  · exact eq_same (fun _ z => by cases z) (by decide +kernel) (by decide +kernel) q
                  · exact eq_same (fun _ z => by cases z) (by decide +kernel) (by decide +kernel) q
                have dl := hp.dl
                have rl := hp.rl
                have frd : ∀ {qs : List Fr}, ∀ d ∈ qs.map frI, rdD d = true := fun {qs} d hd => by
                  obtain ⟨q, _, rfl⟩ := List.mem_map.mp hd
                  rfl
                have fid : ∀ {qs : List Fr}, ∀ d ∈ qs.map frI, isD 2 d = true := fun {qs} d hd => by
                  obtain ⟨q, _, rfl⟩ := List.mem_map.mp hd
                  rfl
                have prd : rdD (.tup [.tup (Ds.map frI), .tup (Rs.map frI)]) = true := rd_t fun d hd => by
                  simp only [List.mem_cons, List.not_mem_nil, or_false] at hd
                  rcases hd with rfl | rfl
                  · exact rd_t frd
                  · exact rd_t frd
                have pid : isD 4 (.tup [.tup (Ds.map frI), .tup (Rs.map frI)]) = true := isD_t (by simp only [List.length_cons, List.length_nil]; decide) fun d hd => by
                  simp only [List.mem_cons, List.not_mem_nil, or_false] at hd
                  rcases hd with rfl | rfl
                  · exact isD_t (by rw [List.length_map]; omega) fid
                  · exact isD_t (by rw [List.length_map]; omega) fid
                have pbs : bsD (.tup [.tup (Ds.map frI), .tup (Rs.map frI)]) = true := bs_t fun d hd => by
                  simp only [List.mem_cons, List.not_mem_nil, or_false] at hd
                  rcases hd with rfl | rfl
                  · exact bs_t hp.bsd
                  · exact bs_t hp.bsr
                have plen : ∀ d, (∃ xs, D.tup [.tup (Ds.map frI), .tup (Rs.map frI)] = .tup xs ∧ d ∈ xs) → lenN d ≤ 1000 := by
                  rintro d ⟨xs, e, hd⟩
                  cases e
                  simp only [List.mem_cons, List.not_mem_nil, or_false] at hd
                  rcases hd with rfl | rfl
                  · show (Ds.map frI).length ≤ _
                    rw [List.length_map]
                    omega
                  · show (Rs.map frI).length ≤ _
                    rw [List.length_map]
                    omega
                have told : ∀ (G' : GH) (R' : K3) (Ex' : X3), R' (.tup [.tup (Ds.map frI), .tup (Rs.map frI)]) G' → S_told [.str (Sg (planL Ds Rs))] G' R' Ex' := fun G' R' Ex' q => by
                  refine .inl ⟨_, rfl, by have := hp.len; omega, by rw [spl_plan hp.dq hp.rq]; have := hp.wl; omega, fun z hz => ?_, fun hz => ?_⟩
                  · rw [spl_plan hp.dq hp.rq, pl_plan hp.d0 hp.dq hp.rq] at hz
                    cases hz
                    rw [plD_plan]
                    exact q
                  · rw [spl_plan hp.dq hp.rq, pl_plan hp.d0 hp.dq hp.rq] at hz
                    cases hz
                have writ : ∀ (G' : GH) (R' : K3) (Ex' : X3), R' (.str (Sg (planL Ds Rs))) G' → S_written [.tup [.tup (Ds.map frI), .tup (Rs.map frI)]] G' R' Ex' := fun G' R' Ex' q => by
                  refine ⟨pbs, plen, fun hz => ?_, fun D2 R2 e2 _ hD2 hR2 => ?_⟩
                  · rw [hp.good] at hz
                    cases hz
                  · have inj : ∀ {a b : List Fr}, a.map frI = b.map frI → a = b := by
                      intro a
                      induction a with
                      | nil =>
                        intro b h
                        cases b with
                        | nil => rfl
                        | cons c b => cases h
                      | cons c a ih =>
                        intro b h
                        cases b with
                        | nil => cases h
                        | cons d b =>
                          rw [List.map_cons, List.map_cons] at h
                          obtain ⟨h1, h2⟩ := List.cons.inj h
                          have e3 : c = d := by
                            have h3 := D.tup.inj h1
                            obtain ⟨h4, h5⟩ := List.cons.inj h3
                            obtain ⟨h6, _⟩ := List.cons.inj h5
                            exact Prod.ext (D.int.inj h4) (D.int.inj h6)
                          rw [e3, ih h2]
                    have h3 := D.tup.inj e2
                    obtain ⟨h4, h5⟩ := List.cons.inj h3
                    obtain ⟨h6, _⟩ := List.cons.inj h5
                    have e3 := inj (D.tup.inj h4)
                    have e4 := inj (D.tup.inj h6)
                    subst e3 e4
                    exact q
                refine seq_cut (fun env' G' => env' = [some (.lsx (ns.map D.int)), some (.ref p), some tn, some (.tup (Ds.map frI)), some (.tup [.tup (Ds.map frI), .tup (Rs.map frI)]), some (.str (Sg (planL Ds Rs))), u6, u7, u8] ∧ G' = G6) ?_ ?_
                · rintro env' G7 ⟨rfl, e7⟩
                  subst e7
                  refine seq_cut (fun env' G' => env' = [some (.lsx (ns.map D.int)), some (.ref p), some tn, some (.tup (Ds.map frI)), some (.tup [.tup (Ds.map frI), .tup (Rs.map frI)]), some (.str (Sg (planL Ds Rs))), u6, u7, u8] ∧ G' = G7) ?_ ?_
                  · rintro env' G8 ⟨rfl, e8⟩
                    subst e8
                    refine seq_cut (fun env' G' => env' = [some (.lsx (ns.map D.int)), some (.ref p), some tn, some (.tup (Ds.map frI)), some (.tup [.tup (Ds.map frI), .tup (Rs.map frI)]), some (.str (Sg (planL Ds Rs))), u6, u7, u8] ∧ HandOk G' p) ?_ ?_
                    · rintro env' G9 ⟨rfl, hH9⟩
                      simp only [wExpr, wRaise, gSb, wSeq, wNext, wRet, wRetN, wExpr, wIfS, wSet, wAsg, wPar, wAug, w1, w2, wA, aNil, aCons, wVar, wVarT, wC, tOfW, w3c, wAnd, wOr, wNot, tAnd3, tOr3, tNot3, wIf, wTup, wLst, wLstO, wCall, wSl, pNone, pSome, wipe3, List.map_cons, List.map_nil, fI2, fI2C, fI1, fAbs, addI, mulI, intI, eqS, neS, isN_, notN_, L3.isNon, gN, gsN, gsC, gT, asT, at3, List.set_cons_zero, List.set_cons_succ, Option.some.injEq, exists_eq_left', D.bl.injEq, D.int.injEq, D.tup.injEq, List.length_cons, List.length_nil, Nat.reduceAdd, true_and, if_true, if_false, Bool.false_eq_true, reduceIte, ite_true, ite_false, len_t0, len_t1, len_t2, len_t3, len_l0, len_l1, eqI, neI, Int.reduceBEq, Int.reduceLT, Int.reduceLE, Int.reduceNeg, decide_true, decide_false, Bool.not_true, Bool.not_false, ix0, ix1, ix2, and_true, and_self]
                      refine wLcAll BadP (fun G' => HandOk G' p) rfl (fun Kt hK => ?_) ?_ ?_
                      · simp only [wExpr, wRaise, gSb, wSeq, wNext, wRet, wRetN, wExpr, wIfS, wSet, wAsg, wPar, wAug, w1, w2, wA, aNil, aCons, wVar, wVarT, wC, tOfW, w3c, wAnd, wOr, wNot, tAnd3, tOr3, tNot3, wIf, wTup, wLst, wLstO, wCall, wSl, pNone, pSome, wipe3, List.map_cons, List.map_nil, fI2, fI2C, fI1, fAbs, addI, mulI, intI, eqS, neS, isN_, notN_, L3.isNon, gN, gsN, gsC, gT, asT, at3, List.set_cons_zero, List.set_cons_succ, Option.some.injEq, exists_eq_left', D.bl.injEq, D.int.injEq, D.tup.injEq, List.length_cons, List.length_nil, Nat.reduceAdd, true_and, if_true, if_false, Bool.false_eq_true, reduceIte, ite_true, ite_false, len_t0, len_t1, len_t2, len_t3, len_l0, len_l1, eqI, neI, Int.reduceBEq, Int.reduceLT, Int.reduceLE, Int.reduceNeg, decide_true, decide_false, Bool.not_true, Bool.not_false, ix0, ix1, ix2, and_true, and_self, iLst, S_wp]
                        exact ⟨Ds, Rs, rfl, hp, fun ds hd hl => ⟨_, rfl, hK _ _ _ hd (by omega) (fun _ => trivial) hH9⟩⟩
                      · rintro d ⟨hb, hl, hf⟩ G1 Q hQ
                        simp only [wExpr, wRaise, gSb, wSeq, wNext, wRet, wRetN, wExpr, wIfS, wSet, wAsg, wPar, wAug, w1, w2, wA, aNil, aCons, wVar, wVarT, wC, tOfW, w3c, wAnd, wOr, wNot, tAnd3, tOr3, tNot3, wIf, wTup, wLst, wLstO, wCall, wSl, pNone, pSome, wipe3, List.map_cons, List.map_nil, fI2, fI2C, fI1, fAbs, addI, mulI, intI, eqS, neS, isN_, notN_, L3.isNon, gN, gsN, gsC, gT, asT, at3, List.set_cons_zero, List.set_cons_succ, Option.some.injEq, exists_eq_left', D.bl.injEq, D.int.injEq, D.tup.injEq, List.length_cons, List.length_nil, Nat.reduceAdd, true_and, if_true, if_false, Bool.false_eq_true, reduceIte, ite_true, ite_false, len_t0, len_t1, len_t2, len_t3, len_l0, len_l1, eqI, neI, Int.reduceBEq, Int.reduceLT, Int.reduceLE, Int.reduceNeg, decide_true, decide_false, Bool.not_true, Bool.not_false, ix0, ix1, ix2, and_true, and_self, S_written]
                        exact ⟨hb, hl, fun _ => ⟨sizeLine_eq ▸ (by decide), same "plan" (.inr rfl) _ _ hQ⟩, fun D2 R2 _ e2 => by rw [hf] at e2; cases e2⟩
                      · intro G1 h1
                        refine ⟨true, rfl, ?_⟩
                        rw [if_neg (by decide)]
                        exact hN2 _ _ ⟨⟨_, _, _, _, _, _, _, rfl⟩, h1⟩
                    · intro N4 hN4
                      simp only [wExpr, wRaise, gSb, wSeq, wNext, wRet, wRetN, wExpr, wIfS, wSet, wAsg, wPar, wAug, w1, w2, wA, aNil, aCons, wVar, wVarT, wC, tOfW, w3c, wAnd, wOr, wNot, tAnd3, tOr3, tNot3, wIf, wTup, wLst, wLstO, wCall, wSl, pNone, pSome, wipe3, List.map_cons, List.map_nil, fI2, fI2C, fI1, fAbs, addI, mulI, intI, eqS, neS, isN_, notN_, L3.isNon, gN, gsN, gsC, gT, asT, at3, List.set_cons_zero, List.set_cons_succ, Option.some.injEq, exists_eq_left', D.bl.injEq, D.int.injEq, D.tup.injEq, List.length_cons, List.length_nil, Nat.reduceAdd, true_and, if_true, if_false, Bool.false_eq_true, reduceIte, ite_true, ite_false, len_t0, len_t1, len_t2, len_t3, len_l0, len_l1, eqI, neI, Int.reduceBEq, Int.reduceLT, Int.reduceLE, Int.reduceNeg, decide_true, decide_false, Bool.not_true, Bool.not_false, ix0, ix1, ix2, and_true, and_self]
                      refine wLcAll BadT (fun G' => HandOk G' p) rfl (fun Kt hK => ?_) ?_ ?_
                      · simp only [wExpr, wRaise, gSb, wSeq, wNext, wRet, wRetN, wExpr, wIfS, wSet, wAsg, wPar, wAug, w1, w2, wA, aNil, aCons, wVar, wVarT, wC, tOfW, w3c, wAnd, wOr, wNot, tAnd3, tOr3, tNot3, wIf, wTup, wLst, wLstO, wCall, wSl, pNone, pSome, wipe3, List.map_cons, List.map_nil, fI2, fI2C, fI1, fAbs, addI, mulI, intI, eqS, neS, isN_, notN_, L3.isNon, gN, gsN, gsC, gT, asT, at3, List.set_cons_zero, List.set_cons_succ, Option.some.injEq, exists_eq_left', D.bl.injEq, D.int.injEq, D.tup.injEq, List.length_cons, List.length_nil, Nat.reduceAdd, true_and, if_true, if_false, Bool.false_eq_true, reduceIte, ite_true, ite_false, len_t0, len_t1, len_t2, len_t3, len_l0, len_l1, eqI, neI, Int.reduceBEq, Int.reduceLT, Int.reduceLE, Int.reduceNeg, decide_true, decide_false, Bool.not_true, Bool.not_false, ix0, ix1, ix2, and_true, and_self, iLst, S_wt]
                        exact ⟨p, Ds, Rs, rfl, rfl, rfl, hp.d0, dl, rl, hp.dq, hp.rq, hH5, fun ds G' hd hl hH => ⟨_, rfl, hK _ _ _ hd hl (fun _ => trivial) hH⟩⟩
                      · rintro d ⟨L, rfl, hl, hw, hn⟩ G1 Q hQ
                        simp only [wExpr, wRaise, gSb, wSeq, wNext, wRet, wRetN, wExpr, wIfS, wSet, wAsg, wPar, wAug, w1, w2, wA, aNil, aCons, wVar, wVarT, wC, tOfW, w3c, wAnd, wOr, wNot, tAnd3, tOr3, tNot3, wIf, wTup, wLst, wLstO, wCall, wSl, pNone, pSome, wipe3, List.map_cons, List.map_nil, fI2, fI2C, fI1, fAbs, addI, mulI, intI, eqS, neS, isN_, notN_, L3.isNon, gN, gsN, gsC, gT, asT, at3, List.set_cons_zero, List.set_cons_succ, Option.some.injEq, exists_eq_left', D.bl.injEq, D.int.injEq, D.tup.injEq, List.length_cons, List.length_nil, Nat.reduceAdd, true_and, if_true, if_false, Bool.false_eq_true, reduceIte, ite_true, ite_false, len_t0, len_t1, len_t2, len_t3, len_l0, len_l1, eqI, neI, Int.reduceBEq, Int.reduceLT, Int.reduceLE, Int.reduceNeg, decide_true, decide_false, Bool.not_true, Bool.not_false, ix0, ix1, ix2, and_true, and_self, S_told]
                        exact .inl ⟨L, rfl, hl, hw, (fun q hq => by rw [hn] at hq; cases hq), fun _ => ⟨sizeLine_eq ▸ (by decide), same "text" (.inl rfl) _ _ hQ⟩⟩
                      · intro G1 h1
                        refine ⟨true, rfl, ?_⟩
                        rw [if_neg (by decide)]
                        exact hN4 _ _ ⟨rfl, h1⟩
                  · intro N4 hN4
                    simp only [wExpr, wRaise, gSb, wSeq, wNext, wRet, wRetN, wExpr, wIfS, wSet, wAsg, wPar, wAug, w1, w2, wA, aNil, aCons, wVar, wVarT, wC, tOfW, w3c, wAnd, wOr, wNot, tAnd3, tOr3, tNot3, wIf, wTup, wLst, wLstO, wCall, wSl, pNone, pSome, wipe3, List.map_cons, List.map_nil, fI2, fI2C, fI1, fAbs, addI, mulI, intI, eqS, neS, isN_, notN_, L3.isNon, gN, gsN, gsC, gT, asT, at3, List.set_cons_zero, List.set_cons_succ, Option.some.injEq, exists_eq_left', D.bl.injEq, D.int.injEq, D.tup.injEq, List.length_cons, List.length_nil, Nat.reduceAdd, true_and, if_true, if_false, Bool.false_eq_true, reduceIte, ite_true, ite_false, len_t0, len_t1, len_t2, len_t3, len_l0, len_l1, eqI, neI, Int.reduceBEq, Int.reduceLT, Int.reduceLE, Int.reduceNeg, decide_true, decide_false, Bool.not_true, Bool.not_false, ix0, ix1, ix2, and_true, and_self]
                    refine writ _ _ _ (told _ _ _ ?_)
                    simp only [S_is]
                    exact ⟨trivial, prd, pid, true, rfl, by rw [if_neg (by decide)]; exact hN4 _ _ ⟨rfl, rfl⟩⟩
                · intro N4 hN4
                  simp only [wExpr, wRaise, gSb, wSeq, wNext, wRet, wRetN, wExpr, wIfS, wSet, wAsg, wPar, wAug, w1, w2, wA, aNil, aCons, wVar, wVarT, wC, tOfW, w3c, wAnd, wOr, wNot, tAnd3, tOr3, tNot3, wIf, wTup, wLst, wLstO, wCall, wSl, pNone, pSome, wipe3, List.map_cons, List.map_nil, fI2, fI2C, fI1, fAbs, addI, mulI, intI, eqS, neS, isN_, notN_, L3.isNon, gN, gsN, gsC, gT, asT, at3, List.set_cons_zero, List.set_cons_succ, Option.some.injEq, exists_eq_left', D.bl.injEq, D.int.injEq, D.tup.injEq, List.length_cons, List.length_nil, Nat.reduceAdd, true_and, if_true, if_false, Bool.false_eq_true, reduceIte, ite_true, ite_false, len_t0, len_t1, len_t2, len_t3, len_l0, len_l1, eqI, neI, Int.reduceBEq, Int.reduceLT, Int.reduceLE, Int.reduceNeg, decide_true, decide_false, Bool.not_true, Bool.not_false, ix0, ix1, ix2, and_true, and_self]
                  refine told _ _ _ ?_
                  simp only [S_is]
                  refine ⟨trivial, prd, pid, true, rfl, ?_⟩
                  rw [if_neg (by decide)]
                  refine writ _ _ _ ⟨rfl, rfl, rfl, true, rfl, ?_⟩
                  rw [if_neg (by decide)]
                  exact hN4 _ _ ⟨rfl, rfl⟩
              · intro N3 hN3
                simp only [wExpr, wRaise, gSb, wSeq, wNext, wRet, wRetN, wExpr, wIfS, wSet, wAsg, wPar, wAug, w1, w2, wA, aNil, aCons, wVar, wVarT, wC, tOfW, w3c, wAnd, wOr, wNot, tAnd3, tOr3, tNot3, wIf, wTup, wLst, wLstO, wCall, wSl, pNone, pSome, wipe3, List.map_cons, List.map_nil, fI2, fI2C, fI1, fAbs, addI, mulI, intI, eqS, neS, isN_, notN_, L3.isNon, gN, gsN, gsC, gT, asT, at3, List.set_cons_zero, List.set_cons_succ, Option.some.injEq, exists_eq_left', D.bl.injEq, D.int.injEq, D.tup.injEq, List.length_cons, List.length_nil, Nat.reduceAdd, true_and, if_true, if_false, Bool.false_eq_true, reduceIte, ite_true, ite_false, len_t0, len_t1, len_t2, len_t3, len_l0, len_l1, eqI, neI, Int.reduceBEq, Int.reduceLT, Int.reduceLE, Int.reduceNeg, decide_true, decide_false, Bool.not_true, Bool.not_false, ix0, ix1, ix2, and_true, and_self, S_ltext]
                exact ⟨Ds, Rs, rfl, by have := hp.dl; omega, by have := hp.rl; omega, hp.dq, hp.rq, hN3 _ _ ⟨rfl, rfl⟩⟩
            · intro N3 hN3
              simp only [wExpr, wRaise, gSb, wSeq, wNext, wRet, wRetN, wExpr, wIfS, wSet, wAsg, wPar, wAug, w1, w2, wA, aNil, aCons, wVar, wVarT, wC, tOfW, w3c, wAnd, wOr, wNot, tAnd3, tOr3, tNot3, wIf, wTup, wLst, wLstO, wCall, wSl, pNone, pSome, wipe3, List.map_cons, List.map_nil, fI2, fI2C, fI1, fAbs, addI, mulI, intI, eqS, neS, isN_, notN_, L3.isNon, gN, gsN, gsC, gT, asT, at3, List.set_cons_zero, List.set_cons_succ, Option.some.injEq, exists_eq_left', D.bl.injEq, D.int.injEq, D.tup.injEq, List.length_cons, List.length_nil, Nat.reduceAdd, true_and, if_true, if_false, Bool.false_eq_true, reduceIte, ite_true, ite_false, len_t0, len_t1, len_t2, len_t3, len_l0, len_l1, eqI, neI, Int.reduceBEq, Int.reduceLT, Int.reduceLE, Int.reduceNeg, decide_true, decide_false, Bool.not_true, Bool.not_false, ix0, ix1, ix2, and_true, and_self]
              refine wLcDr (p := p) (fun i : Nat => D.int (0 + i)) (fun l => l.length ≤ 6) (fun _ y => FOk y) rfl (fun l h => by omega) (fun Kt hK => ?_) ?_ ?_
              · simp only [wExpr, wRaise, gSb, wSeq, wNext, wRet, wRetN, wExpr, wIfS, wSet, wAsg, wPar, wAug, w1, w2, wA, aNil, aCons, wVar, wVarT, wC, tOfW, w3c, wAnd, wOr, wNot, tAnd3, tOr3, tNot3, wIf, wTup, wLst, wLstO, wCall, wSl, pNone, pSome, wipe3, List.map_cons, List.map_nil, fI2, fI2C, fI1, fAbs, addI, mulI, intI, eqS, neS, isN_, notN_, L3.isNon, gN, gsN, gsC, gT, asT, at3, List.set_cons_zero, List.set_cons_succ, Option.some.injEq, exists_eq_left', D.bl.injEq, D.int.injEq, D.tup.injEq, List.length_cons, List.length_nil, Nat.reduceAdd, true_and, if_true, if_false, Bool.false_eq_true, reduceIte, ite_true, ite_false, len_t0, len_t1, len_t2, len_t3, len_l0, len_l1, eqI, neI, Int.reduceBEq, Int.reduceLT, Int.reduceLE, Int.reduceNeg, decide_true, decide_false, Bool.not_true, Bool.not_false, ix0, ix1, ix2, and_true, and_self, iRg1, S_draw]
                refine ⟨p, 7, rfl, rfl, hH4, by decide, by decide, fun r G5 r1 r2 hH5 hA5 => ⟨by omega, by omega, ?_⟩⟩
                exact hK (List.range r.toNat) G5 (by rw [List.length_range]; omega) hH5
              · intro i G5 Q hH5 hQ
                simp only [wExpr, wRaise, gSb, wSeq, wNext, wRet, wRetN, wExpr, wIfS, wSet, wAsg, wPar, wAug, w1, w2, wA, aNil, aCons, wVar, wVarT, wC, tOfW, w3c, wAnd, wOr, wNot, tAnd3, tOr3, tNot3, wIf, wTup, wLst, wLstO, wCall, wSl, pNone, pSome, wipe3, List.map_cons, List.map_nil, fI2, fI2C, fI1, fAbs, addI, mulI, intI, eqS, neS, isN_, notN_, L3.isNon, gN, gsN, gsC, gT, asT, at3, List.set_cons_zero, List.set_cons_succ, Option.some.injEq, exists_eq_left', D.bl.injEq, D.int.injEq, D.tup.injEq, List.length_cons, List.length_nil, Nat.reduceAdd, true_and, if_true, if_false, Bool.false_eq_true, reduceIte, ite_true, ite_false, len_t0, len_t1, len_t2, len_t3, len_l0, len_l1, eqI, neI, Int.reduceBEq, Int.reduceLT, Int.reduceLE, Int.reduceNeg, decide_true, decide_false, Bool.not_true, Bool.not_false, ix0, ix1, ix2, and_true, and_self, S_dr]
                exact ⟨p, rfl, hH5, fun d G6 hd hH6 hA6 => hQ _ _ hd hH6 hA6⟩
              · intro l ys G5 hl2 hy hH5
                obtain ⟨yl, ym⟩ := each_of hy
                obtain ⟨qs, rfl, hq⟩ := qs_of ym
                rw [List.length_map] at yl
                exact ⟨_, rfl, sizeLine_eq ▸ (by decide), hN3 _ _ ⟨qs, ⟨d0, dl, by omega, dq, hq⟩, rfl, hH5⟩⟩
          · intro N3 hN3
            simp only [wExpr, wRaise, gSb, wSeq, wNext, wRet, wRetN, wExpr, wIfS, wSet, wAsg, wPar, wAug, w1, w2, wA, aNil, aCons, wVar, wVarT, wC, tOfW, w3c, wAnd, wOr, wNot, tAnd3, tOr3, tNot3, wIf, wTup, wLst, wLstO, wCall, wSl, pNone, pSome, wipe3, List.map_cons, List.map_nil, fI2, fI2C, fI1, fAbs, addI, mulI, intI, eqS, neS, isN_, notN_, L3.isNon, gN, gsN, gsC, gT, asT, at3, List.set_cons_zero, List.set_cons_succ, Option.some.injEq, exists_eq_left', D.bl.injEq, D.int.injEq, D.tup.injEq, List.length_cons, List.length_nil, Nat.reduceAdd, true_and, if_true, if_false, Bool.false_eq_true, reduceIte, ite_true, ite_false, len_t0, len_t1, len_t2, len_t3, len_l0, len_l1, eqI, neI, Int.reduceBEq, Int.reduceLT, Int.reduceLE, Int.reduceNeg, decide_true, decide_false, Bool.not_true, Bool.not_false, ix0, ix1, ix2, and_true, and_self]
            refine wLcDr (p := p) (fun i : Nat => D.int (0 + i)) (fun l => 1 ≤ l.length ∧ l.length ≤ 6) (fun _ y => FOk y) rfl (fun l h => by omega) (fun Kt hK => ?_) ?_ ?_
            · simp only [wExpr, wRaise, gSb, wSeq, wNext, wRet, wRetN, wExpr, wIfS, wSet, wAsg, wPar, wAug, w1, w2, wA, aNil, aCons, wVar, wVarT, wC, tOfW, w3c, wAnd, wOr, wNot, tAnd3, tOr3, tNot3, wIf, wTup, wLst, wLstO, wCall, wSl, pNone, pSome, wipe3, List.map_cons, List.map_nil, fI2, fI2C, fI1, fAbs, addI, mulI, intI, eqS, neS, isN_, notN_, L3.isNon, gN, gsN, gsC, gT, asT, at3, List.set_cons_zero, List.set_cons_succ, Option.some.injEq, exists_eq_left', D.bl.injEq, D.int.injEq, D.tup.injEq, List.length_cons, List.length_nil, Nat.reduceAdd, true_and, if_true, if_false, Bool.false_eq_true, reduceIte, ite_true, ite_false, len_t0, len_t1, len_t2, len_t3, len_l0, len_l1, eqI, neI, Int.reduceBEq, Int.reduceLT, Int.reduceLE, Int.reduceNeg, decide_true, decide_false, Bool.not_true, Bool.not_false, ix0, ix1, ix2, and_true, and_self, iRg1, S_draw]
              refine ⟨p, 6, rfl, rfl, hH3, by decide, by decide, fun r G4 r1 r2 hH4 hA4 => ⟨by omega, by omega, ?_⟩⟩
              exact hK (List.range (1 + r).toNat) G4 (by rw [List.length_range]; omega) hH4
            · intro i G4 Q hH4 hQ
              simp only [wExpr, wRaise, gSb, wSeq, wNext, wRet, wRetN, wExpr, wIfS, wSet, wAsg, wPar, wAug, w1, w2, wA, aNil, aCons, wVar, wVarT, wC, tOfW, w3c, wAnd, wOr, wNot, tAnd3, tOr3, tNot3, wIf, wTup, wLst, wLstO, wCall, wSl, pNone, pSome, wipe3, List.map_cons, List.map_nil, fI2, fI2C, fI1, fAbs, addI, mulI, intI, eqS, neS, isN_, notN_, L3.isNon, gN, gsN, gsC, gT, asT, at3, List.set_cons_zero, List.set_cons_succ, Option.some.injEq, exists_eq_left', D.bl.injEq, D.int.injEq, D.tup.injEq, List.length_cons, List.length_nil, Nat.reduceAdd, true_and, if_true, if_false, Bool.false_eq_true, reduceIte, ite_true, ite_false, len_t0, len_t1, len_t2, len_t3, len_l0, len_l1, eqI, neI, Int.reduceBEq, Int.reduceLT, Int.reduceLE, Int.reduceNeg, decide_true, decide_false, Bool.not_true, Bool.not_false, ix0, ix1, ix2, and_true, and_self, S_dr]
              exact ⟨p, rfl, hH4, fun d G5 hd hH5 hA5 => hQ _ _ hd hH5 hA5⟩
            · intro l ys G4 hl2 hy hH4
              obtain ⟨yl, ym⟩ := each_of hy
              obtain ⟨qs, rfl, hq⟩ := qs_of ym
              rw [List.length_map] at yl
              exact ⟨_, rfl, hN3 _ _ ⟨qs, fun e => by rw [e] at yl; simp at yl; omega, by omega, hq, rfl, hH4⟩⟩
        · rintro env' G3 ⟨⟨u2, u3, u4, u5, u6, u7, u8, rfl⟩, hH3⟩
          exact hN _ _ ⟨⟨_, _, _, _, _, _, _, rfl⟩, hH3⟩
    · intro N hN
      simp only [wExpr, wRaise, gSb, wSeq, wNext, wRet, wRetN, wExpr, wIfS, wSet, wAsg, wPar, wAug, w1, w2, wA, aNil, aCons, wVar, wVarT, wC, tOfW, w3c, wAnd, wOr, wNot, tAnd3, tOr3, tNot3, wIf, wTup, wLst, wLstO, wCall, wSl, pNone, pSome, wipe3, List.map_cons, List.map_nil, fI2, fI2C, fI1, fAbs, addI, mulI, intI, eqS, neS, isN_, notN_, L3.isNon, gN, gsN, gsC, gT, asT, at3, List.set_cons_zero, List.set_cons_succ, Option.some.injEq, exists_eq_left', D.bl.injEq, D.int.injEq, D.tup.injEq, List.length_cons, List.length_nil, Nat.reduceAdd, true_and, if_true, if_false, Bool.false_eq_true, reduceIte, ite_true, ite_false, len_t0, len_t1, len_t2, len_t3, len_l0, len_l1, eqI, neI, Int.reduceBEq, Int.reduceLT, Int.reduceLE, Int.reduceNeg, decide_true, decide_false, Bool.not_true, Bool.not_false, ix0, ix1, ix2, and_true, and_self, S_hand]
      exact ⟨ns, rfl, hl, fun p G1 hH1 _ _ => hN _ _ ⟨p, rfl, hH1⟩⟩
theorem law_fin : ∀ (K : PySem.W.Frag) (mg : Str → Option Value) (ns : List Int), Tx K mg → ns.length ≤ 63 → (∀ z ∈ ns, Builtin.Int.intBits z ≤ 1048576) → ∀ (G : GH) (R : K3) (Ex : X3), (∀ G', R (.bl true) G') → S_law [.lsx (ns.map D.int)] G R Ex :=
  fun _ _ ns _ h _ _ _ _ hR => ⟨ns, rfl, by omega, hR⟩
end

end K69

set_option Elab.async false
set_option linter.all false
set_option maxRecDepth 100000
set_option maxHeartbeats 0
namespace K69
open PySem PySem.Spec L2 L3
open PyProof.Rows hiding St
def looseL : List PySem.Str := (["BinError", "BadPlan", "BadText", "DIGITS", "is_int", "divisor", "is_fraction", "is_row", "negative", "fraction_text", "read_whole", "read_amount", "amount_word", "signed_word", "PLAN_DIGITS", "TEN", "TOO_GREAT", "DRAW", "RUN", "is_short", "is_plan_form", "plan_text", "plan_words", "read_plan", "_law_hand", "_law_draw", "_law_some", "_law_is", "_law_cut", "_law_written"] : List PySem.Str) ++ (["_law_told", "_law_number", "_law_fraction", "_law_word", "_law_text", "_law_wrong_texts", "_law_wrong_plans"] : List PySem.Str)
abbrev hkL : PySem.W.Hook := hookM 0 fnL (exOf fcL)
def obL (s : PySem.W.SharedT) : AlM := obsM 0 fnL (exOf fcL) (HandSHeadRun.getT s)
theorem obL_eq (s : PySem.W.SharedT) : obL s = hkL.obs s.abs := obsM_eq (HandSHeadRun.getT_eq s)
theorem run1 (w : World) (os : OsState) : (HandSHeadRun.endF (HandSHeadRun.stepQ (HandSHeadRun.denQ HandSHeadRun.tabQ) (PySem.W.OpenLaw.row PySem.Challenge.rw_seenbins_k69_whole_plan_texts).prog w) 60000 (PySem.W.OpenLaw.row PySem.Challenge.rw_seenbins_k69_whole_plan_texts).prog w os).map (fun s => HandSHeadRun.looksF (PySem.W.OpenLaw.row PySem.Challenge.rw_seenbins_k69_whole_plan_texts).prog (PySem.W.boot_heap w.params) s.abs) = some true := by kernel_rfl
theorem run2 (w : World) (os : OsState) : (HandSHeadRun.endF (HandSHeadRun.stepQ (HandSHeadRun.denQ HandSHeadRun.tabQ) (PySem.W.OpenLaw.row PySem.Challenge.rw_seenbins_k69_whole_plan_texts).prog w) 60000 (PySem.W.OpenLaw.row PySem.Challenge.rw_seenbins_k69_whole_plan_texts).prog w os).map (fun s => HandSHeadRun.seenQ (PySem.W.view (PySem.W.OpenLaw.row PySem.Challenge.rw_seenbins_k69_whole_plan_texts).prog [41]) looseL (PySem.importedModules (PySem.W.OpenLaw.row PySem.Challenge.rw_seenbins_k69_whole_plan_texts).prog.main.body) (fun s => PySem.W.xlAt (PySem.W.view (PySem.W.OpenLaw.row PySem.Challenge.rw_seenbins_k69_whole_plan_texts).prog [41]) [] s && PySem.W.recOk (PySem.W.OpenLaw.row PySem.Challenge.rw_seenbins_k69_whole_plan_texts).toRowW.records s) s.abs) = some (PySem.W.openGood (PySem.W.view (PySem.W.OpenLaw.row PySem.Challenge.rw_seenbins_k69_whole_plan_texts).prog [41]) looseL) := by kernel_rfl
theorem run3 (w : World) (os : OsState) : (HandSHeadRun.endF (HandSHeadRun.stepQ (HandSHeadRun.denQ HandSHeadRun.tabQ) (PySem.W.OpenLaw.row PySem.Challenge.rw_seenbins_k69_whole_plan_texts).prog w) 60000 (PySem.W.OpenLaw.row PySem.Challenge.rw_seenbins_k69_whole_plan_texts).prog w os).map obL = some (hkL.val w) := by kernel_rfl
theorem split3 {σ α β γ : Type _} {f : σ → α} {g : σ → β} {h : σ → γ} {a : α} {b : β} {c : γ} : ∀ {o : Option σ}, o.map f = some a → o.map g = some b → o.map h = some c → o.map (fun s => (f s, g s, h s)) = some (a, b, c)
  | some s, e1, e2, e3 => by
    cases e1
    cases e2
    cases e3
    rfl
theorem runL (w : World) : HandSHeadRun.RunEq (PySem.W.OpenLaw.row PySem.Challenge.rw_seenbins_k69_whole_plan_texts) (PySem.W.view (PySem.W.OpenLaw.row PySem.Challenge.rw_seenbins_k69_whole_plan_texts).prog [41]) hkL obL 60000 looseL w := fun os => split3 (run1 w os) (run2 w os) (run3 w os)
end K69
open PySem PySem.W PySem.Calls PyProof.Rows
theorem PySem.Challenge.cw_seenbins_k69_whole_plan_texts_holds : PySem.Challenge.rw_seenbins_k69_whole_plan_texts.Holds := by
  w_on; o_law
  refine HandSHeadRun.head_any (r := OpenLaw.row PySem.Challenge.rw_seenbins_k69_whole_plan_texts) (q := view (OpenLaw.row PySem.Challenge.rw_seenbins_k69_whole_plan_texts).prog [41]) (H := K69.hkL) (ob := K69.obL) (M := 60000) (loose := K69.looseL) (d := HandSHeadRun.topDef (OpenLaw.row PySem.Challenge.rw_seenbins_k69_whole_plan_texts).prog 41) (kwd := []) K69.obL_eq
    (by kernel_rfl) (fun s => by kernel_rfl) K69.runL (by kernel_rfl) (by kernel_rfl) (by kernel_rfl) (by rfl) (by first | assumption | decide +kernel) (by decide +kernel) ⟨rfl, rfl, rfl, rfl, rfl, by decide +kernel⟩ ?hw ?hc
  case hw => w_witness2
  case hc => exact L3.walk_ofM (l := PySem.Challenge.rw_seenbins_k69_whole_plan_texts) (n := 63) (k := 10) (x := "script") rfl (by decide) (by kernel_rfl) ⟨rfl, by decide, by decide⟩ (by kernel_rfl) (fun _ _ _ _ T => K69.ok_law T) K69.law_fin

